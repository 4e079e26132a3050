import PyProof.Rows.All
import Wide.All
import OpenK.AllK
import Wide.FinOn
import HandS.ForMost
import HandS.StrMore
import KE.SortData
import KE.DataMinMax
import HandS.ForExc
import HandS.TupAny
import HandS.CallSlots
import KE.KDictKeyed
import KE.KeyNested
import HandS.Lambda
import HandS.Flow
import HandS.Wide
import HandS.Dict
import HandS.More
import HandS.Deep
import HandS.SetKeys
import HandS.IsInst
import HandS.Codes
import HandS.SortInts
import HandS.Gcd
import HandS.WideBits
import PyProof.FactsAll.dict_0
import PyProof.FactsAll.dict_3
import HandS.Walk
import HandS.Zip
import HandS.Exc
import HandS.SetBool
import HandS.Strs
import HandS.Style
import HandS.Iter
import HandS.Text
import HandS.ExcOwn
import HandS.ExcIs
import HandS.WordsExc
import KE.KDictDisplayH
import KE.GoesMore
import HandS.DictSubView
import HandS.DictTup
import KE.SortKeyHeap
import PyProof.FactsAll.list_0
import PyProof.FactsAll.list_3
import PyProof.FactsAll.str_0
import PyProof.FactsAll.str_4
import PyProof.FactsAll.str_8
import HandS.Ends
import HandS.EndTab
import HandS.HeadHook4
import KE.IntTextText
import KE.LtData
import KE.KNestM
import KE.RegKIsAll
import KE.KLam
import PySem.Challenge.RW_maypass_k53_mixes_and_windows
set_option Elab.async false
set_option linter.all false
set_option maxRecDepth 100000
/-! PL1: an own small language over data, its evaluator. Plain Lean; no program in sight. -/
namespace PL
open PySem

/-- data: ints, bools, None, texts (their codes), tuples by value; scr: a list of ints that is only read; ob: a list, dict or instance, by its number in the store; fn: a def -/
inductive D where
  | non | bl (b : Bool) | int (i : Int) | str (x : List Nat) | tup (xs : List D) | scr (xs : List Int) | ob (i : Nat) | fn (f : Nat)
  deriving Inhabited
mutual
def D.beq : D → D → Bool
  | .non, .non => true
  | .bl a, .bl b => a == b
  | .int a, .int b => a == b
  | .str a, .str b => a == b
  | .tup a, .tup b => D.beqs a b
  | .scr a, .scr b => a == b
  | .ob a, .ob b => a == b
  | .fn a, .fn b => a == b
  | _, _ => false
def D.beqs : List D → List D → Bool
  | [], [] => true
  | a :: as, b :: bs => D.beq a b && D.beqs as bs
  | _, _ => false
end
mutual
theorem D.beq_of : ∀ {a b : D}, D.beq a b = true → a = b
  | .non, b, h => by cases b <;> first | rfl | cases h
  | .bl x, b, h => by cases b <;> first | (simp only [D.beq, beq_iff_eq] at h; rw [h]) | cases h
  | .int x, b, h => by cases b <;> first | (simp only [D.beq, beq_iff_eq] at h; rw [h]) | cases h
  | .str x, b, h => by cases b <;> first | (simp only [D.beq, beq_iff_eq] at h; rw [h]) | cases h
  | .tup x, b, h => by cases b <;> first | (simp only [D.beq] at h; rw [D.beqs_of h]) | cases h
  | .scr x, b, h => by cases b <;> first | (simp only [D.beq, beq_iff_eq] at h; rw [h]) | cases h
  | .ob x, b, h => by cases b <;> first | (simp only [D.beq, beq_iff_eq] at h; rw [h]) | cases h
  | .fn x, b, h => by cases b <;> first | (simp only [D.beq, beq_iff_eq] at h; rw [h]) | cases h
theorem D.beqs_of : ∀ {a b : List D}, D.beqs a b = true → a = b
  | [], [], _ => rfl
  | [], _ :: _, h => by cases h
  | _ :: _, [], h => by cases h
  | a :: as, b :: bs, h => by
    simp only [D.beqs, Bool.and_eq_true] at h
    rw [D.beq_of h.1, D.beqs_of h.2]
end
mutual
theorem D.beq_self : ∀ a : D, D.beq a a = true
  | .non => rfl
  | .bl _ => by simp [D.beq]
  | .int _ => by simp [D.beq]
  | .str _ => by simp [D.beq]
  | .tup x => by simp only [D.beq]; exact D.beqs_self x
  | .scr _ => by simp [D.beq]
  | .ob _ => by simp [D.beq]
  | .fn _ => by simp [D.beq]
theorem D.beqs_self : ∀ a : List D, D.beqs a a = true
  | [] => rfl
  | a :: as => by simp only [D.beqs, Bool.and_eq_true]; exact ⟨D.beq_self a, D.beqs_self as⟩
end
instance : DecidableEq D := fun a b => if h : D.beq a b = true then isTrue (D.beq_of h) else isFalse fun e => h (by rw [e]; exact D.beq_self b)

/-- what stands at a number of the store; gone: a dict that is walked -/
inductive O where
  | lst (xs : List D) | dK (kvs : List (D × D)) | dT (kvs : List (D × D)) | ins (c : Nat) (fs : List (List Nat × D)) | gone | tab (q : List Nat)
  deriving DecidableEq, Inhabited
abbrev Sto := List O
/-- an end: stuck (nothing is said), a value, an exception (its class, its fields) -/
inductive R (α : Type) where
  | stuck | ok (a : α) (S : Sto) | exc (c : Nat) (fs : List (List Nat × D)) (S : Sto)
def R.bind {α β : Type} (r : R α) (f : α → Sto → R β) : R β := match r with
  | .stuck => .stuck
  | .ok a S => f a S
  | .exc c fs S => .exc c fs S
@[simp] theorem R.bind_ok {α β : Type} (a : α) (S : Sto) (f : α → Sto → R β) : (R.ok a S).bind f = f a S := rfl
@[simp] theorem R.bind_stuck {α β : Type} (f : α → Sto → R β) : (R.stuck : R α).bind f = .stuck := rfl
@[simp] theorem R.bind_exc {α β : Type} (c : Nat) (fs : List (List Nat × D)) (S : Sto) (f : α → Sto → R β) : (R.exc c fs S : R α).bind f = .exc c fs S := rfl
/-- within a comprehension nothing may be raised -/
def R.calm {α : Type} : R α → R α
  | .exc _ _ _ => .stuck
  | r => r
@[simp] theorem R.calm_ok {α : Type} (a : α) (S : Sto) : (R.ok a S).calm = .ok a S := rfl
def ofOpt {α : Type} (o : Option α) (S : Sto) : R α := match o with
  | some a => .ok a S
  | none => .stuck
@[simp] theorem ofOpt_some {α : Type} (a : α) (S : Sto) : ofOpt (some a) S = .ok a S := rfl
@[simp] theorem ofOpt_none {α : Type} (S : Sto) : ofOpt (none : Option α) S = .stuck := rfl

/-! ### operations upon data -/
mutual
def D.py : D → Option PyData
  | .non => some .none
  | .bl b => some (.bool b)
  | .int i => some (.int i)
  | .str x => some (.str ⟨x.toArray⟩)
  | .tup xs => (D.pys xs).map .tuple
  | _ => none
def D.pys : List D → Option (List PyData)
  | [] => some []
  | x :: xs => match D.py x, D.pys xs with
    | some d, some ds => some (d :: ds)
    | _, _ => none
end
def eqD (x y : D) : Option Bool := match x.py, y.py with
  | some a, some b => if SeqAt.shaped a && SeqAt.shaped b then some (PyData.eqv a b) else none
  | _, _ => none
mutual
def ltD : D → D → Option Bool
  | .int a, .int b => some (decide (a < b))
  | .str a, .str b => some (decide (a < b))
  | .tup a, .tup b => ltDs a b
  | _, _ => none
def ltDs : List D → List D → Option Bool
  | [], [] => some false
  | [], _ :: _ => some true
  | _ :: _, [] => some false
  | a :: as, b :: bs => match eqD a b with
    | some true => ltDs as bs
    | some false => ltD a b
    | none => none
end
def isNon : D → Bool
  | .non => true
  | _ => false
def cmpD (o : CmpOp) (x y : D) : Option Bool := match o with
  | .Eq => eqD x y
  | .NotEq => (eqD x y).map (!·)
  | .Lt => match x, y with
    | .int a, .int b => some (decide (a < b))
    | .str a, .str b => some (decide (a < b))
    | _, _ => none
  | .Gt => match x, y with
    | .int a, .int b => some (decide (b < a))
    | .str a, .str b => some (decide (b < a))
    | _, _ => none
  | .LtE => match x, y with
    | .int a, .int b => some (decide (a ≤ b))
    | .str a, .str b => some (!decide (b < a))
    | _, _ => none
  | .GtE => match x, y with
    | .int a, .int b => some (decide (b ≤ a))
    | .str a, .str b => some (!decide (a < b))
    | _, _ => none
  | .Is => match y with
    | .non => some (isNon x)
    | _ => none
  | .IsNot => match y with
    | .non => some (!isNon x)
    | _ => none
  | .In | .NotIn => none
/-- the list at a number -/
def lstAt (S : Sto) (i : Nat) : Option (List D) := match S[i]? with
  | some (.lst xs) => some xs
  | _ => none
def insAt (S : Sto) (i : Nat) : Option (Nat × List (List Nat × D)) := match S[i]? with
  | some (.ins c fs) => some (c, fs)
  | _ => none
def dctAt (S : Sto) (i : Nat) : Option (Bool × List (D × D)) := match S[i]? with
  | some (.dK kvs) => some (false, kvs)
  | some (.dT kvs) => some (true, kvs)
  | _ => none
def mkDct (b : Bool) (kvs : List (D × D)) : O := if b then .dT kvs else .dK kvs
/-- the items of a list or a tuple -/
def seqOf (S : Sto) : D → Option (List D)
  | .tup xs => some xs
  | .scr xs => some (xs.map D.int)
  | .ob i => lstAt S i
  | _ => none
/-- a key of a dict of ints and texts; of tuples of such -/
def keyK : D → Option (Sum Int (List Nat))
  | .int i => some (.inl i)
  | .str x => some (.inr x)
  | _ => none
def keyKs : List D → Option (List (Sum Int (List Nat)))
  | [] => some []
  | x :: xs => match keyK x, keyKs xs with
    | some k, some ks => some (k :: ks)
    | _, _ => none
mutual
/-- nested keys: ints, texts and tuples of such -/
def D.keyN : D → Bool
  | .int _ => true
  | .str _ => true
  | .tup xs => D.keyNs xs
  | _ => false
def D.keyNs : List D → Bool
  | [] => true
  | x :: xs => D.keyN x && D.keyNs xs
end
mutual
def D.kdep : D → Nat
  | .tup xs => D.kdeps xs + 1
  | _ => 0
def D.kdeps : List D → Nat
  | [] => 0
  | x :: xs => max (D.kdep x) (D.kdeps xs)
end
def okKey (b : Bool) (d : D) : Bool := if b then (match d with | .tup xs => D.keyNs xs && decide (D.kdeps xs < 8) | _ => false) else (keyK d).isSome
def dlook (kvs : List (D × D)) (k : D) : Option D := (kvs.find? fun p => decide (p.1 = k)).map (·.2)
def dput (kvs : List (D × D)) (k v : D) : List (D × D) := if kvs.any (fun p => decide (p.1 = k)) then kvs.map (fun p => if p.1 = k then (k, v) else p) else kvs ++ [(k, v)]
/-- x in xs, data -/
def inD (x : D) (ys : List D) : Option Bool := match x.py, D.pys ys with
  | some d, some ds => if SeqAt.shaped d && SeqAt.shaped (.list ds) then some (ds.any fun z => PyData.eqv z d) else none
  | _, _ => none
/-- a sign in a text -/
def InSg : D → D → Option Bool
  | .str [c], .str t => some (decide (c ∈ t))
  | _, _ => none
def inSt (S : Sto) (x y : D) : Option Bool := match y with
  | .str _ => InSg x y
  | .tup ys => inD x ys
  | .ob i => (match dctAt S i with
    | some (b, kvs) => if okKey b x then some (dlook kvs x).isSome else none
    | none => (match lstAt S i with
      | some ys => inD x ys
      | none => none))
  | _ => none
/-- truth -/
def truD (S : Sto) : D → Option Bool
  | .non => some false
  | .bl b => some b
  | .int i => some (i != 0)
  | .str x => if x.length ≤ sizeLine then some (!x.isEmpty) else none
  | .tup xs => some (!xs.isEmpty)
  | .ob i => match dctAt S i with
    | some (b, kvs) => if b then none else some (!kvs.isEmpty)
    | none => (lstAt S i).map fun xs => !xs.isEmpty
  | _ => none
abbrev ixN := L2.ixN
abbrev atI {α : Type} (xs : List α) (i : Int) : Option α := L2.atI xs i
/-- a slice -/
def cut {α : Type} (xs : List α) (lo hi : Option Int) : List α := (xs.drop (HT.sIx xs.length 0 lo)).take (HT.sIx xs.length xs.length hi - HT.sIx xs.length 0 lo)
def idxD (S : Sto) (x y : D) : Option D := match x, y with
  | .str t, .int i => if t.length ≤ sizeLine then (atI t i).map fun c => .str [c] else none
  | .tup xs, .int i => atI xs i
  | .scr xs, .int i => (atI xs i).map .int
  | .ob j, k => match dctAt S j with
    | some (b, kvs) => if okKey b k then dlook kvs k else none
    | none => match lstAt S j, k with
      | some xs, .int i => atI xs i
      | _, _ => none
  | _, _ => none
/-- a written bound of a slice -/
def partR (d : D) (S : Sto) : R (Option Int) := match d with
  | .int i => .ok (some i) S
  | _ => .stuck
/-- binary operators upon values -/
def binD (o : Operator) (x y : D) : Option D := match o, x, y with
  | .Add, .int a, .int b => some (.int (a + b))
  | .Sub, .int a, .int b => some (.int (a - b))
  | .Mult, .int a, .int b => if a.natAbs.log2 + b.natAbs.log2 < 1000000 then some (.int (a * b)) else none
  | .FloorDiv, .int a, .int b => if 0 < b ∧ b.natAbs.log2 < 9000 then some (.int (a / b)) else none
  | .Mod, .int a, .int b => if 0 < b then some (.int (a % b)) else none
  | .Pow, .int a, .int b => if 0 ≤ b ∧ b ≤ 1000 ∧ a.natAbs < 2 ^ 64 then some (.int (a ^ b.toNat)) else none
  | .Add, .str a, .str b => if a.length + b.length ≤ sizeLine then some (.str (a ++ b)) else none
  | .Add, .tup a, .tup b => if a.length + b.length ≤ sizeLine then some (.tup (a ++ b)) else none
  | _, _, _ => none
/-- ints, sorted -/
def insI (x : Int) : List Int → List Int
  | [] => [x]
  | y :: ys => if x ≤ y then x :: y :: ys else y :: insI x ys
def sortI (xs : List Int) : List Int := xs.foldr insI []
/-- each once -/
def onceI : List Int → List Int
  | [] => []
  | x :: xs => x :: (onceI xs).filter fun y => !decide (y = x)
def allInt : List D → Option (List Int)
  | [] => some []
  | .int i :: xs => (allInt xs).map (i :: ·)
  | _ :: _ => none
/-- data that are alike, sorted -/
def pyOf (d : D) : PyData := d.py.getD .none
def pyAlike (ds : List PyData) : Bool := ds.all fun a => ds.all fun b => PySem.W.alike a b
def pyTup1 : PyData → Bool
  | .tuple (_ :: _) => true
  | _ => false
def pyFlat : PyData → Bool
  | .none => false
  | .tuple _ => false
  | _ => true
def pyNoN : PyData → Bool
  | .none => false
  | _ => true
def pySortable (ds : List PyData) : Bool := ds.all pyTup1 || ds.all pyFlat
def pyLe (a b : D) : Bool := !PySem.W.dataLt (pyOf b) (pyOf a)
def sortPy (xs : List D) : Option (List D) := match D.pys xs with
  | some ds => if (pyAlike ds && (decide (ds.length < 2) || pySortable ds) && decide (PyData.depthAll ds ≤ 16) && decide (xs.length ≤ 1000000)) = true then some (xs.mergeSort pyLe) else none
  | none => none
def sortD (xs : List D) : Option (List D) := match allInt xs with
  | some ns => some ((sortI ns).map .int)
  | none => sortPy xs
/-- the least of data that are alike -/
def minL (x : D) (r : List D) : D := r.foldl (fun a y => if PySem.W.dataLt (pyOf y) (pyOf a) = true then y else a) x
def pyMinOk (ds : List PyData) : Bool := pyAlike ds && ds.all pyNoN && ds.all SeqAt.shaped && decide (PyData.depthAll ds ≤ 16)
def minPy (xs : List D) : Option D := match xs with
  | x :: r => match D.pys (x :: r) with
    | some ds => if pyMinOk ds = true then some (minL x r) else none
    | none => none
  | [] => none
def minPy2 (x y : D) : Option D := match D.pys [x, y] with
  | some ds => if pyMinOk ds = true then some (if PySem.W.dataLt (pyOf y) (pyOf x) = true then y else x) else none
  | none => none
def maxPy2 (x y : D) : Option D := match D.pys [x, y] with
  | some ds => if pyMinOk ds = true then some (if PySem.W.dataLt (pyOf x) (pyOf y) = true then y else x) else none
  | none => none
/-- a set of ints, sorted -/
def setSortD (xs : List D) : Option (List D) := (allInt xs).bind fun ns => if (onceI ns).length < 64 then some ((sortI (onceI ns)).map .int) else none

inductive Ty where
  | int | bool | str | tuple | list
  deriving DecidableEq, Repr
def isiD (S : Sto) (x : D) : Ty → Option Bool
  | .int => (match x with | .non | .str _ | .tup _ => some false | .bl _ | .int _ => some true | _ => none)
  | .bool => (match x with | .non | .str _ | .tup _ | .int _ => some false | .bl _ => some true | _ => none)
  | .str => (match x with | .non | .bl _ | .int _ | .tup _ => some false | .str _ => some true | _ => none)
  | .tuple => (match x with | .non | .bl _ | .int _ | .str _ => some false | .tup _ => some true | _ => none)
  | .list => none

/-- built-in functions -/
inductive BI where
  | len | abs | int | min2 | max2 | ord | str | divmod | tupOf | gcd | min1
  deriving DecidableEq, Repr
/-- built-in methods -/
inductive BM where
  | append | pop | get2 | setdefault | extend | find2 | zfill
  deriving DecidableEq, Repr

mutual
inductive E where
  | cst (d : D) | gv (x : Str) (d : D) | gf (x : Str) (f : Nat) | var (i : Nat) | tup (es : Es) | neg (a : E) | not (a : E) | bop (conj : Bool) (es : Es)
  | bin (o : Operator) (a b : E) | cmp (o : CmpOp) (a b : E) | chn (o1 o2 : CmpOp) (a b c : E) | ite (c a b : E) | idx (a i : E) | slc (a lo hi : E)
  | call (x : Str) (f : Nat) (es : Es) | bi (b : BI) (es : Es) | bm (m : BM) (o : E) (es : Es) | isi (a : E) (t : Ty) | fld (o : E) (f : Str) | meth (o : E) (m : Str) (es : Es) | new (x : Str) (c : Nat) (es : Es)
  | own (l : L) | tupL (l : L) | allL (l : L) | anyL (l : L) | sumL (l : L) | lenL (l : L) | joinL (e : E) (l : L) | dnew (t : Bool) | dnew1 (t : Bool) (k v : E)
inductive Es where
  | nil | cons (e : E) (es : Es)
inductive L where
  | disp (es : Es) | comp (own : List Nat) (elt : E) (g : G) (it : It) (cs : Es) | comp2 (own own1 : List Nat) (elt : E) (g : G) (it : It) (g1 : G) (it1 : It) (cs : Es)
  | listOf (e : E) | sortL (l : L) | sortE (e : E) | sortSC (own : List Nat) (elt : E) (g : G) (it : It) (cs : Es) | slc (a lo hi : E) | rep (l : L) (n : E) | cat (a b : L) | catE (a : E) (b : L) | rev (e : E) | catEE (a b : E) | sortK (t : Nat) (q : List Nat) (e : E) (i : Nat) (k : E)
inductive G where
  | nm (i : Nat) | tup (gs : Gs)
inductive Gs where
  | nil | cons (g : G) (gs : Gs)
inductive It where
  | ofE (e : E) | ofL (l : L) | rng1 (a : E) | rng2 (a b : E) | rng3 (a b c : E) | enm (e : E) | zp (a b : E) | items (e : E) | vals (e : E)
end
mutual
inductive St where
  | asg (g : G) (e : E) | asgL (i : Nat) (l : L) | aug (i : Nat) (o : Operator) (e : E) | sub (o i e : E) | fst (o : E) (f : Str) (e : E) | ex (e : E) | ite (c : E) (a b : Ss) | for_ (g : G) (it : It) (b : Ss) | forD (g : G) (its : Bool) (j : Nat) (b : Ss) | whl (c : E) (b : Ss)
  | ret (e : E) | ret0 | brk | cnt | pass | raise (x : Str) (c : Nat) (msg : List Nat) | tryIs (b : Ss) (x : Str) (c : Nat) (i : Nat) (y : Str) (m : Nat)
inductive Ss where
  | nil | cons (s : St) (ss : Ss)
end
/-- a bound that is left out -/
def E.isN : E → Bool
  | .cst .non => true
  | _ => false
abbrev Env := List (Option D)
/-- how a statement ends -/
inductive F where
  | nx (ρ : Env) (S : Sto) | ret (d : D) (S : Sto) | brk (ρ : Env) (S : Sto) | cnt (ρ : Env) (S : Sto) | exc (c : Nat) (fs : List (List Nat × D)) (ρ : Env) (S : Sto) | stuck

-- targets
mutual
def asgG : G → D → Env → Option Env
  | .nm i, d, ρ => if i < ρ.length then some (ρ.set i (some d)) else none
  | .tup gs, d, ρ => match d with
    | .tup xs => asgGs gs xs ρ
    | _ => none
def asgGs : Gs → List D → Env → Option Env
  | .nil, [], ρ => some ρ
  | .cons g gs, x :: xs, ρ => (asgG g x ρ).bind (asgGs gs xs)
  | _, _, _ => none
end
def wipeE (ρ : Env) : List Nat → Env
  | [] => ρ
  | v :: vs => (wipeE ρ vs).set v none
/-- what is walked: its items; a list of the store that has to stay as it is; a dict that is locked meanwhile -/
structure ItV where
  items : List D
  watch : List (Nat × List D) := []
def ItV.stays (v : ItV) (S : Sto) : Bool := v.watch.all fun p => decide (lstAt S p.1 = some p.2)
/-- a list of the store is watched -/
def watchD (x : D) (xs : List D) : List (Nat × List D) := match x with
  | .ob i => [(i, xs)]
  | _ => []
def enumD (n : Nat) : List D → List D
  | [] => []
  | x :: xs => .tup [.int n, x] :: enumD (n + 1) xs
def zipD : List D → List D → List D
  | x :: xs, y :: ys => .tup [x, y] :: zipD xs ys
  | _, _ => []
def rngD (lo : Int) (n : Nat) (c : Int) : List D := (List.range n).map fun (k : Nat) => .int (lo + (k : Int) * c)
def small (i : Int) : Bool := decide (i.natAbs < 4611686018427387904)
/-- the whole of a comprehension -/
def compR (xs : List D) (v : ItV) (turn : D → Sto → R (List D)) (acc : List D) (S : Sto) : R (List D) := match xs with
  | [] => if v.stays S then .ok acc S else .stuck
  | x :: r => if v.stays S then (turn x S).calm.bind fun ys S1 => if (acc ++ ys).length ≤ 4000000 then compR r v turn (acc ++ ys) S1 else .stuck else .stuck
def forR (xs : List D) (v : ItV) (body : D → Env → Sto → F) (ρ : Env) (S : Sto) : F := match xs with
  | [] => if v.stays S then .nx ρ S else .stuck
  | x :: r => if v.stays S then (match body x ρ S with
    | .nx ρ1 S1 => forR r v body ρ1 S1
    | .cnt ρ1 S1 => forR r v body ρ1 S1
    | .brk ρ1 S1 => .nx ρ1 S1
    | f => f) else .stuck
def whlR (n : Nat) (test : Env → Sto → R Bool) (body : Env → Sto → F) (ρ : Env) (S : Sto) : F := match n with
  | 0 => .stuck
  | n + 1 => match test ρ S with
    | .stuck => .stuck
    | .exc c fs S1 => .exc c fs ρ S1
    | .ok false S1 => .nx ρ S1
    | .ok true S1 => match body ρ S1 with
      | .nx ρ1 S2 => whlR n test body ρ1 S2
      | .cnt ρ1 S2 => whlR n test body ρ1 S2
      | .brk ρ1 S2 => .nx ρ1 S2
      | f => f

/-- the signs of a number -/
def decI (i : Int) : List Nat := (Str.ofString (toString i)).cps.toList
def lenD (ds : List D) (S : Sto) : Option D := match ds with
  | [.str t] => if t.length ≤ sizeLine then some (.int t.length) else none
  | [.ob i] => match dctAt S i with
    | some (false, kvs) => some (.int kvs.length)
    | some (true, _) => none
    | none => (lstAt S i).map fun xs => .int xs.length
  | [x] => (seqOf S x).map fun xs => .int xs.length
  | _ => none
def absD : List D → Option D
  | [.int i] => some (.int (if i < 0 then -i else i))
  | _ => none
def intD : List D → Option D
  | [.int i] => some (.int i)
  | [.bl k] => some (.int (if k then 1 else 0))
  | [.str t] => if t.length ≤ 640 then (PySem.intText? ⟨t.toArray⟩).map .int else none
  | _ => none
def min2D : List D → Option D
  | [.int i, .int j] => some (.int (if j < i then j else i))
  | [x, y] => minPy2 x y
  | _ => none
def max2D : List D → Option D
  | [.int i, .int j] => some (.int (if j > i then j else i))
  | [x, y] => maxPy2 x y
  | _ => none
def min1D (ds : List D) (S : Sto) : Option D := match ds with
  | [.ob i] => match lstAt S i with
    | some xs => minPy xs
    | none => none
  | _ => none
def ordD : List D → Option D
  | [.str [c]] => some (.int c)
  | _ => none
def strD : List D → Option D
  | [.int i] => if i.natAbs.log2 < 1920 then some (.str (decI i)) else none
  | _ => none
def divmodD : List D → Option D
  | [.int i, .int j] => if 0 < j ∧ j.natAbs.log2 < 9000 then some (.tup [.int (i / j), .int (i % j)]) else none
  | _ => none
def gcdD : List D → Option D
  | [.int a, .int b] => some (.int ((Nat.gcd a.natAbs b.natAbs : Nat) : Int))
  | _ => none
def tupD (ds : List D) (S : Sto) : Option D := match ds with
  | [x] => (seqOf S x).map .tup
  | _ => none
/-- the built-in functions upon values -/
def biD (b : BI) (ds : List D) (S : Sto) : Option D := match b with
  | .len => lenD ds S
  | .abs => absD ds
  | .int => intD ds
  | .min2 => min2D ds
  | .max2 => max2D ds
  | .ord => ordD ds
  | .str => strD ds
  | .divmod => divmodD ds
  | .tupOf => tupD ds S
  | .gcd => gcdD ds
  | .min1 => min1D ds S
def pushO (S : Sto) (o : O) : R D := .ok (.ob S.length) (S ++ [o])
def appendM (o : D) (ds : List D) (S : Sto) : R D := match o, ds with
  | .ob i, [x] => match lstAt S i with
    | some xs => if xs.length < 10000000 then .ok .non (S.set i (.lst (xs ++ [x]))) else .stuck
    | none => .stuck
  | _, _ => .stuck
def popM (o : D) (ds : List D) (S : Sto) : R D := match o, ds with
  | .ob i, [] => match lstAt S i with
    | some xs => match xs[xs.length - 1]? with
      | some y => .ok y (S.set i (.lst xs.dropLast))
      | none => .stuck
    | none => .stuck
  | _, _ => .stuck
def extendM (o : D) (ds : List D) (S : Sto) : R D := match o, ds with
  | .ob i, [.ob j] => match lstAt S i, lstAt S j with
    | some xs, some ys => if xs.length + ys.length ≤ 10000000 then .ok .non (S.set i (.lst (xs ++ ys))) else .stuck
    | _, _ => .stuck
  | _, _ => .stuck
def get2M (o : D) (ds : List D) (S : Sto) : R D := match o, ds with
  | .ob i, [k, x] => match dctAt S i with
    | some (b, kvs) => if okKey b k then .ok ((dlook kvs k).getD x) S else .stuck
    | none => .stuck
  | _, _ => .stuck
def setdefaultM (o : D) (ds : List D) (S : Sto) : R D := match o, ds with
  | .ob i, [k, x] => match dctAt S i with
    | some (b, kvs) => if okKey b k = true ∧ kvs.length < 1000000 then (match dlook kvs k with
      | some v => .ok v S
      | none => .ok x (S.set i (mkDct b (dput kvs k x)))) else .stuck
    | none => .stuck
  | _, _ => .stuck
def find2M (o : D) (ds : List D) (S : Sto) : R D := match o, ds with
  | .str a, [.str b, .int i] => .ok (.int (Txt.find3 ⟨a.toArray⟩ ⟨b.toArray⟩ i)) S
  | _, _ => .stuck
def zfillM (o : D) (ds : List D) (S : Sto) : R D := match o, ds with
  | .str a, [.int i] => if PySem.PadOk i then .ok (.str (Txt.zfill ⟨a.toArray⟩ i).cps.toList) S else .stuck
  | _, _ => .stuck
/-- the receiver is of the right kind -/
def recvOk (m : BM) (x : D) (S : Sto) : Bool := match m, x with
  | .append, .ob i | .pop, .ob i | .extend, .ob i => (lstAt S i).isSome
  | .get2, .ob i | .setdefault, .ob i => (dctAt S i).isSome
  | .find2, .str _ | .zfill, .str _ => true
  | _, _ => false
/-- the built-in methods upon values -/
def bmD (m : BM) (o : D) (ds : List D) (S : Sto) : R D := match m with
  | .append => appendM o ds S
  | .pop => popM o ds S
  | .extend => extendM o ds S
  | .get2 => get2M o ds S
  | .setdefault => setdefaultM o ds S
  | .find2 => find2M o ds S
  | .zfill => zfillM o ds S
def setD (o i v : D) (S : Sto) : Option Sto := match o with
  | .ob j => match dctAt S j with
    | some (b, kvs) => if okKey b i ∧ kvs.length < 1000000 then some (S.set j (mkDct b (dput kvs i v))) else none
    | none => match lstAt S j, i with
      | some xs, .int k => (ixN xs.length k).map fun n => S.set j (.lst (xs.set n v))
      | _, _ => none
  | _ => none
def augD (o : Operator) (x y : D) : Option D := match o, x, y with
  | .Add, .int a, .int b => some (.int (a + b))
  | .Sub, .int a, .int b => some (.int (a - b))
  | _, _, _ => none
def allBl : List D → Option (List Bool)
  | [] => some []
  | .bl b :: xs => (allBl xs).map (b :: ·)
  | _ :: _ => none
def allStr : List D → Option (List (List Nat))
  | [] => some []
  | .str i :: xs => (allStr xs).map (i :: ·)
  | _ :: _ => none
def joinT (sep : List Nat) : List (List Nat) → List Nat
  | [] => []
  | [x] => x
  | x :: y :: r => x ++ sep ++ joinT sep (y :: r)
def putFs (f : List Nat) (v : D) : List (List Nat × D) → List (List Nat × D)
  | [] => [(f, v)]
  | (g, w) :: r => if g = f then (f, v) :: r else (g, w) :: putFs f v r
def lookFs (f : List Nat) : List (List Nat × D) → Option D
  | [] => none
  | (g, w) :: r => if g = f then some w else lookFs f r
/-- what calls are worth: defs (a level below), the defs of makings (two levels below), the methods and makings of the classes -/
structure Tab where
  cf : Nat → List D → Sto → R D
  cn : Nat → List D → Sto → R D
  meth : Nat → Str → Option Nat
  init : Nat → Option Nat
  lit : Bool
  isx : Nat → Nat → Option Bool

/-- a list sorted; a tuple of ints -/
def sortOf (S : Sto) (x : D) : Option (List D) := match x with
  | .ob i => (lstAt S i).bind sortD
  | .tup xs => (allInt xs).map fun ns => (sortI ns).map .int
  | _ => none
/-- the keys of items, by a function that changes nothing -/
def keysR (f : D → R D) (S : Sto) : List D → Option (List D)
  | [] => some []
  | x :: xs => match f x with
    | .ok d S1 => if S1 = S then (keysR f S xs).map (d :: ·) else none
    | _ => none
/-- items sorted by their keys -/
def sortByK (ks xs : List D) : Option (List D) := match D.pys ks with
  | some ds => if (pyAlike ds && pySortable ds && decide (PyData.depthAll ds ≤ 16) && decide (xs.length ≤ 1000000)) = true then some (((ks.zip xs).mergeSort fun a b => pyLe a.1 b.1).map (·.2)) else none
  | none => none
variable (T : Tab)
mutual
def evE (e : E) (ρ : Env) (S : Sto) : R D := match e with
  | .cst d => .ok d S
  | .gv _ d => .ok d S
  | .gf _ f => .ok (.fn f) S
  | .var i => match ρ[i]? with
    | some (some d) => .ok d S
    | _ => .stuck
  | .tup es => (evEs es ρ S).bind fun ds S1 => .ok (.tup ds) S1
  | .neg a => (evE a ρ S).bind fun x S1 => match x with
    | .int i => .ok (.int (-i)) S1
    | _ => .stuck
  | .not a => (evE a ρ S).bind fun x S1 => (ofOpt (truD S1 x) S1).bind fun b S1 => .ok (.bl (!b)) S1
  | .bop k es => evB k es ρ S
  | .bin o a b => (evE a ρ S).bind fun x S1 => (evE b ρ S1).bind fun y S2 => ofOpt (binD o x y) S2
  | .cmp o a b => (evE a ρ S).bind fun x S1 => (evE b ρ S1).bind fun y S2 => match o with
    | .In => (ofOpt (inSt S2 x y) S2).bind fun b S2 => .ok (.bl b) S2
    | .NotIn => (ofOpt ((inSt S2 x y).map (!·)) S2).bind fun b S2 => .ok (.bl b) S2
    | _ => (ofOpt (cmpD o x y) S2).bind fun b S2 => .ok (.bl b) S2
  | .chn o1 o2 a b c => (evE a ρ S).bind fun x S1 => (evE b ρ S1).bind fun y S2 => (ofOpt (cmpD o1 x y) S2).bind fun k S2 =>
      if k then (evE c ρ S2).bind fun z S3 => (ofOpt (cmpD o2 y z) S3).bind fun b S3 => .ok (.bl b) S3 else .ok (.bl false) S2
  | .ite c a b => (evE c ρ S).bind fun x S1 => (ofOpt (truD S1 x) S1).bind fun k S1 => if k then evE a ρ S1 else evE b ρ S1
  | .idx a i => (evE a ρ S).bind fun x S1 => (evE i ρ S1).bind fun y S2 => ofOpt (idxD S2 x y) S2
  | .slc a lo hi => (evE a ρ S).bind fun x S1 => (if lo.isN then .ok none S1 else (evE lo ρ S1).bind partR).bind fun l S2 => (if hi.isN then .ok none S2 else (evE hi ρ S2).bind partR).bind fun h S3 => match x with
    | .str t => if t.length ≤ sizeLine then .ok (.str (cut t l h)) S3 else .stuck
    | .tup xs => .ok (.tup (cut xs l h)) S3
    | _ => .stuck
  | .call _ f es => (evEs es ρ S).bind fun ds S1 => T.cf f ds S1
  | .bi b es => (evEs es ρ S).bind fun ds S1 => ofOpt (biD b ds S1) S1
  | .bm m o es => (evE o ρ S).bind fun x S1 => if recvOk m x S1 then (evEs es ρ S1).bind fun ds S2 => bmD m x ds S2 else .stuck
  | .isi a t => (evE a ρ S).bind fun x S1 => (ofOpt (isiD S1 x t) S1).bind fun b S1 => .ok (.bl b) S1
  | .fld o f => (evE o ρ S).bind fun x S1 => match x with
    | .ob i => match insAt S1 i with
      | some (_, fs) => ofOpt (lookFs f.cps.toList fs) S1
      | none => .stuck
    | _ => .stuck
  | .meth o m es => (evE o ρ S).bind fun x S1 => match x with
    | .ob i => match insAt S1 i with
      | some (c, fs) => if (lookFs m.cps.toList fs).isSome then .stuck else match T.meth c m with
        | some f => (evEs es ρ S1).bind fun ds S2 => T.cf f (.ob i :: ds) S2
        | none => .stuck
      | none => .stuck
    | _ => .stuck
  | .new _ c es => (evEs es ρ S).bind fun ds S1 => match T.init c with
    | some f => (T.cn f (.ob S1.length :: ds) (S1 ++ [.ins c []])).bind fun r S2 => match r with
      | .non => .ok (.ob S1.length) S2
      | _ => .stuck
    | none => .stuck
  | .own l => (evL l ρ S).bind fun xs S1 => pushO S1 (.lst xs)
  | .tupL l => (evL l ρ S).bind fun xs S1 => .ok (.tup xs) S1
  | .allL l => (evL l ρ S).bind fun xs S1 => ofOpt ((allBl xs).map fun bs => .bl (bs.all id)) S1
  | .anyL l => (evL l ρ S).bind fun xs S1 => ofOpt ((allBl xs).map fun bs => .bl (bs.any id)) S1
  | .sumL l => (evL l ρ S).bind fun xs S1 => ofOpt ((allInt xs).map fun ns => .int ns.sum) S1
  | .lenL l => (evL l ρ S).bind fun xs S1 => .ok (.int xs.length) S1
  | .joinL e l => (evE e ρ S).bind fun x S1 => match x with
    | .str t => (evL l ρ S1).bind fun xs S2 => ofOpt ((allStr xs).bind fun ys => if (ys.map List.length).sum + ys.length * t.length ≤ 16777216 then some (.str (joinT t ys)) else none) S2
    | _ => .stuck
  | .dnew t => pushO S (mkDct t [])
  | .dnew1 t k v => (evE k ρ S).bind fun x S1 => (evE v ρ S1).bind fun y S2 => if okKey t x then pushO S2 (mkDct t [(x, y)]) else .stuck
def evEs (es : Es) (ρ : Env) (S : Sto) : R (List D) := match es with
  | .nil => .ok [] S
  | .cons e es => (evE e ρ S).bind fun x S1 => (evEs es ρ S1).bind fun xs S2 => .ok (x :: xs) S2
/-- and, or: the value that decides -/
def evB (k : Bool) (es : Es) (ρ : Env) (S : Sto) : R D := match es with
  | .nil => .stuck
  | .cons e .nil => evE e ρ S
  | .cons e (.cons e2 es) => (evE e ρ S).bind fun x S1 => (ofOpt (truD S1 x) S1).bind fun b S1 => if b = k then evB k (.cons e2 es) ρ S1 else .ok x S1
/-- the tests of a comprehension -/
def evT (es : Es) (ρ : Env) (S : Sto) : R Bool := match es with
  | .nil => .ok true S
  | .cons e es => (evE e ρ S).bind fun x S1 => (ofOpt (truD S1 x) S1).bind fun b S1 => if b then evT es ρ S1 else .ok false S1
/-- a new list, by its items -/
def evL (l : L) (ρ : Env) (S : Sto) : R (List D) := match l with
  | .disp es => evEs es ρ S
  | .comp own elt g it cs => (evIt it ρ S).bind fun v S1 => compR v.items v (fun x S => match asgG g x (wipeE ρ own) with
    | none => .stuck
    | some ρ1 => (evT cs ρ1 S).bind fun b S1 => if b then (evE elt ρ1 S1).bind fun y S2 => .ok [y] S2 else .ok [] S1) [] S1
  | .comp2 own own1 elt g it g1 it1 cs => (evIt it ρ S).bind fun v S1 => compR v.items v (fun x S => match asgG g x (wipeE ρ own) with
    | none => .stuck
    | some ρ1 => (evIt it1 ρ1 S).bind fun v1 S1 => compR v1.items v1 (fun x S => match asgG g1 x (wipeE ρ1 own1) with
      | none => .stuck
      | some ρ2 => (evT cs ρ2 S).bind fun b S1 => if b then (evE elt ρ2 S1).bind fun y S2 => .ok [y] S2 else .ok [] S1) [] S1) [] S1
  | .listOf e => (evE e ρ S).bind fun x S1 => ofOpt (seqOf S1 x) S1
  | .sortL l => (evL l ρ S).bind fun xs S1 => ofOpt (sortD xs) S1
  | .sortE e => (evE e ρ S).bind fun x S1 => ofOpt (sortOf S1 x) S1
  | .sortSC own elt g it cs => (evIt it ρ S).bind fun v S1 => (compR v.items v (fun x S => match asgG g x (wipeE ρ own) with
    | none => .stuck
    | some ρ1 => (evT cs ρ1 S).bind fun b S1 => if b then (evE elt ρ1 S1).bind fun y S2 => .ok [y] S2 else .ok [] S1) [] S1).bind fun xs S1 => ofOpt (setSortD xs) S1
  | .slc a lo hi => (evE a ρ S).bind fun x S1 => (if lo.isN then .ok none S1 else (evE lo ρ S1).bind partR).bind fun l S2 => (if hi.isN then .ok none S2 else (evE hi ρ S2).bind partR).bind fun h S3 => match x with
    | .ob i => match lstAt S3 i with
      | some xs => .ok (cut xs l h) S3
      | none => .stuck
    | _ => .stuck
  | .rep l n => (evL l ρ S).bind fun xs S1 => (evE n ρ S1).bind fun y S2 => match y with
    | .int k => if small k ∧ xs.length * k.toNat ≤ 10000000 then .ok (List.replicate k.toNat xs).flatten S2 else .stuck
    | _ => .stuck
  | .cat a b => (evL a ρ S).bind fun xs S1 => (evL b ρ S1).bind fun ys S2 => if xs.length + ys.length ≤ 10000000 then .ok (xs ++ ys) S2 else .stuck
  | .catE a b => (evE a ρ S).bind fun x S1 => (evL b ρ S1).bind fun ys S2 => match x with
    | .ob i => match lstAt S2 i with
      | some xs => if xs.length + ys.length ≤ 10000000 then .ok (xs ++ ys) S2 else .stuck
      | none => .stuck
    | _ => .stuck
  | .rev e => (evE e ρ S).bind fun x S1 => match x with
    | .ob i => match lstAt S1 i with
      | some xs => .ok xs.reverse S1
      | none => .stuck
    | _ => .stuck
  | .catEE a b => (evE a ρ S).bind fun x S1 => (evE b ρ S1).bind fun y S2 => match x, y with
    | .ob i, .ob j => match lstAt S2 i, lstAt S2 j with
      | some xs, some ys => if xs.length + ys.length ≤ 10000000 then .ok (xs ++ ys) S2 else .stuck
      | _, _ => .stuck
    | _, _ => .stuck
  | .sortK t q e i k => (evE e ρ S).bind fun x S1 => match x with
    | .ob j => match lstAt S1 j with
      | some xs => if S1[t]? = some (.tab q) ∧ i < ρ.length then ofOpt ((keysR (fun x => evE k (ρ.set i (some x)) S1) S1 xs).bind fun ks => sortByK ks xs) S1 else .stuck
      | none => .stuck
    | _ => .stuck
def evIt (it : It) (ρ : Env) (S : Sto) : R ItV := match it with
  | .ofE e => (evE e ρ S).bind fun x S1 => match x with
    | .tup xs => .ok { items := xs } S1
    | .scr xs => .ok { items := xs.map .int } S1
    | .str t => .ok { items := t.map fun c => .str [c] } S1
    | .ob i => match lstAt S1 i with
      | some xs => .ok { items := xs, watch := [(i, xs)] } S1
      | none => .stuck
    | _ => .stuck
  | .ofL l => (evL l ρ S).bind fun xs S1 => .ok { items := xs } S1
  | .rng1 a => (evE a ρ S).bind fun x S1 => match x with
    | .int j => if small j then .ok { items := rngD 0 j.toNat 1 } S1 else .stuck
    | _ => .stuck
  | .rng2 a b => (evE a ρ S).bind fun x S1 => (evE b ρ S1).bind fun y S2 => match x, y with
    | .int i, .int j => if small i && small j then .ok { items := rngD i (j - i).toNat 1 } S2 else .stuck
    | _, _ => .stuck
  | .rng3 a b c => (evE a ρ S).bind fun x S1 => (evE b ρ S1).bind fun y S2 => (evE c ρ S2).bind fun z S3 => match x, y, z with
    | .int i, .int j, .int k => if decide (k ≠ 0 ∧ k.natAbs < 1073741824) && Builtin.Range.small i j k then .ok { items := rngD i (Builtin.Range.rangeSize i j k).toNat k } S3 else .stuck
    | _, _, _ => .stuck
  | .enm e => (evE e ρ S).bind fun x S1 => match x with
    | .tup xs => .ok { items := enumD 0 xs } S1
    | .ob i => match lstAt S1 i with
      | some xs => .ok { items := enumD 0 xs, watch := [(i, xs)] } S1
      | none => .stuck
    | _ => .stuck
  | .zp a b => (evE a ρ S).bind fun x S1 => (evE b ρ S1).bind fun y S2 => match seqOf S2 x, seqOf S2 y with
    | some xs, some ys => .ok { items := zipD xs ys, watch := watchD x xs ++ watchD y ys } S2
    | _, _ => .stuck
  | .items _ => .stuck
  | .vals _ => .stuck
end

/-! ### statements, calls -/
def R.toF {α : Type} (r : R α) (ρ : Env) (k : α → Sto → F) : F := match r with
  | .stuck => .stuck
  | .ok a S => k a S
  | .exc c fs S => .exc c fs ρ S
@[simp] theorem R.toF_ok {α : Type} (a : α) (S : Sto) (ρ : Env) (k : α → Sto → F) : (R.ok a S).toF ρ k = k a S := rfl
@[simp] theorem R.toF_stuck {α : Type} (ρ : Env) (k : α → Sto → F) : (R.stuck : R α).toF ρ k = .stuck := rfl
@[simp] theorem R.toF_exc {α : Type} (c : Nat) (fs : List (List Nat × D)) (S : Sto) (ρ : Env) (k : α → Sto → F) : (R.exc c fs S : R α).toF ρ k = .exc c fs ρ S := rfl
def F.andThen (f : F) (k : Env → Sto → F) : F := match f with
  | .nx ρ S => k ρ S
  | f => f
@[simp] theorem F.andThen_nx (ρ : Env) (S : Sto) (k : Env → Sto → F) : (F.nx ρ S).andThen k = k ρ S := rfl
@[simp] theorem F.andThen_ret (d : D) (S : Sto) (k : Env → Sto → F) : (F.ret d S).andThen k = .ret d S := rfl
@[simp] theorem F.andThen_brk (ρ : Env) (S : Sto) (k : Env → Sto → F) : (F.brk ρ S).andThen k = .brk ρ S := rfl
@[simp] theorem F.andThen_cnt (ρ : Env) (S : Sto) (k : Env → Sto → F) : (F.cnt ρ S).andThen k = .cnt ρ S := rfl
@[simp] theorem F.andThen_exc (c : Nat) (fs : List (List Nat × D)) (ρ : Env) (S : Sto) (k : Env → Sto → F) : (F.exc c fs ρ S).andThen k = .exc c fs ρ S := rfl
@[simp] theorem F.andThen_stuck (k : Env → Sto → F) : F.stuck.andThen k = .stuck := rfl
/-- the dict that was walked is as it was -/
def unlockF (i : Nat) (o : O) (f : F) : F := match f with
  | .nx ρ S => if S[i]? = some .gone then .nx ρ (S.set i o) else .stuck
  | .ret d S => if S[i]? = some .gone then .ret d (S.set i o) else .stuck
  | _ => .stuck
/-- the pairs or the values of a dict -/
def walkD (its : Bool) (kvs : List (D × D)) : List D := if its then kvs.map fun p => .tup [p.1, p.2] else kvs.map (·.2)
/-- turns that a while may take -/
def fuel : Nat := 1000000
mutual
def evS (s : St) (ρ : Env) (S : Sto) : F := match s with
  | .asg g e => (evE T e ρ S).toF ρ fun d S1 => match asgG g d ρ with
    | some ρ1 => .nx ρ1 S1
    | none => .stuck
  | .asgL i l => (evL T l ρ S).toF ρ fun xs S1 => if i < ρ.length then .nx (ρ.set i (some (.ob S1.length))) (S1 ++ [.lst xs]) else .stuck
  | .aug i o e => match ρ[i]? with
    | some (some x) => (evE T e ρ S).toF ρ fun y S1 => match augD o x y with
      | some z => .nx (ρ.set i (some z)) S1
      | none => .stuck
    | _ => .stuck
  | .sub o i e => (evE T e ρ S).toF ρ fun v S1 => (evE T o ρ S1).toF ρ fun x S2 => (evE T i ρ S2).toF ρ fun y S3 => match setD x y v S3 with
    | some S4 => .nx ρ S4
    | none => .stuck
  | .fst o f e => (evE T e ρ S).toF ρ fun v S1 => (evE T o ρ S1).toF ρ fun x S2 => match x with
    | .ob i => match insAt S2 i with
      | some (c, fs) => if fs.length < 100 then .nx ρ (S2.set i (.ins c (putFs f.cps.toList v fs))) else .stuck
      | none => .stuck
    | _ => .stuck
  | .ex e => (evE T e ρ S).toF ρ fun _ S1 => .nx ρ S1
  | .ite c a b => (evE T c ρ S).toF ρ fun x S1 => (ofOpt (truD S1 x) S1).toF ρ fun k S1 => if k then evSs a ρ S1 else evSs b ρ S1
  | .for_ g it b => (evIt T it ρ S).toF ρ fun v S1 => forR v.items v (fun x ρ S => match asgG g x ρ with
    | some ρ1 => evSs b ρ1 S
    | none => .stuck) ρ S1
  | .forD g its j b => match ρ[j]? with
    | some (some (.ob i)) => match S[i]? with
      | some (.dT kvs) => unlockF i (.dT kvs) (forR (walkD its kvs) { items := walkD its kvs } (fun x ρ S => match asgG g x ρ with
        | some ρ1 => evSs b ρ1 S
        | none => .stuck) ρ (S.set i .gone))
      | _ => .stuck
    | _ => .stuck
  | .whl c b => whlR fuel (fun ρ S => (evE T c ρ S).bind fun x S1 => ofOpt (truD S1 x) S1) (fun ρ S => evSs b ρ S) ρ S
  | .ret e => (evE T e ρ S).toF ρ fun d S1 => .ret d S1
  | .ret0 => .ret .non S
  | .brk => .brk ρ S
  | .cnt => .cnt ρ S
  | .pass => .nx ρ S
  | .raise _ c _ => .exc c [] ρ S
  | .tryIs b _ c i _ m => match evSs b ρ S with
    | .exc d fs ρ1 S1 => match fs, T.isx d c with
      | [], some true => match T.isx d m with
        | some r => if i < ρ1.length then .ret (.bl r) S1 else .stuck
        | none => .stuck
      | _, some false => .exc d fs ρ1 S1
      | _, _ => .stuck
    | f => f
def evSs (ss : Ss) (ρ : Env) (S : Sto) : F := match ss with
  | .nil => .nx ρ S
  | .cons s ss => (evS s ρ S).andThen fun ρ1 S1 => evSs ss ρ1 S1
end
mutual
/-- no object from a number on stands in it -/
def D.low (n : Nat) : D → Bool
  | .ob i => decide (i < n)
  | .tup xs => D.lowAll n xs
  | _ => true
def D.lowAll (n : Nat) : List D → Bool
  | [] => true
  | x :: xs => D.low n x && D.lowAll n xs
end
/-- what a call has made and nobody holds is dropped -/
def trunc (S : Sto) (r : R D) : R D := match r with
  | .ok d S1 => if d.low S.length && decide (S1.take S.length = S) then .ok d S else .ok d S1
  | r => r
def startE (nn : Nat) (ds : List D) : Env := ds.map some ++ List.replicate (nn - ds.length) none
def endF (f : F) : R D := match f with
  | .nx _ S => .ok .non S
  | .ret d S => .ok d S
  | .exc c fs _ S => .exc c fs S
  | _ => .stuck
/-- a def: its name, its parameters' number, its slots' number, its body -/
structure Fn where
  np : Nat
  nn : Nat
  body : Ss
/-- a program's tables -/
structure Pg where
  fns : List Fn
  meth : Nat → Str → Option Nat
  init : Nat → Option Nat
  lit : Bool
  isx : Nat → Nat → Option Bool
def runFn (p : Pg) (cf cn : Nat → List D → Sto → R D) (f : Nat) (ds : List D) (S : Sto) : R D := match p.fns[f]? with
  | some i => if ds.length = i.np then trunc S (endF (evSs ⟨cf, cn, p.meth, p.init, p.lit, p.isx⟩ i.body (startE i.nn ds) S)) else .stuck
  | none => .stuck
/-- a call, k levels deep at most -/
def callF (p : Pg) : Nat → Nat → List D → Sto → R D
  | 0 => fun _ _ _ => .stuck
  | 1 => runFn p (fun _ _ _ => .stuck) (fun _ _ _ => .stuck)
  | k + 2 => runFn p (callF p (k + 1)) (callF p k)
end PL

set_option Elab.async false
set_option linter.all false
set_option maxRecDepth 100000
/-! PL2: data, stores and the layer's abstract heap. -/
namespace PL
open PySem PySem.Spec PyProof.Rows L2

abbrev S' (l : List Nat) : Str := ⟨l.toArray⟩
theorem S'_inj {a b : List Nat} (h : S' a = S' b) : a = b := congrArg (fun x : Str => x.cps.toList) h
theorem S'_tl (x : Str) : S' x.cps.toList = x := by cases x; rfl
theorem S'_len (a : List Nat) : (S' a).length = a.length := by simp [S', Str.length]
theorem S'_cps (a : List Nat) : (S' a).cps.toList = a := rfl
def kOf : D → Option Key
  | .int i => some (.inl i)
  | .str x => some (.inr (S' x))
  | _ => none
mutual
/-- a nested key -/
def nkOf : D → Option NestedKey
  | .int i => some (.num i)
  | .str x => some (.text (S' x))
  | .tup xs => (nkOfs xs).map .tup
  | _ => none
def nkOfs : List D → Option (List NestedKey)
  | [] => some []
  | x :: xs => match nkOf x, nkOfs xs with
    | some k, some ks => some (k :: ks)
    | _, _ => none
end

/-- a list that is written at the top -/
def LitL (K : PySem.W.Frag) (a : Addr) (xs : List V) : Prop :=
  ∃ (o : Obj) (its : Array Value) (n : Nat), K.lookup a = some o ∧ o.cls = .type "list" ∧ o.dict = none ∧ o.data = .seq its n ∧ its.size ≤ sizeLine ∧ Vals xs its.toList
/-- a list that is only read -/
def Scr (K : PySem.W.Frag) (H : Hp) (a : Addr) (xs : List V) : Prop := (∃ o, H a = some (.frz o (.lst xs))) ∨ LitL K a xs
theorem Scr.sql {K : PySem.W.Frag} {H : Hp} {a : Addr} {xs : List V} (h : Scr K H a xs) : SqL K H a xs := by
  rcases h with ⟨o, h⟩ | h
  · exact .inl (.inr ⟨o, h⟩)
  · exact .inr h
/-- what stands at a number of the store -/
def MutO : HO → Prop
  | .lst _ => True
  | .dK _ => True
  | .dT _ => True
  | .ins _ _ _ => True
  | .frz _ (.dK _) => True
  | .frz _ (.ext _) => True
  | .ext _ => True
  | .tbl _ => True
  | _ => False

theorem da_ne_code {P : Program} {w : World} {a : Addr} {xs : List (NestedKey × Addr × Value)} {q : Str} : HO.ext (fun h => xs.length ≤ sizeLine ∧ (a == sysModules) = false ∧ ∃ o es ep, h.get? a = some o ∧ o.ExactDict ∧ o.data = .dict es ep ∧ es.toList = xs.map (entryOfKey (nestedKind P w)) ∧ (xs.map (·.1)).Nodup) ≠ LamX.CodeO a q := by
  intro e
  unfold LamX.CodeO at e
  injection e with e
  let ob : Obj := { cls := .none, data := .fields #[.none, .str q 0] }
  let h : Heap := { objs := Array.replicate (a + 1) ob }
  have g : h.get? a = some ob := by
    simp [Heap.get?, h, ob]
  have k : (fun h : Heap => xs.length ≤ sizeLine ∧ (a == sysModules) = false ∧ ∃ o es ep, h.get? a = some o ∧ o.ExactDict ∧ o.data = .dict es ep ∧ es.toList = xs.map (entryOfKey (nestedKind P w)) ∧ (xs.map (·.1)).Nodup) h := by
    rw [e]
    exact ⟨ob, _, 0, g, rfl, rfl⟩
  obtain ⟨_, _, o, es, ep, g1, _, g2, _⟩ := k
  rw [g] at g1
  cases g1
  cases g2
structure Ext (m : List Addr) (H : Hp) (m' : List Addr) (H' : Hp) : Prop where
  app : ∃ t, m' = m ++ t ∧ ∀ a ∈ t, H a = none
  keep : ∀ a o, H a = some o → a ∉ m → H' a = some o
  there : ∀ a ∈ m, H' a ≠ none
  frz : ∀ a od u, a ∈ m → H a = some (.frz od u) → H' a = some (.frz od u)
theorem Ext.refl {m : List Addr} {H : Hp} (h : ∀ a ∈ m, H a ≠ none) : Ext m H m H := ⟨⟨[], by simp, by simp⟩, fun _ _ e _ => e, h, fun _ _ _ _ e => e⟩
theorem Ext.trans {m m1 m2 : List Addr} {H H1 H2 : Hp} (a : Ext m H m1 H1) (b : Ext m1 H1 m2 H2) : Ext m H m2 H2 := by
  obtain ⟨t, rfl, ht⟩ := a.app
  obtain ⟨u, rfl, hu⟩ := b.app
  refine ⟨⟨t ++ u, by simp, fun x hx => ?_⟩, fun x o e n => ?_, fun x hx => b.there x (List.mem_append_left _ hx), fun x od u hx e => b.frz x od u (List.mem_append_left _ hx) (a.frz x od u hx e)⟩
  · rcases List.mem_append.mp hx with h | h
    · exact ht x h
    · have h1 := hu x h
      cases q : H x with
      | none => rfl
      | some o =>
        by_cases hm : x ∈ m
        · exact absurd h1 (a.there x hm)
        · rw [a.keep x o q hm] at h1
          cases h1
  · refine b.keep x o (a.keep x o e n) fun hx => ?_
    rcases List.mem_append.mp hx with h | h
    · exact n h
    · rw [ht x h] at e
      cases e
theorem Ext.get {m m' : List Addr} {H H' : Hp} (a : Ext m H m' H') {i : Nat} {p : Addr} (h : m[i]? = some p) : m'[i]? = some p := by
  obtain ⟨t, rfl, _⟩ := a.app
  rw [List.getElem?_append_left (List.getElem?_eq_some_iff.mp h).1]
  exact h

/-- the program's addresses; lit: whether a tuple may be one that is written at the top -/
structure Ad where
  K : PySem.W.Frag
  fa : Nat → Addr
  ca : Nat → Addr
  lit : Bool
  pr : Program
  w : World
  okc : Nat → Prop
  ta : List Nat → Addr
def LitT (K : PySem.W.Frag) (a : Addr) (xs : List V) : Prop :=
  ∃ (o : Obj) (its : Array Value) (n : Nat), K.lookup a = some o ∧ o.cls = .type "tuple" ∧ o.data = .seq its n ∧ its.size ≤ sizeLine ∧ Vals xs its.toList
def TupAt (A : Ad) (H : Hp) (a : Addr) (xs : List V) : Prop := H a = some (.tup xs) ∨ (A.lit = true ∧ LitT A.K a xs)
theorem TupAt.sqt {A : Ad} {H : Hp} {a : Addr} {xs : List V} (h : TupAt A H a xs) : SqT A.K H a xs := by
  rcases h with h | ⟨_, h⟩
  · exact .inl (.inl h)
  · exact .inr h
/-- a dict whose keys are tuples, by its own object -/
def DAt (P : Program) (w : World) (a : Addr) (xs : List (NestedKey × Addr × Value)) : Heap → Prop := fun h =>
  xs.length ≤ sizeLine ∧ (a == sysModules) = false ∧ ∃ o es ep, h.get? a = some o ∧ o.ExactDict ∧ o.data = .dict es ep ∧ es.toList = xs.map (entryOfKey (nestedKind P w)) ∧ (xs.map (·.1)).Nodup
section
variable (A : Ad)
mutual
def RV (m : List Addr) (H : Hp) : D → V → Prop
  | .non, v => v = .non
  | .bl b, v => v = .bl b
  | .int i, v => v = .int i
  | .str x, v => v = .str (S' x)
  | .tup xs, v => ∃ a vs, v = .ref a ∧ TupAt A H a vs ∧ RVs m H xs vs
  | .scr ns, v => ∃ a, v = .ref a ∧ Scr A.K H a (ns.map V.int)
  | .ob i, v => ∃ a, m[i]? = some a ∧ v = .ref a
  | .fn f, v => v = .ref (A.fa f)
def RVs (m : List Addr) (H : Hp) : List D → List V → Prop
  | [], vs => vs = []
  | x :: xs, vs => ∃ u us, vs = u :: us ∧ RV m H x u ∧ RVs m H xs us
end
def RKs (m : List Addr) (H : Hp) : List (D × D) → List (Key × V) → Prop
  | [], vs => vs = []
  | (k, d) :: r, vs => ∃ k' v us, vs = (k', v) :: us ∧ kOf k = some k' ∧ RV A m H d v ∧ RKs m H r us
def RTs (m : List Addr) (H : Hp) : List (D × D) → List (NestedKey × Addr × Value) → Prop
  | [], vs => vs = []
  | (k, d) :: r, vs => ∃ k' b u v us, vs = (k', b, u) :: us ∧ nkOf k = some k' ∧ k'.depth ≤ 8 ∧ RV A m H k (.ref b) ∧ RelV v u ∧ RV A m H d v ∧ RTs m H r us
def RFs (m : List Addr) (H : Hp) : List (List Nat × D) → List (Str × V) → Prop
  | [], vs => vs = []
  | (f, d) :: r, vs => ∃ v us, vs = (S' f, v) :: us ∧ RV A m H d v ∧ RFs m H r us
def RO (m : List Addr) (H : Hp) (a : Addr) : O → Prop
  | .lst xs => ∃ vs, H a = some (.lst vs) ∧ RVs A m H xs vs
  | .dK kvs => ∃ vs, H a = some (.dK vs) ∧ RKs A m H kvs vs
  | .dT kvs => ∃ xs, H a = some (.ext (DAt A.pr A.w a xs)) ∧ RTs A m H kvs xs
  | .ins c fs => A.okc c ∧ ∃ dx vs, H a = some (.ins (A.ca c) dx vs) ∧ RFs A m H fs vs
  | .gone => True
  | .tab q => a = A.ta q ∧ ∃ ps, H a = some (.tbl ps) ∧ TriplesOk ps.toList ∧ ∀ (pos : Pos) (cv : Value), codeAmong pos ps.toList = some cv → ∃ c, cv = .ref c ∧ c ∉ m ∧ H c = some (LamX.CodeO c (S' q))
structure RS (m : List Addr) (S : Sto) (H : Hp) : Prop where
  len : m.length = S.length
  nd : m.Nodup
  chg : ∀ a ∈ m, ∃ o, H a = some o ∧ MutO o
  obj : ∀ (i : Nat) (o : O) (a : Addr), S[i]? = some o → m[i]? = some a → RO A m H a o
def REnv (m : List Addr) (H : Hp) (ρ : Env) (σ : L2.St) : Prop := ρ.length = σ.length ∧ ∀ (i : Nat) (d : D), ρ[i]? = some (some d) → ∃ v, σ[i]? = some (some v) ∧ RV A m H d v
end

section
variable {A : Ad} {m m' : List Addr} {H H' : Hp} {S : Sto}
theorem RS.there (r : RS A m S H) : ∀ a ∈ m, H a ≠ none := fun a h e => by
  obtain ⟨o, q, _⟩ := r.chg a h
  rw [q] at e
  cases e
theorem RS.ext (r : RS A m S H) : Ext m H m H := .refl r.there
theorem RS.notup (r : RS A m S H) {a : Addr} {xs : List V} (h : Rd H a (.tup xs)) : a ∉ m := fun hm => by
  obtain ⟨o, q, mo⟩ := r.chg a hm
  rcases h with h | ⟨ob, h⟩
  · rw [q] at h; cases h; exact mo
  · rw [q] at h; cases h; exact mo
theorem RS.nofrz (r : RS A m S H) {a : Addr} {o : Obj} {xs : List V} (h : H a = some (.frz o (.lst xs))) : a ∉ m := fun hm => by
  obtain ⟨o, q, mo⟩ := r.chg a hm
  rw [q] at h; cases h; exact mo
theorem sqT_mono (r : RS A m S H) (x : Ext m H m' H') {a : Addr} {vs : List V} (h : TupAt A H a vs) : TupAt A H' a vs := by
  rcases h with h | h
  · exact .inl (x.keep _ _ h (r.notup (.inl h)))
  · exact .inr h
theorem scr_mono (r : RS A m S H) (x : Ext m H m' H') {a : Addr} {vs : List V} (h : Scr A.K H a vs) : Scr A.K H' a vs := by
  rcases h with ⟨o, h⟩ | h
  · exact .inl ⟨o, x.keep _ _ h (r.nofrz h)⟩
  · exact .inr h
/-- what values ask to stay -/
structure Mon (m : List Addr) (H : Hp) (m' : List Addr) (H' : Hp) : Prop where
  get : ∀ (i : Nat) (p : Addr), m[i]? = some p → m'[i]? = some p
  tup : ∀ a xs, H a = some (.tup xs) → H' a = some (.tup xs)
  frz : ∀ a o xs, H a = some (.frz o (.lst xs)) → H' a = some (.frz o (.lst xs))
  cod : ∀ a q, a ∉ m → H a = some (LamX.CodeO a q) → a ∉ m' ∧ H' a = some (LamX.CodeO a q)
theorem Mon.tupAt (x : Mon m H m' H') {a : Addr} {vs : List V} (h : TupAt A H a vs) : TupAt A H' a vs := by
  rcases h with h | h
  · exact .inl (x.tup _ _ h)
  · exact .inr h
theorem Mon.scr (x : Mon m H m' H') {K : PySem.W.Frag} {a : Addr} {vs : List V} (h : Scr K H a vs) : Scr K H' a vs := by
  rcases h with ⟨o, h⟩ | h
  · exact .inl ⟨o, x.frz _ _ _ h⟩
  · exact .inr h
mutual
theorem RV.mon (x : Mon m H m' H') : ∀ {d : D} {v : V}, RV A m H d v → RV A m' H' d v
  | .non, _, h => h
  | .bl _, _, h => h
  | .int _, _, h => h
  | .str _, _, h => h
  | .tup xs, v, h => by
    obtain ⟨a, vs, e, q, hs⟩ := h
    exact ⟨a, vs, e, x.tupAt q, RVs.mon x hs⟩
  | .scr ns, v, h => by
    obtain ⟨a, e, q⟩ := h
    exact ⟨a, e, x.scr q⟩
  | .ob i, v, h => by
    obtain ⟨a, q, e⟩ := h
    exact ⟨a, x.get _ _ q, e⟩
  | .fn _, _, h => h
theorem RVs.mon (x : Mon m H m' H') : ∀ {d : List D} {v : List V}, RVs A m H d v → RVs A m' H' d v
  | [], _, h => h
  | d :: ds, v, h => by
    obtain ⟨u, us, e, h1, h2⟩ := h
    exact ⟨u, us, e, RV.mon x h1, RVs.mon x h2⟩
end
theorem RKs.mon (x : Mon m H m' H') : ∀ {d : List (D × D)} {v : List (Key × V)}, RKs A m H d v → RKs A m' H' d v
  | [], _, h => h
  | (k, d) :: ds, v, h => by
    obtain ⟨k', u, us, e, hk, h1, h2⟩ := h
    exact ⟨k', u, us, e, hk, RV.mon x h1, RKs.mon x h2⟩
theorem RTs.mon (x : Mon m H m' H') : ∀ {d : List (D × D)} {v : List (NestedKey × Addr × Value)}, RTs A m H d v → RTs A m' H' d v
  | [], _, h => h
  | (k, d) :: ds, v, h => by
    obtain ⟨k', b, u, y, us, e, hk, hd, hb, hr, h1, h2⟩ := h
    exact ⟨k', b, u, y, us, e, hk, hd, RV.mon x hb, hr, RV.mon x h1, RTs.mon x h2⟩
theorem RFs.mon (x : Mon m H m' H') : ∀ {d : List (List Nat × D)} {v : List (Str × V)}, RFs A m H d v → RFs A m' H' d v
  | [], _, h => h
  | (k, d) :: ds, v, h => by
    obtain ⟨u, us, e, h1, h2⟩ := h
    exact ⟨u, us, e, RV.mon x h1, RFs.mon x h2⟩
theorem Ext.out {m0 : List Addr} {H0 : Hp} {m : List Addr} {H : Hp} (x : Ext m0 H0 m H) {p : Addr} {o : HO} (h0 : H0 p = some o) (np : p ∉ m0) : p ∉ m := fun h => by
  obtain ⟨t, rfl, ht⟩ := x.app
  rcases List.mem_append.mp h with z | z
  · exact np z
  · rw [ht p z] at h0; cases h0
theorem Ext.mon (r : RS A m S H) (x : Ext m H m' H') : Mon m H m' H' := ⟨fun i p h => x.get h, fun a xs h => x.keep _ _ h (r.notup (.inl h)), fun a o xs h => x.keep _ _ h (r.nofrz h), fun a q n h => ⟨x.out h n, x.keep _ _ h n⟩⟩
theorem RV.mono (r : RS A m S H) (x : Ext m H m' H') {d : D} {v : V} (h : RV A m H d v) : RV A m' H' d v := h.mon (x.mon r)
theorem RVs.mono (r : RS A m S H) (x : Ext m H m' H') {d : List D} {v : List V} (h : RVs A m H d v) : RVs A m' H' d v := h.mon (x.mon r)
theorem RKs.mono (r : RS A m S H) (x : Ext m H m' H') {d : List (D × D)} {v : List (Key × V)} (h : RKs A m H d v) : RKs A m' H' d v := h.mon (x.mon r)
theorem RTs.mono (r : RS A m S H) (x : Ext m H m' H') {d : List (D × D)} {v : List (NestedKey × Addr × Value)} (h : RTs A m H d v) : RTs A m' H' d v := h.mon (x.mon r)
theorem RFs.mono (r : RS A m S H) (x : Ext m H m' H') {d : List (List Nat × D)} {v : List (Str × V)} (h : RFs A m H d v) : RFs A m' H' d v := h.mon (x.mon r)
theorem RO.mon (x : Mon m H m' H') {a : Addr} (e : H' a = H a) : ∀ {o : O}, RO A m H a o → RO A m' H' a o
  | .lst _, ⟨vs, h1, h2⟩ => ⟨vs, e.trans h1, h2.mon x⟩
  | .dK _, ⟨vs, h1, h2⟩ => ⟨vs, e.trans h1, h2.mon x⟩
  | .dT _, ⟨vs, h1, h2⟩ => ⟨vs, e.trans h1, h2.mon x⟩
  | .ins _ _, ⟨hc, dx, vs, h1, h2⟩ => ⟨hc, dx, vs, e.trans h1, h2.mon x⟩
  | .gone, _ => trivial
  | .tab _, ⟨h0, ps, h1, h2, h3⟩ => ⟨h0, ps, e.trans h1, h2, fun pos cv h => let ⟨c, k1, k2, k3⟩ := h3 pos cv h; ⟨c, k1, (x.cod c _ k2 k3).1, (x.cod c _ k2 k3).2⟩⟩
theorem RO.mono (r : RS A m S H) (x : Ext m H m' H') {a : Addr} (e : H' a = H a) : ∀ {o : O}, RO A m H a o → RO A m' H' a o
  | .lst _, ⟨vs, h1, h2⟩ => ⟨vs, e.trans h1, h2.mono r x⟩
  | .dK _, ⟨vs, h1, h2⟩ => ⟨vs, e.trans h1, h2.mono r x⟩
  | .dT _, ⟨vs, h1, h2⟩ => ⟨vs, e.trans h1, h2.mono r x⟩
  | .ins _ _, ⟨hc, dx, vs, h1, h2⟩ => ⟨hc, dx, vs, e.trans h1, h2.mono r x⟩
  | .gone, _ => trivial
  | .tab _, ⟨h0, ps, h1, h2, h3⟩ => ⟨h0, ps, e.trans h1, h2, fun pos cv h => let ⟨c, k1, k2, k3⟩ := h3 pos cv h; ⟨c, k1, x.out k3 k2, x.keep _ _ k3 k2⟩⟩
theorem REnv.mono (r : RS A m S H) (x : Ext m H m' H') {ρ : Env} {σ : L2.St} (h : REnv A m H ρ σ) : REnv A m' H' ρ σ :=
  ⟨h.1, fun i d e => let ⟨v, e1, e2⟩ := h.2 i d e; ⟨v, e1, e2.mono r x⟩⟩
theorem REnv.mon (x : Mon m H m' H') {ρ : Env} {σ : L2.St} (h : REnv A m H ρ σ) : REnv A m' H' ρ σ :=
  ⟨h.1, fun i d e => let ⟨v, e1, e2⟩ := h.2 i d e; ⟨v, e1, e2.mon x⟩⟩
theorem REnv.set {ρ : Env} {σ : L2.St} (h : REnv A m H ρ σ) {d : D} {v : V} (r : RV A m H d v) (i : Nat) : REnv A m H (ρ.set i (some d)) (σ.set i (some v)) := by
  refine ⟨by simp [h.1], fun j e q => ?_⟩
  by_cases hj : i = j
  · subst hj
    have hl : i < ρ.length := by
      have := (List.getElem?_eq_some_iff.mp q).1
      simpa using this
    rw [List.getElem?_set_self hl] at q
    cases q
    exact ⟨v, by rw [List.getElem?_set_self (by rw [← h.1]; exact hl)], r⟩
  · rw [List.getElem?_set_ne hj] at q
    obtain ⟨u, e1, e2⟩ := h.2 j e q
    exact ⟨u, by rw [List.getElem?_set_ne hj]; exact e1, e2⟩
theorem REnv.wipe1 {ρ : Env} {σ : L2.St} (h : REnv A m H ρ σ) (i : Nat) : REnv A m H (ρ.set i none) (σ.set i none) := by
  refine ⟨by simp [h.1], fun j e q => ?_⟩
  by_cases hj : i = j
  · subst hj
    have hl : i < ρ.length := by
      have := (List.getElem?_eq_some_iff.mp q).1
      simpa using this
    rw [List.getElem?_set_self hl] at q
    cases q
  · rw [List.getElem?_set_ne hj] at q
    obtain ⟨u, e1, e2⟩ := h.2 j e q
    exact ⟨u, by rw [List.getElem?_set_ne hj]; exact e1, e2⟩
theorem REnv.wipe {ρ : Env} {σ : L2.St} (h : REnv A m H ρ σ) : ∀ vs : List Nat, REnv A m H (wipeE ρ vs) (L2.wipe σ vs)
  | [] => h
  | v :: vs => (REnv.wipe h vs).wipe1 v

/-- an address that the store does not know is laid -/
theorem RS.lay (r : RS A m S H) {p : Addr} (o : HO) (hp : H p = none) : Ext m H m (upd H p o) ∧ RS A m S (upd H p o) := by
  have ne : ∀ a ∈ m, a ≠ p := fun a h e => r.there a h (e ▸ hp)
  have ee : ∀ a ∈ m, upd H p o a = H a := fun a h => upd_ne (ne a h)
  have x : Ext m H m (upd H p o) := ⟨⟨[], by simp, by simp⟩, fun a u e _ => by
    rw [upd_ne (ne_of_none e hp)]; exact e, fun a h => by rw [ee a h]; exact r.there a h, fun a od u h e => by rw [ee a h]; exact e⟩
  refine ⟨x, r.len, r.nd, fun a h => ?_, fun i ob a e1 e2 => ?_⟩
  · rw [ee a h]; exact r.chg a h
  · exact (r.obj i ob a e1 e2).mono r x (ee a (List.mem_of_getElem? e2))
/-- an object that the store does not know yet comes into it -/
theorem RS.adopt (r : RS A m S H) {p : Addr} {o : HO} {ob : O} (hp : H p = some o) (np : p ∉ m) (mo : MutO o) (h : RO A (m ++ [p]) H p ob)
    (up : ∀ {a : Addr} {ob : O}, RO A m H a ob → RO A (m ++ [p]) H a ob) : RS A (m ++ [p]) (S ++ [ob]) H := by
  refine ⟨by simp [r.len], ?_, fun a h => ?_, fun i o2 a e1 e2 => ?_⟩
  · rw [List.nodup_append]
    refine ⟨r.nd, by simp, fun a ha b hb => ?_⟩
    have eb : b = p := by simpa using hb
    rw [eb]
    exact fun e => np (e ▸ ha)
  · rcases List.mem_append.mp h with h | h
    · exact r.chg a h
    · have : a = p := by simpa using h
      subst this
      exact ⟨o, hp, mo⟩
  · by_cases hi : i < S.length
    · rw [List.getElem?_append_left hi] at e1
      rw [List.getElem?_append_left (by rw [r.len]; exact hi)] at e2
      exact up (r.obj i o2 a e1 e2)
    · have hi2 : i = S.length := by
        have := (List.getElem?_eq_some_iff.mp e1).1
        simp at this
        omega
      subst hi2
      rw [List.getElem?_append_right (Nat.le_refl _)] at e1
      rw [← r.len, List.getElem?_append_right (Nat.le_refl _)] at e2
      simp at e1 e2
      subst e1 e2
      exact h
/-- the map grows, the heap stays -/
theorem RV.grow {p : Addr} {m : List Addr} {H : Hp} : ∀ {d : D} {v : V}, RV A m H d v → RV A (m ++ [p]) H d v := by
  intro d
  induction d using D.rec (motive_2 := fun ds => ∀ {vs : List V}, RVs A m H ds vs → RVs A (m ++ [p]) H ds vs) with
  | non => exact id
  | bl _ => exact id
  | int _ => exact id
  | str _ => exact id
  | tup xs ih =>
    intro v h
    obtain ⟨a, vs, e, q, hs⟩ := h
    exact ⟨a, vs, e, q, ih hs⟩
  | scr _ => exact id
  | ob i =>
    intro v h
    obtain ⟨a, q, e⟩ := h
    exact ⟨a, by rw [List.getElem?_append_left (List.getElem?_eq_some_iff.mp q).1]; exact q, e⟩
  | fn _ => exact id
  | nil => rename_i vs h; exact h
  | cons x xs ih1 ih2 =>
    rename_i vs h
    obtain ⟨u, us, e, h1, h2⟩ := h
    exact ⟨u, us, e, ih1 h1, ih2 h2⟩
theorem RVs.grow {p : Addr} : ∀ {ds : List D} {vs : List V}, RVs A m H ds vs → RVs A (m ++ [p]) H ds vs
  | [], _, h => h
  | _ :: _, _, ⟨u, us, e, h1, h2⟩ => ⟨u, us, e, h1.grow, RVs.grow h2⟩
theorem RKs.grow {p : Addr} : ∀ {ds : List (D × D)} {vs : List (Key × V)}, RKs A m H ds vs → RKs A (m ++ [p]) H ds vs
  | [], _, h => h
  | _ :: _, _, ⟨k', u, us, e, hk, h1, h2⟩ => ⟨k', u, us, e, hk, h1.grow, RKs.grow h2⟩
theorem RTs.grow {p : Addr} : ∀ {ds : List (D × D)} {vs : List (NestedKey × Addr × Value)}, RTs A m H ds vs → RTs A (m ++ [p]) H ds vs
  | [], _, h => h
  | _ :: _, _, ⟨k', b, u, y, us, e, hk, hd, hb, hr, h1, h2⟩ => ⟨k', b, u, y, us, e, hk, hd, hb.grow, hr, h1.grow, RTs.grow h2⟩
theorem RFs.grow {p : Addr} : ∀ {ds : List (List Nat × D)} {vs : List (Str × V)}, RFs A m H ds vs → RFs A (m ++ [p]) H ds vs
  | [], _, h => h
  | _ :: _, _, ⟨u, us, e, h1, h2⟩ => ⟨u, us, e, h1.grow, RFs.grow h2⟩
theorem RO.grow {p a : Addr} (np : ∀ q, H p ≠ some (LamX.CodeO p q)) : ∀ {o : O}, RO A m H a o → RO A (m ++ [p]) H a o
  | .lst _, ⟨vs, h1, h2⟩ => ⟨vs, h1, h2.grow⟩
  | .dK _, ⟨vs, h1, h2⟩ => ⟨vs, h1, h2.grow⟩
  | .dT _, ⟨vs, h1, h2⟩ => ⟨vs, h1, h2.grow⟩
  | .ins _ _, ⟨hc, dx, vs, h1, h2⟩ => ⟨hc, dx, vs, h1, h2.grow⟩
  | .gone, _ => trivial
  | .tab _, ⟨h0, ps, h1, h2, h3⟩ => ⟨h0, ps, h1, h2, fun pos cv h => let ⟨c, k1, k2, k3⟩ := h3 pos cv h; ⟨c, k1, fun z => by
      rcases List.mem_append.mp z with z | z
      · exact k2 z
      · have : c = p := by simpa using z
        subst this
        exact np _ k3, k3⟩⟩
/-- a new object of the store -/
theorem RS.push (r : RS A m S H) {p : Addr} {o : HO} {ob : O} (hp : H p = none) (mo : MutO o) (nc : ∀ q, o ≠ LamX.CodeO p q) (h : Ext m H m (upd H p o) → RO A m (upd H p o) p ob) : Ext m H (m ++ [p]) (upd H p o) ∧ RS A (m ++ [p]) (S ++ [ob]) (upd H p o) := by
  obtain ⟨x1, r1⟩ := r.lay o hp
  have np : p ∉ m := fun z => r.there p z hp
  exact ⟨⟨⟨[p], rfl, by simp [hp]⟩, x1.keep, x1.there, x1.frz⟩, r1.adopt upd_same np mo ((h x1).grow fun q z => nc q (Option.some.inj (upd_same.symm.trans z))) (RO.grow fun q z => nc q (Option.some.inj (upd_same.symm.trans z)))⟩
/-- an object of the store is changed -/
theorem RS.write (r : RS A m S H) {i : Nat} {a : Addr} {o : HO} {ob : O} (hi : m[i]? = some a) (nz : ∀ od u, H a ≠ some (.frz od u)) (mo : MutO o) (h : Ext m H m (upd H a o) → RO A m (upd H a o) a ob) : Ext m H m (upd H a o) ∧ RS A m (S.set i ob) (upd H a o) := by
  have am := List.mem_of_getElem? hi
  have x : Ext m H m (upd H a o) := ⟨⟨[], by simp, by simp⟩, fun b u e n => by
    rw [upd_ne (fun z : b = a => n (by rw [z]; exact am))]; exact e, fun b hb => by
    by_cases e : b = a
    · subst e; rw [upd_same]; simp
    · rw [upd_ne e]; exact r.there b hb, fun b od u hb e => by
    by_cases z : b = a
    · subst z; exact absurd e (nz od u)
    · rw [upd_ne z]; exact e⟩
  refine ⟨x, by simp [r.len], r.nd, fun b hb => ?_, fun j o2 b e1 e2 => ?_⟩
  · by_cases e : b = a
    · subst e; exact ⟨o, upd_same, mo⟩
    · rw [upd_ne e]; exact r.chg b hb
  · by_cases hj : i = j
    · subst hj
      rw [hi] at e2
      cases e2
      have hl : i < S.length := by rw [← r.len]; exact (List.getElem?_eq_some_iff.mp hi).1
      rw [List.getElem?_set_self hl] at e1
      cases e1
      exact h x
    · rw [List.getElem?_set_ne hj] at e1
      have ne : b ≠ a := fun e => hj (by
        obtain ⟨h1, e3⟩ := List.getElem?_eq_some_iff.mp hi
        obtain ⟨h2, e4⟩ := List.getElem?_eq_some_iff.mp e2
        exact (List.getElem_inj r.nd).mp (by rw [e3, e4, e]))
      exact (r.obj j o2 b e1 e2).mono r x (upd_ne ne)
theorem RVs.length : ∀ {ds : List D} {vs : List V}, RVs A m H ds vs → vs.length = ds.length
  | [], _, h => by rw [show _ = [] from h]; rfl
  | d :: ds, _, h => by
    obtain ⟨u, us, rfl, _, h2⟩ := h
    simp [RVs.length h2]
theorem RVs.append : ∀ {ds es : List D} {vs us : List V}, RVs A m H ds vs → RVs A m H es us → RVs A m H (ds ++ es) (vs ++ us)
  | [], _, _, _, h, q => by rw [show _ = [] from h]; exact q
  | d :: ds, _, _, _, h, q => by
    obtain ⟨u, us, rfl, h1, h2⟩ := h
    exact ⟨u, _, rfl, h1, RVs.append h2 q⟩
theorem RVs.get : ∀ {ds : List D} {vs : List V} {i : Nat} {d : D}, RVs A m H ds vs → ds[i]? = some d → ∃ v, vs[i]? = some v ∧ RV A m H d v
  | [], _, _, _, _, e => by simp at e
  | _ :: _, _, 0, _, h, e => by
    obtain ⟨u, us, rfl, h1, _⟩ := h
    simp at e
    subst e
    exact ⟨u, rfl, h1⟩
  | _ :: _, _, i + 1, _, h, e => by
    obtain ⟨u, us, rfl, _, h2⟩ := h
    exact RVs.get (i := i) h2 (by simpa using e)
theorem RVs.get' : ∀ {ds : List D} {vs : List V} {i : Nat} {v : V}, RVs A m H ds vs → vs[i]? = some v → ∃ d, ds[i]? = some d ∧ RV A m H d v
  | [], _, _, _, h, e => by rw [show _ = [] from h] at e; simp at e
  | d :: _, _, 0, _, h, e => by
    obtain ⟨u, us, rfl, h1, _⟩ := h
    simp at e
    subst e
    exact ⟨d, rfl, h1⟩
  | _ :: _, _, i + 1, _, h, e => by
    obtain ⟨u, us, rfl, _, h2⟩ := h
    exact RVs.get' (i := i) h2 (by simpa using e)
theorem RVs.set : ∀ {ds : List D} {vs : List V} {d : D} {v : V} (i : Nat), RVs A m H ds vs → RV A m H d v → RVs A m H (ds.set i d) (vs.set i v)
  | [], _, _, _, _, h, _ => by rw [show _ = [] from h]; rfl
  | _ :: _, _, _, _, 0, h, q => by
    obtain ⟨u, us, rfl, _, h2⟩ := h
    exact ⟨_, us, rfl, q, h2⟩
  | _ :: _, _, _, _, i + 1, h, q => by
    obtain ⟨u, us, rfl, h1, h2⟩ := h
    exact ⟨u, _, rfl, h1, RVs.set i h2 q⟩
theorem RVs.take : ∀ {ds : List D} {vs : List V} (n : Nat), RVs A m H ds vs → RVs A m H (ds.take n) (vs.take n)
  | [], _, _, h => by rw [show _ = [] from h]; simp; rfl
  | _ :: _, _, 0, h => by
    obtain ⟨u, us, rfl, _, _⟩ := h
    rfl
  | _ :: _, _, n + 1, h => by
    obtain ⟨u, us, rfl, h1, h2⟩ := h
    exact ⟨u, _, rfl, h1, RVs.take n h2⟩
theorem RVs.drop : ∀ {ds : List D} {vs : List V} (n : Nat), RVs A m H ds vs → RVs A m H (ds.drop n) (vs.drop n)
  | [], _, _, h => by rw [show _ = [] from h]; simp; rfl
  | _ :: _, _, 0, h => h
  | _ :: _, _, n + 1, h => by
    obtain ⟨u, us, rfl, h1, h2⟩ := h
    exact RVs.drop n h2
theorem RVs.one {d : D} {v : V} (h : RV A m H d v) : RVs A m H [d] [v] := ⟨v, [], rfl, h, rfl⟩
theorem RVs.ints : ∀ ns : List Int, RVs A m H (ns.map D.int) (ns.map V.int)
  | [] => rfl
  | n :: ns => ⟨_, _, rfl, rfl, RVs.ints ns⟩
theorem RVs.ofInts : ∀ {ns : List Int} {vs : List V}, RVs A m H (ns.map D.int) vs → vs = ns.map V.int
  | [], _, h => h
  | n :: ns, _, h => by
    obtain ⟨u, us, rfl, h1, h2⟩ := h
    rw [RVs.ofInts h2, show u = .int n from h1]
    rfl
/-- items of a list or tuple -/
theorem seqOf_ok (r : RS A m S H) {d : D} {v : V} {xs : List D} (rv : RV A m H d v) (e : seqOf S d = some xs) : ∃ a vs, v = .ref a ∧ (SqL A.K H a vs ∨ SqT A.K H a vs) ∧ RVs A m H xs vs := by
  cases d with
  | tup ys =>
    cases e
    obtain ⟨a, vs, e1, q, hs⟩ := rv
    exact ⟨a, vs, e1, .inr q.sqt, hs⟩
  | scr ns =>
    cases e
    obtain ⟨a, e1, q⟩ := rv
    exact ⟨a, _, e1, .inl q.sql, RVs.ints ns⟩
  | ob i =>
    obtain ⟨a, q, e1⟩ := rv
    simp only [seqOf, lstAt] at e
    split at e
    · rename_i ys hi
      cases e
      obtain ⟨vs, h1, h2⟩ := r.obj i _ a hi q
      exact ⟨a, vs, e1, .inl (.of h1), h2⟩
    · cases e
  | non => cases e
  | bl _ => cases e
  | int _ => cases e
  | str _ => cases e
  | fn _ => cases e
theorem lstAt_ok (r : RS A m S H) {i : Nat} {a : Addr} {xs : List D} (hi : m[i]? = some a) (e : lstAt S i = some xs) : ∃ vs, H a = some (.lst vs) ∧ RVs A m H xs vs := by
  simp only [lstAt] at e
  split at e
  · rename_i ys h
    cases e
    exact r.obj i _ a h hi
  · cases e
/-- an object that the store does not know is written: the values stay -/
theorem RS.touch (r : RS A m S H) {p : Addr} {xs : List V} (o : HO) (hp : H p = some (.lst xs)) (np : p ∉ m) : Mon m H m (upd H p o) ∧ RS A m S (upd H p o) := by
  have x : Mon m H m (upd H p o) := ⟨fun _ _ h => h, fun a ys h => by
    rw [upd_ne (fun e => by rw [e, hp] at h; cases h)]; exact h, fun a ob ys h => by
    rw [upd_ne (fun e => by rw [e, hp] at h; cases h)]; exact h, fun a q n h => ⟨n, by
    rw [upd_ne (fun e => by rw [e, hp] at h; unfold LamX.CodeO at h; cases h)]; exact h⟩⟩
  have ee : ∀ a ∈ m, upd H p o a = H a := fun a h => upd_ne (fun e => np (e ▸ h))
  refine ⟨x, r.len, r.nd, fun a h => ?_, fun i ob a e1 e2 => ?_⟩
  · rw [ee a h]; exact r.chg a h
  · exact (r.obj i ob a e1 e2).mon x (ee a (List.mem_of_getElem? e2))
theorem Ext.touch {m0 : List Addr} {H0 : Hp} (x : Ext m0 H0 m H) {p : Addr} (o : HO) (h0 : H0 p = none) (np : p ∉ m0) : Ext m0 H0 m (upd H p o) :=
  ⟨x.app, fun a ob h n => by rw [upd_ne (ne_of_none h h0)]; exact x.keep a ob h n, fun a h => by rw [upd_ne (fun e : a = p => np (by rw [← e]; exact h))]; exact x.there a h, fun a od u h e => by rw [upd_ne (fun e : a = p => np (by rw [← e]; exact h))]; exact x.frz a od u h e⟩
end
end PL

set_option Elab.async false
set_option linter.all false
set_option maxRecDepth 100000
set_option maxHeartbeats 1000000
/-! PL3: what an end of the own language asks of the model; expressions. -/
namespace PL
open PySem PySem.Spec PyProof.Rows L2

theorem Ext.more {m m1 : List Addr} {H H1 : Hp} (x : Ext m H m1 H1) {a : Addr} (h : H a = none) : Ext m H (m1 ++ [a]) H1 := by
  obtain ⟨t, rfl, ht⟩ := x.app
  refine ⟨⟨t ++ [a], by simp, fun b hb => ?_⟩, x.keep, x.there, x.frz⟩
  rcases List.mem_append.mp hb with z | z
  · exact ht b z
  · rw [show b = a by simpa using z]; exact h
/-- an exception's fields -/
def RX (A : Ad) (m : List Addr) (H : Hp) (fs : List (List Nat × D)) (d : Option Addr) : Prop :=
  (fs = [] ∧ d = none) ∨ fs ≠ [] ∧ ∃ a vs, d = some a ∧ H a = some (.xd vs) ∧ RFs A m H fs vs
abbrev Rel (α β : Type) := Hp → List Addr → Hp → α → β → Prop
def Post {α β : Type} (A : Ad) (rel : Rel α β) (E : XK) (m : List Addr) (H : Hp) (r : R α) (Q : β → Hp → Prop) : Prop := match r with
  | .stuck => False
  | .ok a S' => ∀ m' H' b, Ext m H m' H' → RS A m' S' H' → rel H m' H' a b → Q b H'
  | .exc c fs S' => ∀ m' H' d, Ext m H m' H' → RS A m' S' H' → RX A m' H' fs d → E (.ref (A.ca c)) d H'
/-- the relation asks less of an earlier heap -/
def Anti {α β : Type} (rel : Rel α β) : Prop := ∀ m H m1 H1 m' H' a b, Ext m H m1 H1 → rel H1 m' H' a b → rel H m' H' a b
section
variable {α β γ δ : Type} {A : Ad} {rel : Rel α β} {rel2 : Rel γ δ} {E : XK} {m m1 : List Addr} {H H1 : Hp} {r : R α} {Q Q' : β → Hp → Prop}
theorem Post.shift (an : Anti rel) (p : Post A rel E m H r Q) (x : Ext m H m1 H1) : Post A rel E m1 H1 r Q := by
  cases r with
  | stuck => exact p
  | ok a S' => exact fun m' H' b e rs rl => p m' H' b (x.trans e) rs (an _ _ _ _ _ _ _ _ x rl)
  | exc c fs S' => exact fun m' H' b e rs rl => p m' H' b (x.trans e) rs rl
theorem Post.bind {f : α → Sto → R γ} {R' : β → Hp → Prop} {Q2 : δ → Hp → Prop} (an : Anti rel2) (p : Post A rel2 E m H (r.bind f) Q2)
    (k : ∀ a S1 m1 H1 b, Ext m H m1 H1 → RS A m1 S1 H1 → rel H m1 H1 a b → Post A rel2 E m1 H1 (f a S1) Q2 → R' b H1) : Post A rel E m H r R' := by
  cases r with
  | stuck => exact p
  | ok a S' => exact fun m' H' b e rs rl => k a S' m' H' b e rs rl (Post.shift an p e)
  | exc c fs S' => exact p
/-- the same, the first end known -/
theorem Post.bind' {f : α → Sto → R γ} {R' : β → Hp → Prop} {Q2 : δ → Hp → Prop} (an : Anti rel2) (p : Post A rel2 E m H (r.bind f) Q2)
    (k : ∀ a S1 m1 H1 b, r = .ok a S1 → Ext m H m1 H1 → RS A m1 S1 H1 → rel H m1 H1 a b → Post A rel2 E m1 H1 (f a S1) Q2 → R' b H1) : Post A rel E m H r R' := by
  cases r with
  | stuck => exact p
  | ok a S' => exact fun m' H' b e rs rl => k a S' m' H' b rfl e rs rl (Post.shift an p e)
  | exc c fs S' => exact p
/-- the same, where the value was new to the heap at first -/
theorem Post.bind0 {f : α → Sto → R γ} {R' : β → Hp → Prop} {Q2 : δ → Hp → Prop} (p : Post A rel2 E m H (r.bind f) Q2)
    (k : ∀ a S1 m1 H1 b, Ext m H m1 H1 → RS A m1 S1 H1 → rel H m1 H1 a b → Post A rel2 E m H (f a S1) Q2 → R' b H1) : Post A rel E m H r R' := by
  cases r with
  | stuck => exact p
  | ok a S' => exact fun m' H' b e rs rl => k a S' m' H' b e rs rl p
  | exc c fs S' => exact p
theorem Post.mono (p : Post A rel E m H r Q) (h : ∀ b H', Q b H' → Q' b H') : Post A rel E m H r Q' := by
  cases r with
  | stuck => exact p
  | ok a S' => exact fun m' H' b e rs rl => h _ _ (p m' H' b e rs rl)
  | exc c fs S' => exact p
end
/-- a value; values; a truth; a bound of a slice; a new list -/
def rE (A : Ad) : Rel D V := fun _ m' H' d v => RV A m' H' d v
def rEs (A : Ad) : Rel (List D) (List V) := fun _ m' H' d v => RVs A m' H' d v
def rB : Rel Bool Bool := fun _ _ _ a b => b = a
def rO : Rel (Option Int) (Option Int) := fun _ _ _ a b => b = a
def rL (A : Ad) : Rel (List D) V := fun H m' H' xs v => ∃ a vs, v = .ref a ∧ H' a = some (.lst vs) ∧ H a = none ∧ a ∉ m' ∧ RVs A m' H' xs vs
theorem anE {A : Ad} : Anti (rE A) := fun _ _ _ _ _ _ _ _ _ h => h
theorem anEs {A : Ad} : Anti (rEs A) := fun _ _ _ _ _ _ _ _ _ h => h
theorem anB : Anti rB := fun _ _ _ _ _ _ _ _ _ h => h
theorem anO : Anti rO := fun _ _ _ _ _ _ _ _ _ h => h
theorem anL {A : Ad} : Anti (rL A) := fun m H m1 H1 m' H' a b x ⟨p, vs, e, h1, h2, h3⟩ => ⟨p, vs, e, h1, (by
  cases q : H p with
  | none => rfl
  | some o =>
    by_cases hm : p ∈ m
    · exact absurd h2 (x.there p hm)
    · rw [x.keep p o q hm] at h2
      cases h2) , h3⟩
/-- the reading of a piece of the own language -/
def tR {α β : Type} (A : Ad) (rel : Rel α β) (W : WX) (f : Env → Sto → R α) : L2.St → Hp → (β → Hp → Prop) → Prop := fun σ H Q =>
  ∃ m ρ S, RS A m S H ∧ REnv A m H ρ σ ∧ Post A rel (fun c d H' => W c d σ H') m H (f ρ S) Q

section
variable {X : Cx} {e : Expr}
theorem _root_.L2.PE.imp {t t' : TE} (h : PE X e t) (i : ∀ σ H Q, t' σ H Q → t σ H Q) : PE X e t' := ⟨fun pins s σ H Q I q => h.run pins s σ H Q I (i σ H Q q)⟩
theorem _root_.L2.PT.imp {t t' : TT} (h : PT X e t) (i : ∀ σ H Q, t' σ H Q → t σ H Q) : PT X e t' := ⟨fun pins s σ H Q I q => h.run pins s σ H Q I (i σ H Q q)⟩
theorem _root_.L2.PA.imp {es : List Expr} {t t' : TA} (h : PA X es t) (i : ∀ σ H Q, t' σ H Q → t σ H Q) : PA X es t' := ⟨fun p pins s σ H Q I q => h.run p pins s σ H Q I (i σ H Q q)⟩
theorem _root_.L2.PS.imp {st : Stmt} {t t' : TS} (h : PS X st t) (i : ∀ D σ H, t' D σ H → t D σ H) : PS X st t' := ⟨fun pins s σ H D I q => h.run pins s σ H D I (i D σ H q)⟩
theorem _root_.L2.PSs.imp {st : List Stmt} {t t' : TS} (h : PSs X st t) (i : ∀ D σ H, t' D σ H → t D σ H) : PSs X st t' := ⟨fun pins s σ H D I q => h.run pins s σ H D I (i D σ H q)⟩
/-- a reading that is chosen when it is run -/
theorem _root_.L2.PE.pick {t' : TE} (h : ∀ σ H Q, t' σ H Q → ∃ t, PE X e t ∧ t σ H Q) : PE X e t' := ⟨fun pins s σ H Q I q => let ⟨_, p, q'⟩ := h σ H Q q; p.run pins s σ H Q I q'⟩
end

section
variable {A : Ad} {W : WX} {X : Cx} {e a b c : Expr} {es : List Expr} {pos : Pos} {fe fa fb fc : Env → Sto → R D} {fes : Env → Sto → R (List D)}
abbrev SE (A : Ad) (W : WX) (X : Cx) (e : Expr) (f : Env → Sto → R D) : Prop := PE X e (tR A (rE A) W f)
abbrev SA (A : Ad) (W : WX) (X : Cx) (es : List Expr) (f : Env → Sto → R (List D)) : Prop := PA X es (tR A (rEs A) W f)
abbrev SB (A : Ad) (W : WX) (X : Cx) (e : Expr) (f : Env → Sto → R Bool) : Prop := PT X e (tR A rB W f)
abbrev SL (A : Ad) (W : WX) (X : Cx) (e : Expr) (f : Env → Sto → R (List D)) : Prop := PE X e (tR A (rL A) W f)
/-- the value at once -/
theorem Post.now {α β : Type} {rel : Rel α β} {E : XK} {m : List Addr} {H : Hp} {S : Sto} {x : α} {Q : β → Hp → Prop} {y : β} (p : Post A rel E m H (.ok x S) Q) (rs : RS A m S H) (h : rel H m H x y) : Q y H := p m H y rs.ext rs h

theorem se_non {j} : SE A W X (.Constant .none j pos) (fun _ S => .ok .non S) := (pe_non).imp fun σ H Q ⟨m, ρ, S, rs, re, p⟩ => p.now rs rfl
theorem se_bl {b j} : SE A W X (.Constant (.bool b) j pos) (fun _ S => .ok (.bl b) S) := (pe_bl).imp fun σ H Q ⟨m, ρ, S, rs, re, p⟩ => p.now rs rfl
theorem se_int {i j} : SE A W X (.Constant (.int i) j pos) (fun _ S => .ok (.int i) S) := (pe_int).imp fun σ H Q ⟨m, ρ, S, rs, re, p⟩ => p.now rs rfl
theorem se_str {x : Str} {l : List Nat} {j} (h : x = S' l) : SE A W X (.Constant (.str x) j pos) (fun _ S => .ok (.str l) S) := (pe_str).imp fun σ H Q ⟨m, ρ, S, rs, re, p⟩ => p.now rs (by rw [h]; rfl)
theorem se_var {i : Nat} {x : Str} (hN : X.N[i]? = some x) (hv : Vis X.env.scope x) (hd : (x == ("__debug__" : Str)) = false) (hcd : (x == ("__classdict__" : Str)) = false) :
    SE A W X (.Name x pos) (fun ρ S => match ρ[i]? with | some (some d) => .ok d S | _ => .stuck) := (pe_var hN hv hd hcd).imp fun σ H Q ⟨m, ρ, S, rs, re, p⟩ => by
  dsimp only at p
  cases h : ρ[i]? with
  | none => rw [h] at p; exact p.elim
  | some o =>
    cases o with
    | none => rw [h] at p; exact p.elim
    | some d =>
      rw [h] at p
      obtain ⟨v, e1, e2⟩ := re.2 i d h
      exact ⟨v, e1, p.now rs e2⟩
theorem se_gv {x : Str} {v : V} {u : Value} {d : D} (hg : Gl X x) (hm : X.mg x = some u) (r : RelV v u) (rv : ∀ m H, RV A m H d v) (hd : (x == ("__debug__" : Str)) = false) : SE A W X (.Name x pos) (fun _ S => .ok d S) :=
  (pe_glob hg hm r hd).imp fun σ H Q ⟨m, ρ, S, rs, re, p⟩ => p.now rs (rv m H)
theorem sa_nil : SA A W X [] (fun _ S => .ok [] S) := pa_nil.imp fun σ H Q ⟨m, ρ, S, rs, re, p⟩ => p.now rs rfl
theorem sa_cons (ha : SE A W X e fe) (hr : SA A W X es fes) (hs : starEach (e :: es) X.env = (false, eval e X.env) :: starEach es X.env) :
    SA A W X (e :: es) (fun ρ S => (fe ρ S).bind fun x S1 => (fes ρ S1).bind fun xs S2 => .ok (x :: xs) S2) := (pa_cons ha hr hs).imp fun σ H Q ⟨m, ρ, S, rs, re, p⟩ => by
  refine ⟨m, ρ, S, rs, re, p.bind anEs fun d S1 m1 H1 v x1 rs1 rv1 p1 => ?_⟩
  refine ⟨m1, ρ, S1, rs1, re.mono rs x1, p1.bind anEs fun ds S2 m2 H2 vs x2 rs2 rv2 p2 => ?_⟩
  exact p2.now rs2 ⟨v, vs, rfl, RV.mono rs1 x2 rv1, rv2⟩
theorem se_tup {k : Nat} (h : SA A W X es fes) (hl : ∀ ρ S ds S1, fes ρ S = .ok ds S1 → ds.length ≤ 1000) : SE A W X (.Tuple es k pos) (fun ρ S => (fes ρ S).bind fun ds S1 => .ok (.tup ds) S1) := (pe_tup h).imp fun σ H Q ⟨m, ρ, S, rs, re, p⟩ => by
  refine ⟨m, ρ, S, rs, re, p.bind' anE fun ds S1 m1 H1 vs eq x1 rs1 rv1 p1 => ?_⟩
  refine ⟨?_, fun q hq => ?_⟩
  · rw [RVs.length rv1]
    exact Nat.le_of_lt (small1000 (hl _ _ _ _ eq))
  · obtain ⟨x2, rs2⟩ := rs1.lay (.tup vs) hq
    exact p1 m1 _ _ x2 rs2 ⟨q, vs, rfl, .inl upd_same, RVs.mono rs1 x2 rv1⟩
theorem sl_disp (h : SA A W X es fes) (hl : ∀ ρ S ds S1, fes ρ S = .ok ds S1 → ds.length ≤ 1000) : SL A W X (.List es pos) fes := (pe_lst h).imp fun σ H Q ⟨m, ρ, S, rs, re, p⟩ => by
  have p : Post A (rL A) (fun c d H' => W c d σ H') m H ((fes ρ S).bind fun ds S1 => .ok ds S1) Q := by
    cases q : fes ρ S <;> (rw [q] at p; exact p)
  refine ⟨m, ρ, S, rs, re, p.bind' anL fun ds S1 m1 H1 vs eq x1 rs1 rv1 p1 => ?_⟩
  refine ⟨?_, fun q hq => ?_⟩
  · rw [RVs.length rv1]
    exact Nat.le_of_lt (small1000 (hl _ _ _ _ eq))
  · obtain ⟨x2, rs2⟩ := rs1.lay (.lst vs) hq
    exact p1 m1 _ _ x2 rs2 ⟨q, vs, rfl, upd_same, hq, fun z => rs1.there q z hq, RVs.mono rs1 x2 rv1⟩
/-- a new list comes into the store -/
theorem se_own (h : SL A W X e fes) : SE A W X e (fun ρ S => (fes ρ S).bind fun xs S1 => pushO S1 (.lst xs)) := h.imp fun σ H Q ⟨m, ρ, S, rs, re, p⟩ => by
  refine ⟨m, ρ, S, rs, re, p.bind0 fun ds S1 m1 H1 v x1 rs1 rv1 p1 => ?_⟩
  obtain ⟨a, vs, rfl, h1, h2, h3, rvs⟩ := rv1
  have rs2 : RS A (m1 ++ [a]) (S1 ++ [.lst ds]) H1 := rs1.adopt h1 h3 trivial ⟨vs, h1, rvs.grow⟩ (RO.grow fun q z => by rw [h1] at z; unfold LamX.CodeO at z; cases z)
  exact p1 (m1 ++ [a]) H1 (.ref a) (x1.more h2) rs2 ⟨a, by rw [← rs1.len]; simp, rfl⟩

/-! ### operators -/
theorem se_neg (ha : SE A W X a fa) : SE A W X (.UnaryOp .USub a pos) (fun ρ S => (fa ρ S).bind fun x S1 => match x with | .int i => .ok (.int (-i)) S1 | _ => .stuck) := (pe_un un_neg ha).imp fun σ H Q ⟨m, ρ, S, rs, re, p⟩ => by
  refine ⟨m, ρ, S, rs, re, p.bind anE fun d S1 m1 H1 v x1 rs1 rv1 p1 => ?_⟩
  cases d with
  | int i => exact ⟨i, rv1, p1.now rs1 rfl⟩
  | _ => exact p1.elim
/-- what an operator's rule asks, answered -/
def OpS (A : Ad) (r : R2) (g : D → D → Option D) : Prop := ∀ m S H d e x y z (Q : VK), RS A m S H → RV A m H d x → RV A m H e y → g d e = some z → (∀ m' H' v, Ext m H m' H' → RS A m' S H' → RV A m' H' z v → Q v H') → r x y H Q
theorem se_op {op : Operator} {r : R2} {g : D → D → Option D} (ho : OpR X (binaryOp op) r) (hr : OpS A r g) (ha : SE A W X a fa) (hb : SE A W X b fb) :
    SE A W X (.BinOp a op b pos) (fun ρ S => (fa ρ S).bind fun x S1 => (fb ρ S1).bind fun y S2 => ofOpt (g x y) S2) := (pe_op ho ha hb).imp fun σ H Q ⟨m, ρ, S, rs, re, p⟩ => by
  refine ⟨m, ρ, S, rs, re, p.bind anE fun d S1 m1 H1 v x1 rs1 rv1 p1 => ?_⟩
  refine ⟨m1, ρ, S1, rs1, re.mono rs x1, p1.bind anE fun e S2 m2 H2 u x2 rs2 rv2 p2 => ?_⟩
  cases q : g d e with
  | none => rw [q] at p2; exact p2.elim
  | some z => rw [q] at p2; exact hr m2 S2 H2 d e v u z Q rs2 (RV.mono rs1 x2 rv1) rv2 q p2
theorem S'_append (a b : List Nat) : S' a ++ S' b = S' (a ++ b) := Str.ext' (by
  apply Array.toList_inj.mp
  show (S' a ++ S' b).cps.toList = (S' (a ++ b)).cps.toList
  simp only [show (S' a ++ S' b).cps = (S' a).cps ++ (S' b).cps from rfl, Array.toList_append])
theorem bin_ok (hK : A.K = X.K) (op : Operator) : ∃ r, OpR X (binaryOp op) r ∧ OpS A r (binD op) := by
  have bad : OpR X (binaryOp op) (fun _ _ _ _ => False) := fun _ _ _ _ _ _ _ _ _ _ _ _ h => h.elim
  cases op with
  | Add =>
    refine ⟨_, (op_add.or op_add_str).or op_catA, ?_⟩
    intro m S H d e x y z Q rs rd re h k
    cases d with
    | int i =>
      cases e with
      | int j =>
        cases h
        exact .inl (.inl ⟨i, j, rd, re, k m H _ rs.ext rs rfl⟩)
      | _ => cases h
    | str i =>
      cases e with
      | str j =>
        simp only [binD] at h
        split at h
        · cases h
          rename_i hl
          exact .inl (.inr ⟨S' i, S' j, rd, re, by rw [S'_len, S'_len]; exact hl, k m H _ rs.ext rs (by rw [S'_append]; rfl)⟩)
        · cases h
      | _ => cases h
    | tup i =>
      cases e with
      | tup j =>
        simp only [binD] at h
        split at h
        · cases h
          rename_i hl
          obtain ⟨a, vs, rfl, ta, ra⟩ := rd
          obtain ⟨b, us, rfl, tb, rb⟩ := re
          rw [← hK]
          refine .inr ⟨a, b, vs, us, rfl, rfl, ta.sqt, tb.sqt, by rw [ra.length, rb.length]; exact hl, fun ex => ?_, fun ex ey => ?_, fun ex ey p hp => ?_⟩
          · have : i = [] := List.eq_nil_of_length_eq_zero (by rw [← ra.length, ex]; rfl)
            subst this
            exact k m H _ rs.ext rs ⟨b, us, rfl, tb, rb⟩
          · have : j = [] := List.eq_nil_of_length_eq_zero (by rw [← rb.length, ey]; rfl)
            subst this
            exact k m H _ rs.ext rs ⟨a, vs, rfl, ta, by rw [List.append_nil]; exact ra⟩
          · obtain ⟨x1, rs1⟩ := rs.lay (.tup (vs ++ us)) hp
            exact k m _ _ x1 rs1 ⟨p, _, rfl, .inl upd_same, (ra.append rb).mono rs x1⟩
        · cases h
      | _ => cases h
    | _ => cases h
  | Sub =>
    refine ⟨_, op_sub, ?_⟩
    intro m S H d e x y z Q rs rd re h k
    cases d with
    | int i =>
      cases e with
      | int j =>
        cases h
        exact ⟨i, j, rd, re, k m H _ rs.ext rs rfl⟩
      | _ => cases h
    | _ => cases h
  | Mult =>
    refine ⟨_, op_mulW, ?_⟩
    intro m S H d e x y z Q rs rd re h k
    cases d with
    | int i =>
      cases e with
      | int j =>
        simp only [binD] at h
        split at h
        · cases h
          rename_i hl
          exact ⟨i, j, rd, re, hl, k m H _ rs.ext rs rfl⟩
        · cases h
      | _ => cases h
    | _ => cases h
  | FloorDiv =>
    refine ⟨_, op_fdivW, ?_⟩
    intro m S H d e x y z Q rs rd re h k
    cases d with
    | int i =>
      cases e with
      | int j =>
        simp only [binD] at h
        split at h
        · cases h
          rename_i hl
          exact ⟨i, j, rd, re, hl, k m H _ rs.ext rs rfl⟩
        · cases h
      | _ => cases h
    | _ => cases h
  | Mod =>
    refine ⟨_, op_mod, ?_⟩
    intro m S H d e x y z Q rs rd re h k
    cases d with
    | int i =>
      cases e with
      | int j =>
        simp only [binD] at h
        split at h
        · cases h
          rename_i hl
          exact ⟨i, j, rd, re, hl, k m H _ rs.ext rs rfl⟩
        · cases h
      | _ => cases h
    | _ => cases h
  | Pow =>
    refine ⟨_, op_pow, ?_⟩
    intro m S H d e x y z Q rs rd re h k
    cases d with
    | int i =>
      cases e with
      | int j =>
        simp only [binD] at h
        split at h
        · cases h
          rename_i hl
          exact ⟨i, j, rd, re, ⟨hl.1, by omega, hl.2.2⟩, k m H _ rs.ext rs rfl⟩
        · cases h
      | _ => cases h
    | _ => cases h
  | _ => exact ⟨_, bad, fun m S H d e x y z Q rs rd re h k => by cases d <;> cases e <;> cases h⟩
/-! ### data -/
mutual
theorem py_ok {K : PySem.W.Frag} (hK : A.K = K) {m : List Addr} {H : Hp} : ∀ {d : D} {v : V} {p : PyData}, RV A m H d v → d.py = some p → Dp K H v p
  | .non, _, _, h, e => by cases e; rw [show _ = V.non from h]; exact .non
  | .bl b, _, _, h, e => by cases e; rw [show _ = V.bl b from h]; exact .bl b
  | .int i, _, _, h, e => by cases e; rw [show _ = V.int i from h]; exact .int i
  | .str x, _, _, h, e => by cases e; rw [show _ = V.str (S' x) from h]; exact .str _
  | .tup xs, _, _, h, e => by
    obtain ⟨a, vs, rfl, t, r⟩ := h
    simp only [D.py] at e
    cases q : D.pys xs with
    | none => rw [q] at e; cases e
    | some ds =>
      rw [q] at e
      cases e
      exact .tup (hK ▸ t.sqt) (pys_ok hK r q)
  | .scr _, _, _, _, e => by cases e
  | .ob _, _, _, _, e => by cases e
  | .fn _, _, _, _, e => by cases e
theorem pys_ok {K : PySem.W.Frag} (hK : A.K = K) {m : List Addr} {H : Hp} : ∀ {d : List D} {v : List V} {p : List PyData}, RVs A m H d v → D.pys d = some p → DpAll K H v p
  | [], _, _, h, e => by cases e; rw [show _ = [] from h]; exact .nil
  | d :: ds, _, _, h, e => by
    obtain ⟨u, us, rfl, h1, h2⟩ := h
    simp only [D.pys] at e
    split at e
    · rename_i p ps e1 e2
      cases e
      exact .cons (py_ok hK h1 e1) (pys_ok hK h2 e2)
    · cases e
end
theorem non_ok {m : List Addr} {H : Hp} {d : D} {x : V} (rd : RV A m H d x) : decide (x = V.non) = isNon d := by
  cases d with
  | non => rw [show x = V.non from rd]; rfl
  | bl b => rw [show x = V.bl b from rd]; rfl
  | int b => rw [show x = V.int b from rd]; rfl
  | str b => rw [show x = V.str _ from rd]; rfl
  | tup b => obtain ⟨a, _, rfl, _⟩ := rd; rfl
  | scr b => obtain ⟨a, rfl, _⟩ := rd; rfl
  | ob b => obtain ⟨a, _, rfl⟩ := rd; rfl
  | fn b => rw [show x = V.ref _ from rd]; rfl
/-- a comparison's rule, answered -/
def CmS (A : Ad) (r : R2) (g : D → D → Option Bool) : Prop := ∀ m S H d e x y k (Q : VK), RS A m S H → RV A m H d x → RV A m H e y → g d e = some k → Q (.bl k) H → r x y H Q
theorem cmp_ok (hK : A.K = X.K) (hu : X.A.units + 64 < cLine) (op : CmpOp) : ∃ r, OpR X (compareOp op) r ∧ CmS A r (cmpD op) := by
  have bad : OpR X (compareOp op) (fun _ _ _ _ => False) := fun _ _ _ _ _ _ _ _ _ _ _ _ h => h.elim
  cases op with
  | Eq =>
    refine ⟨_, op_eqD hu, ?_⟩
    intro m S H d e x y k Q rs rd re h q
    simp only [cmpD, eqD] at h
    split at h
    · rename_i a b ea eb
      split at h
      · rename_i sh
        cases h
        rw [Bool.and_eq_true] at sh
        exact ⟨a, b, py_ok hK rd ea, py_ok hK re eb, sh.1, sh.2, q⟩
      · cases h
    · cases h
  | NotEq =>
    refine ⟨_, op_neD hu, ?_⟩
    intro m S H d e x y k Q rs rd re h q
    simp only [cmpD, eqD] at h
    split at h
    · rename_i a b ea eb
      split at h
      · rename_i sh
        cases h
        rw [Bool.and_eq_true] at sh
        exact ⟨a, b, py_ok hK rd ea, py_ok hK re eb, sh.1, sh.2, q⟩
      · cases h
    · cases h
  | Lt =>
    refine ⟨_, op_lt.or op_lt_str, ?_⟩
    intro m S H d e x y k Q rs rd re h q
    cases d <;> cases e <;> cases h
    · exact .inl ⟨_, _, rd, re, q⟩
    · exact .inr ⟨_, _, rd, re, q⟩
  | LtE =>
    refine ⟨_, op_le.or op_le_str, ?_⟩
    intro m S H d e x y k Q rs rd re h q
    cases d <;> cases e <;> cases h
    · exact .inl ⟨_, _, rd, re, q⟩
    · exact .inr ⟨_, _, rd, re, q⟩
  | Gt =>
    refine ⟨_, op_gt.or op_gt_str, ?_⟩
    intro m S H d e x y k Q rs rd re h q
    cases d <;> cases e <;> cases h
    · exact .inl ⟨_, _, rd, re, q⟩
    · exact .inr ⟨_, _, rd, re, q⟩
  | GtE =>
    refine ⟨_, op_ge.or op_ge_str, ?_⟩
    intro m S H d e x y k Q rs rd re h q
    cases d <;> cases e <;> cases h
    · exact .inl ⟨_, _, rd, re, q⟩
    · exact .inr ⟨_, _, rd, re, q⟩
  | Is =>
    refine ⟨_, op_isN, ?_⟩
    intro m S H d e x y k Q rs rd re h q
    cases e <;> cases h
    refine ⟨re, ?_⟩
    rw [non_ok rd]
    exact q
  | IsNot =>
    refine ⟨_, op_notN, ?_⟩
    intro m S H d e x y k Q rs rd re h q
    cases e <;> cases h
    refine ⟨re, ?_⟩
    rw [non_ok rd]
    exact q
  | In => exact ⟨_, bad, fun m S H d e x y k Q rs rd re h q => by cases h⟩
  | NotIn => exact ⟨_, bad, fun m S H d e x y k Q rs rd re h q => by cases h⟩
theorem se_cmp {op : CmpOp} {r : R2} {g : D → D → Option Bool} (ho : OpR X (compareOp op) r) (hr : CmS A r g) (hm : behindInMarks op b = false) (ha : SE A W X a fa) (hb : SE A W X b fb) :
    SE A W X (.Compare a [op] [b] pos) (fun ρ S => (fa ρ S).bind fun x S1 => (fb ρ S1).bind fun y S2 => (ofOpt (g x y) S2).bind fun k S2 => .ok (.bl k) S2) := (pe_cmpR ho ha hb hm).imp fun σ H Q ⟨m, ρ, S, rs, re, p⟩ => by
  refine ⟨m, ρ, S, rs, re, p.bind anE fun d S1 m1 H1 v x1 rs1 rv1 p1 => ?_⟩
  refine ⟨m1, ρ, S1, rs1, re.mono rs x1, p1.bind anE fun e S2 m2 H2 u x2 rs2 rv2 p2 => ?_⟩
  cases q : g d e with
  | none => rw [q] at p2; exact p2.elim
  | some z => rw [q] at p2; exact hr m2 S2 H2 d e v u z Q rs2 (RV.mono rs1 x2 rv1) rv2 q (p2.now rs2 rfl)
theorem R.bind_assoc {α β γ : Type} (r : R α) (f : α → Sto → R β) (g : β → Sto → R γ) : (r.bind f).bind g = r.bind fun x S => (f x S).bind g := by cases r <;> rfl
/-- truth of what an expression gives -/
abbrev tru (f : Env → Sto → R D) : Env → Sto → R Bool := fun ρ S => (f ρ S).bind fun x S1 => ofOpt (truD S1 x) S1
theorem sb_cmp {op : CmpOp} {r : R2} {g : D → D → Option Bool} (ho : OpR X (compareOp op) r) (hr : CmS A r g) (hm : behindInMarks op b = false) (ha : SE A W X a fa) (hb : SE A W X b fb) :
    SB A W X (.Compare a [op] [b] pos) (tru fun ρ S => (fa ρ S).bind fun x S1 => (fb ρ S1).bind fun y S2 => (ofOpt (g x y) S2).bind fun k S2 => .ok (.bl k) S2) := (pt_cmpR ho ha hb hm).imp fun σ H Q ⟨m, ρ, S, rs, re, p⟩ => by
  simp only [tru, R.bind_assoc] at p
  refine ⟨m, ρ, S, rs, re, p.bind anB fun d S1 m1 H1 v x1 rs1 rv1 p1 => ?_⟩
  refine ⟨m1, ρ, S1, rs1, re.mono rs x1, p1.bind anB fun e S2 m2 H2 u x2 rs2 rv2 p2 => ?_⟩
  cases q : g d e with
  | none => rw [q] at p2; exact p2.elim
  | some z =>
    rw [q] at p2
    exact hr m2 S2 H2 d e v u z _ rs2 (RV.mono rs1 x2 rv1) rv2 q ⟨z, rfl, p2.now rs2 rfl⟩

/-! ### truth, and, or, not -/
theorem truD_ok (hK : A.K = X.K) {m : List Addr} {S : Sto} {H : Hp} {d : D} {x : V} {k : Bool} (rs : RS A m S H) (rv : RV A m H d x) (h : truD S d = some k) : TruV X.K x H k := by
  cases d with
  | non => cases h; rw [show x = V.non from rv]; rfl
  | bl b => cases h; rw [show x = V.bl k from rv]; rfl
  | int i => cases h; rw [show x = V.int i from rv]; rfl
  | str t =>
    simp only [truD] at h
    split at h
    · cases h
      rw [show x = V.str (S' t) from rv]
      refine ⟨by rw [S'_len]; assumption, ?_⟩
      rw [S'_len]
      cases t with
      | nil => rfl
      | cons c r =>
        simp
        omega
    · cases h
  | tup xs =>
    cases h
    obtain ⟨a, vs, rfl, t, r⟩ := rv
    refine .inr (.inl ⟨vs, hK ▸ t.sqt, ?_⟩)
    have := r.length
    cases xs <;> cases vs <;> first | rfl | simp at this
  | ob i =>
    obtain ⟨a, q, rfl⟩ := rv
    simp only [truD] at h
    split at h
    · rename_i b kvs e
      split at h
      · cases h
      · cases h
        simp only [dctAt] at e
        split at e
        · rename_i kvs' e'
          cases e
          obtain ⟨vs, h1, h2⟩ := rs.obj i _ a e' q
          refine .inr (.inr ⟨vs, h1, ?_⟩)
          cases kvs with
          | nil => rw [show vs = [] from h2]; rfl
          | cons p r =>
            obtain ⟨k, d⟩ := p
            obtain ⟨k', v, us, rfl, _⟩ := h2
            rfl
        · cases e
          exact absurd rfl (by assumption)
        · cases e
    · cases e : lstAt S i with
      | none => rw [e] at h; cases h
      | some xs =>
        rw [e] at h
        cases h
        obtain ⟨vs, h1, h2⟩ := lstAt_ok rs q e
        refine .inl ⟨vs, .of h1, ?_⟩
        have := h2.length
        cases xs <;> cases vs <;> first | rfl | simp at this
  | scr _ => cases h
  | fn _ => cases h
theorem sb_plain (hK : A.K = X.K) (h : SE A W X e fe) (he : ∀ whole, isTrue e X.env whole = (do let v ← whole; standAt e.pos; holding [v] (truthy v))) : SB A W X e (tru fe) := (pt_truth h he).imp fun σ H Q ⟨m, ρ, S, rs, re, p⟩ => by
  refine ⟨m, ρ, S, rs, re, p.bind anB fun d S1 m1 H1 v x1 rs1 rv1 p1 => ?_⟩
  cases q : truD S1 d with
  | none => rw [q] at p1; exact p1.elim
  | some k => rw [q] at p1; exact ⟨k, truD_ok hK rs1 rv1 q, p1.now rs1 rfl⟩
theorem se_not (hK : A.K = X.K) (h : SE A W X e fe) : SE A W X (.UnaryOp .Not e pos) (fun ρ S => (fe ρ S).bind fun x S1 => (ofOpt (truD S1 x) S1).bind fun b S1 => .ok (.bl (!b)) S1) := (pe_notT h).imp fun σ H Q ⟨m, ρ, S, rs, re, p⟩ => by
  refine ⟨m, ρ, S, rs, re, p.bind anE fun d S1 m1 H1 v x1 rs1 rv1 p1 => ?_⟩
  cases q : truD S1 d with
  | none => rw [q] at p1; exact p1.elim
  | some k => rw [q] at p1; exact ⟨k, truD_ok hK rs1 rv1 q, p1.now rs1 rfl⟩
theorem sb_not (h : SB A W X e (tru fe)) : SB A W X (.UnaryOp .Not e pos) (tru fun ρ S => (fe ρ S).bind fun x S1 => (ofOpt (truD S1 x) S1).bind fun b S1 => .ok (.bl (!b)) S1) := (pt_not h).imp fun σ H Q ⟨m, ρ, S, rs, re, p⟩ => by
  have e1 : (tru (fun ρ S => (fe ρ S).bind fun x S1 => (ofOpt (truD S1 x) S1).bind fun b S1 => .ok (.bl (!b)) S1) ρ S) = (tru fe ρ S).bind fun b S1 => .ok (!b) S1 := by
    simp only [tru, R.bind_assoc]
    rfl
  rw [e1] at p
  exact ⟨m, ρ, S, rs, re, p.bind anB fun b S1 m1 H1 v x1 rs1 rv1 p1 => p1.now rs1 (by rw [show v = b from rv1]; rfl)⟩
/-- and, or of values -/
abbrev bop2 (k : Bool) (fa fb : Env → Sto → R D) : Env → Sto → R D := fun ρ S => (fa ρ S).bind fun x S1 => (ofOpt (truD S1 x) S1).bind fun b S1 => if b = k then fb ρ S1 else .ok x S1
variable {rest : List Expr}
theorem se_and (hK : A.K = X.K) (ha : SE A W X a fa) (hb : SE A W X (.BoolOp .And (b :: rest) pos) fb) : SE A W X (.BoolOp .And (a :: b :: rest) pos) (bop2 true fa fb) := (pe_andT ha hb).imp fun σ H Q ⟨m, ρ, S, rs, re, p⟩ => by
  refine ⟨m, ρ, S, rs, re, p.bind anE fun d S1 m1 H1 v x1 rs1 rv1 p1 => ?_⟩
  cases q : truD S1 d with
  | none => rw [q] at p1; exact p1.elim
  | some k =>
    rw [q] at p1
    refine ⟨k, truD_ok hK rs1 rv1 q, ?_⟩
    cases k with
    | true => exact ⟨m1, ρ, S1, rs1, re.mono rs x1, p1⟩
    | false => exact p1.now rs1 rv1
theorem se_or (hK : A.K = X.K) (ha : SE A W X a fa) (hb : SE A W X (.BoolOp .Or (b :: rest) pos) fb) : SE A W X (.BoolOp .Or (a :: b :: rest) pos) (bop2 false fa fb) := (pe_orT ha hb).imp fun σ H Q ⟨m, ρ, S, rs, re, p⟩ => by
  refine ⟨m, ρ, S, rs, re, p.bind anE fun d S1 m1 H1 v x1 rs1 rv1 p1 => ?_⟩
  cases q : truD S1 d with
  | none => rw [q] at p1; exact p1.elim
  | some k =>
    rw [q] at p1
    refine ⟨k, truD_ok hK rs1 rv1 q, ?_⟩
    cases k with
    | false => exact ⟨m1, ρ, S1, rs1, re.mono rs x1, p1⟩
    | true => exact p1.now rs1 rv1
abbrev SW (A : Ad) (W : WX) (X : Cx) (e : Expr) (f : Env → Sto → R Bool) : Prop := PW X e (tR A rB W f)
theorem _root_.L2.PW.imp {t t' : TT} (h : PW X e t) (i : ∀ σ H Q, t' σ H Q → t σ H Q) : PW X e t' := ⟨fun wh pins s σ H Q I q => h.run wh pins s σ H Q I (i σ H Q q)⟩
theorem tru_bop2 (k : Bool) (ρ : Env) (S : Sto) : tru (bop2 k fa fb) ρ S = (tru fa ρ S).bind fun b S1 => if b = k then tru fb ρ S1 else .ok b S1 := by
  simp only [tru, bop2, R.bind_assoc]
  cases fa ρ S with
  | ok x S1 =>
    simp only [R.bind_ok]
    cases q : truD S1 x with
    | none => rfl
    | some b =>
      simp only [ofOpt_some, R.bind_ok]
      split
      · rfl
      · simp only [R.bind_ok, q, ofOpt_some]
  | stuck => rfl
  | exc c fs S => rfl
theorem sw_and (ha : SB A W X a (tru fa)) (hb : SW A W X (.BoolOp .And (b :: rest) pos) (tru fb)) : SW A W X (.BoolOp .And (a :: b :: rest) pos) (tru (bop2 true fa fb)) := (pw_and ha hb).imp fun σ H Q ⟨m, ρ, S, rs, re, p⟩ => by
  rw [tru_bop2] at p
  refine ⟨m, ρ, S, rs, re, p.bind anB fun d S1 m1 H1 v x1 rs1 rv1 p1 => ?_⟩
  obtain rfl : v = d := rv1
  cases v with
  | true => exact ⟨m1, ρ, S1, rs1, re.mono rs x1, p1⟩
  | false => exact p1.now rs1 rfl
theorem sw_or (ha : SB A W X a (tru fa)) (hb : SW A W X (.BoolOp .Or (b :: rest) pos) (tru fb)) : SW A W X (.BoolOp .Or (a :: b :: rest) pos) (tru (bop2 false fa fb)) := (pw_or ha hb).imp fun σ H Q ⟨m, ρ, S, rs, re, p⟩ => by
  rw [tru_bop2] at p
  refine ⟨m, ρ, S, rs, re, p.bind anB fun d S1 m1 H1 v x1 rs1 rv1 p1 => ?_⟩
  obtain rfl : v = d := rv1
  cases v with
  | false => exact ⟨m1, ρ, S1, rs1, re.mono rs x1, p1⟩
  | true => exact p1.now rs1 rfl
theorem sw_and1 (ha : SB A W X a (tru fa)) : SW A W X (.BoolOp .And [a] pos) (tru fa) := pw_and1 ha
theorem sw_or1 (ha : SB A W X a (tru fa)) : SW A W X (.BoolOp .Or [a] pos) (tru fa) := pw_or1 ha
/-- a if c else b -/
abbrev ite2 (fc fa fb : Env → Sto → R D) : Env → Sto → R D := fun ρ S => (fc ρ S).bind fun x S1 => (ofOpt (truD S1 x) S1).bind fun k S1 => if k then fa ρ S1 else fb ρ S1
theorem se_ite (hc : SB A W X c (tru fc)) (ha : SE A W X a fa) (hb : SE A W X b fb) : SE A W X (.IfExp c a b pos) (ite2 fc fa fb) := (pe_ifExp hc ha hb).imp fun σ H Q ⟨m, ρ, S, rs, re, p⟩ => by
  have p : Post A (rE A) (fun c d H' => W c d σ H') m H ((tru fc ρ S).bind fun k S1 => if k then fa ρ S1 else fb ρ S1) Q := by
    simp only [tru, R.bind_assoc]
    exact p
  refine ⟨m, ρ, S, rs, re, p.bind anE fun d S1 m1 H1 v x1 rs1 rv1 p1 => ?_⟩
  obtain rfl : v = d := rv1
  cases v with
  | true => exact ⟨m1, ρ, S1, rs1, re.mono rs x1, p1⟩
  | false => exact ⟨m1, ρ, S1, rs1, re.mono rs x1, p1⟩
theorem sb_ite (hc : SB A W X c (tru fc)) (ha : SB A W X a (tru fa)) (hb : SB A W X b (tru fb)) : SB A W X (.IfExp c a b pos) (tru (ite2 fc fa fb)) := by
  refine ⟨fun pins s σ H Q I ⟨m, ρ, S, rs, re, p⟩ => ?_⟩
  have p : Post A rB (fun c d H' => W c d σ H') m H ((tru fc ρ S).bind fun k S1 => if k then tru fa ρ S1 else tru fb ρ S1) Q := by
    have e : tru (ite2 fc fa fb) ρ S = (tru fc ρ S).bind fun k S1 => if k then tru fa ρ S1 else tru fb ρ S1 := by
      simp only [tru, ite2, R.bind_assoc]
      cases fc ρ S with
      | ok x S1 =>
        simp only [R.bind_ok]
        cases q : truD S1 x with
        | none => rfl
        | some k => cases k <;> rfl
      | stuck => rfl
      | exc c fs S => rfl
    rw [e] at p
    exact p
  have e2 : ∀ whole, isTrue (.IfExp c a b pos) X.env whole = (do if ← isTrue c X.env (eval c X.env) then isTrue a X.env (eval a X.env) else isTrue b X.env (eval b X.env)) := fun whole => rfl
  rw [e2]
  refine wpAny_bind (thn (hc.run pins s σ H _ I ⟨m, ρ, S, rs, re, p.bind anB fun d S1 m1 H1 v x1 rs1 rv1 p1 => (show (fun v H1 => (v = true → tR A rB W (tru fa) σ H1 Q) ∧ (v = false → tR A rB W (tru fb) σ H1 Q)) v H1 from ?_)⟩) fun k s1 ⟨H1, I1, q1, q2⟩ => ?_)
  · obtain rfl : v = d := rv1
    refine ⟨fun e => ?_, fun e => ?_⟩
    · subst e; exact ⟨m1, ρ, S1, rs1, re.mono rs x1, p1⟩
    · subst e; exact ⟨m1, ρ, S1, rs1, re.mono rs x1, p1⟩
  · cases k with
    | true => exact ha.run pins s1 σ H1 Q I1 (q1 rfl)
    | false => exact hb.run pins s1 σ H1 Q I1 (q2 rfl)
end
end PL

set_option Elab.async false
set_option linter.all false
set_option maxRecDepth 100000
set_option maxHeartbeats 1000000
/-! PLd: dicts whose keys are nested tuples. -/
namespace PL
open PySem PySem.Spec PyProof.Rows L2
mutual
/-- a value is a nested key -/
def NV (K : PySem.W.Frag) (H : Hp) : NestedKey → V → Prop
  | .none, v => v = .non
  | .num i, v => v = .int i
  | .text x, v => v = .str x
  | .tup ks, v => ∃ a vs, v = .ref a ∧ SqT K H a vs ∧ NVs K H ks vs
def NVs (K : PySem.W.Frag) (H : Hp) : List NestedKey → List V → Prop
  | [], vs => vs = []
  | k :: ks, vs => ∃ u us, vs = u :: us ∧ NV K H k u ∧ NVs K H ks us
end
section
variable {A : Ad} {X : Cx} {pins : List (Addr × Obj)} {σ : L2.St} {H : Hp} {s : Shared} {m : List Addr}
mutual
theorem nv_is (I : Inv X pins σ H s) : ∀ {k : NestedKey} {v : V} {u : Value}, NV X.K H k v → RelV v u → NestedIs s.heap k u
  | .none, v, u, h, r => by
    obtain rfl : v = .non := h
    cases (show u = .none from r)
    exact .none
  | .num i, v, u, h, r => by
    obtain rfl : v = .int i := h
    obtain ⟨t, rfl⟩ : ∃ t, u = .int i t := r
    exact .int i t
  | .text x, v, u, h, r => by
    obtain rfl : v = .str x := h
    obtain ⟨t, rfl⟩ : ∃ t, u = .str x t := r
    exact .text x t
  | .tup ks, v, u, h, r => by
    obtain ⟨a, vs, rfl, hs, hn⟩ := h
    obtain rfl : u = .ref a := r
    obtain ⟨its, r2, ⟨o, ho, hc, n, hd⟩, _⟩ := I.tuple hs
    exact .tup ho hc hd (nvs_is I hn (by simpa using r2))
theorem nvs_is (I : Inv X pins σ H s) : ∀ {ks : List NestedKey} {vs : List V} {us : List Value}, NVs X.K H ks vs → Vals vs us → NestedAll s.heap ks us
  | [], vs, us, h, r => by
    obtain rfl : vs = [] := h
    cases r
    exact .nil
  | k :: ks, vs, us, h, r => by
    obtain ⟨v, vs', rfl, h1, h2⟩ := h
    cases r with
    | cons r1 r2 => exact .cons (nv_is I h1 r1) (nvs_is I h2 r2)
end
mutual
theorem RV.nv : ∀ {d : D} {k : NestedKey} {v : V}, RV A m H d v → nkOf d = some k → NV A.K H k v
  | .int i, k, v, h, e => by
    simp only [nkOf] at e
    cases e
    exact h
  | .str x, k, v, h, e => by
    simp only [nkOf] at e
    cases e
    exact h
  | .tup xs, k, v, h, e => by
    simp only [nkOf] at e
    obtain ⟨ks, e1, rfl⟩ := Option.map_eq_some_iff.mp e
    obtain ⟨a, vs, rfl, t, r⟩ := h
    exact ⟨a, vs, rfl, t.sqt, RVs.nvs r e1⟩
  | .non, k, v, h, e => by simp [nkOf] at e
  | .bl _, k, v, h, e => by simp [nkOf] at e
  | .scr _, k, v, h, e => by simp [nkOf] at e
  | .ob _, k, v, h, e => by simp [nkOf] at e
  | .fn _, k, v, h, e => by simp [nkOf] at e
theorem RVs.nvs : ∀ {ds : List D} {ks : List NestedKey} {vs : List V}, RVs A m H ds vs → nkOfs ds = some ks → NVs A.K H ks vs
  | [], ks, vs, h, e => by
    simp only [nkOfs] at e
    cases e
    exact h
  | d :: ds, ks, vs, h, e => by
    obtain ⟨u, us, rfl, h1, h2⟩ := h
    simp only [nkOfs] at e
    split at e
    · rename_i k ks' e1 e2
      cases e
      exact ⟨u, us, rfl, h1.nv e1, RVs.nvs h2 e2⟩
    · cases e
end
mutual
theorem nkOf_inj : ∀ {d e : D} {k : NestedKey}, nkOf d = some k → nkOf e = some k → d = e
  | .int i, e, k, h, h' => by
    simp only [nkOf] at h
    cases h
    cases e with
    | int j => simp only [nkOf] at h'; cases h'; rfl
    | str t => simp only [nkOf] at h'; cases h'
    | tup xs => simp only [nkOf] at h'; obtain ⟨_, _, h'⟩ := Option.map_eq_some_iff.mp h'; cases h'
    | _ => simp [nkOf] at h'
  | .str x, e, k, h, h' => by
    simp only [nkOf] at h
    cases h
    cases e with
    | int j => simp only [nkOf] at h'; cases h'
    | str t => simp only [nkOf] at h'; injection h' with h'; injection h' with h'; rw [S'_inj h']
    | tup xs => simp only [nkOf] at h'; obtain ⟨_, _, h'⟩ := Option.map_eq_some_iff.mp h'; cases h'
    | _ => simp [nkOf] at h'
  | .tup xs, e, k, h, h' => by
    simp only [nkOf] at h
    obtain ⟨ks, h1, rfl⟩ := Option.map_eq_some_iff.mp h
    cases e with
    | int j => simp only [nkOf] at h'; cases h'
    | str t => simp only [nkOf] at h'; cases h'
    | tup ys =>
      simp only [nkOf] at h'
      obtain ⟨ks', h2, e2⟩ := Option.map_eq_some_iff.mp h'
      cases e2
      rw [nkOfs_inj h1 h2]
    | _ => simp [nkOf] at h'
  | .non, _, _, h, _ => by simp [nkOf] at h
  | .bl _, _, _, h, _ => by simp [nkOf] at h
  | .scr _, _, _, h, _ => by simp [nkOf] at h
  | .ob _, _, _, h, _ => by simp [nkOf] at h
  | .fn _, _, _, h, _ => by simp [nkOf] at h
theorem nkOfs_inj : ∀ {d e : List D} {k : List NestedKey}, nkOfs d = some k → nkOfs e = some k → d = e
  | [], [], _, _, _ => rfl
  | [], x :: xs, k, h, h' => by
    simp only [nkOfs] at h
    cases h
    simp only [nkOfs] at h'
    split at h' <;> cases h'
  | x :: xs, [], k, h, h' => by
    simp only [nkOfs] at h'
    cases h'
    simp only [nkOfs] at h
    split at h <;> cases h
  | x :: xs, y :: ys, k, h, h' => by
    simp only [nkOfs] at h h'
    split at h
    · rename_i k1 ks1 e1 e2
      split at h'
      · rename_i k2 ks2 e3 e4
        cases h
        injection h' with h'
        injection h' with h1 h2
        subst h1 h2
        rw [nkOf_inj e1 e3, nkOfs_inj e2 e4]
      · cases h'
    · cases h
end
mutual
theorem keyN_nk : ∀ {d : D}, D.keyN d = true → ∃ k, nkOf d = some k ∧ k.depth = D.kdep d
  | .int i, _ => ⟨.num i, by simp only [nkOf], rfl⟩
  | .str x, _ => ⟨.text (S' x), by simp only [nkOf], rfl⟩
  | .tup xs, h => by
    obtain ⟨ks, e1, e2⟩ := keyNs_nk (show D.keyNs xs = true from h)
    exact ⟨.tup ks, by simp only [nkOf, e1, Option.map_some], by simp only [NestedKey.depth, D.kdep, e2]⟩
  | .non, h => by simp [D.keyN] at h
  | .bl _, h => by simp [D.keyN] at h
  | .scr _, h => by simp [D.keyN] at h
  | .ob _, h => by simp [D.keyN] at h
  | .fn _, h => by simp [D.keyN] at h
theorem keyNs_nk : ∀ {ds : List D}, D.keyNs ds = true → ∃ ks, nkOfs ds = some ks ∧ NestedKey.depthAll ks = D.kdeps ds
  | [], _ => ⟨[], by simp only [nkOfs], by simp only [NestedKey.depthAll, D.kdeps]⟩
  | d :: ds, h => by
    simp only [D.keyNs, Bool.and_eq_true] at h
    obtain ⟨k, e1, e2⟩ := keyN_nk h.1
    obtain ⟨ks, e3, e4⟩ := keyNs_nk h.2
    exact ⟨k :: ks, by simp only [nkOfs, e1, e3], by simp only [NestedKey.depthAll, D.kdeps, e2, e4]⟩
end
/-- the dict at a, its keys being keys -/
structure NDict (K : PySem.W.Frag) (P : Program) (w : World) (H : Hp) (a : Addr) (xs : List (NestedKey × Addr × Value)) : Prop where
  at_ : H a = some (.ext (DAt P w a xs))
  keys : ∀ x ∈ xs, NV K H x.1 (.ref x.2.1) ∧ x.1.depth ≤ 8
theorem NDict.of (I : Inv X pins σ H s) {a : Addr} {xs : List (NestedKey × Addr × Value)} (h : NDict X.K X.prog X.w H a xs) : s.heap.DictOfH (nestedKind X.prog X.w) a xs ∧ (a == sysModules) = false ∧ xs.length ≤ sizeLine := by
  have ok := I.hok a _ h.at_
  obtain ⟨⟨hl, hs, o, es, ep, h1, h2, h3, h4, h5⟩, _, _⟩ := ok
  exact ⟨⟨o, es, ep, h1, h2, h3, h4, fun x hx => ⟨nv_is I (h.keys x hx).1 rfl, (h.keys x hx).2⟩, h5⟩, hs, hl⟩
/-- what stands at a key -/
def NGet (K : PySem.W.Frag) (P : Program) (w : World) (H : Hp) (a : Addr) (y : V) (o : Option V) : Prop := ∃ xs k b, NDict K P w H a xs ∧ y = .ref b ∧ NV K H k (.ref b) ∧ k.depth ≤ 8 ∧ RelO o ((atKey xs k).map (·.2))
def DLook (X : Cx) (H : Hp) (a : Addr) (y : V) (o : Option V) : Prop := DGet H a y o ∨ NGet X.K X.prog X.w H a y o
variable {A' : Around} {E : Value → Shared → Prop} {a : Addr} {y : V} {o : Option V} {u : Value}
theorem nest_room {A' : Around} (hu : A'.units + 16 < cLine) : (nestedKind X.prog X.w).room A'.in1 := by
  show A'.in1.units + 8 < cLine
  have : A'.in1.units = A'.units + 1 := rfl
  omega
theorem DLook.type (I : Inv X pins σ H s) (g : DLook X H a y o) : s.TypeIs (.ref a) "dict" := by
  rcases g with g | ⟨xs, k, b, hd, _⟩
  · exact dict_typeIs I g
  · exact (hd.of I).1.typeIs
theorem look_get {v : V} {Q : Value → Shared → Prop} (hu : A'.units + 16 < cLine) (I : Inv X pins σ H s) (g : DLook X H a y (some v)) (ry : RelV y u) (h : ∀ w' s', Inv X pins σ H s' → RelV v w' → Q w' s') :
    wpAny (model X.prog X.w) A' (getItem (.ref a) u) Q E s := by
  rcases g with g | ⟨xs, k, b, hd, rfl, nk, dk, r⟩
  · exact d_getItem (by omega) I g ry h
  · obtain rfl : u = .ref b := ry
    obtain ⟨w', hw, rw'⟩ := RelO.some_of (v := v) r
    obtain ⟨p, hp, hp2⟩ := Option.map_eq_some_iff.mp hw
    refine wpAny_getItem_heap (nest_room hu) ⟨nv_is I nk rfl, dk⟩ (hd.of I).1 hp ?_
    rw [hp2]
    exact h w' _ (I.tok _) rw'
theorem look_in {Q : Value → Shared → Prop} (hu : A'.units + 16 < cLine) (I : Inv X pins σ H s) (g : DLook X H a y o) (ry : RelV y u) (h : ∀ s', Inv X pins σ H s' → Q (.bool o.isSome) s') :
    wpAny (model X.prog X.w) A' (compareOp .In u (.ref a)) Q E s := by
  rcases g with g | ⟨xs, k, b, hd, rfl, nk, dk, r⟩
  · exact d_in (by omega) I g ry h
  · obtain rfl : u = .ref b := ry
    obtain ⟨h1, h2, _⟩ := hd.of I
    refine wpAny_in_heap (nest_room hu) ⟨nv_is I nk rfl, dk⟩ h2 h1 ?_
    have q := r.isSome_eq
    rw [Option.isSome_map] at q
    rw [← q]
    exact h _ (I.tok _)
theorem look_notIn {Q : Value → Shared → Prop} (hu : A'.units + 16 < cLine) (I : Inv X pins σ H s) (g : DLook X H a y o) (ry : RelV y u) (h : ∀ s', Inv X pins σ H s' → Q (.bool (!o.isSome)) s') :
    wpAny (model X.prog X.w) A' (compareOp .NotIn u (.ref a)) Q E s := by
  rcases g with g | ⟨xs, k, b, hd, rfl, nk, dk, r⟩
  · exact d_notIn (by omega) I g ry h
  · obtain rfl : u = .ref b := ry
    obtain ⟨h1, h2, _⟩ := hd.of I
    refine notIn_keyed (nest_room hu) ⟨nv_is I nk rfl, dk⟩ h2 ⟨xs, h1, rfl⟩ ?_
    rw [valueAt_pairsH, ← r.isSome_eq]
    exact h _ (I.tok _)
theorem look_get2 {d : V} {z : Value} {Q : Value → Shared → Prop} (hu : A'.units + 16 < cLine) (I : Inv X pins σ H s) (g : DLook X H a y o) (ry : RelV y u) (rd : RelV d z) (h : ∀ w' s', Inv X pins σ H s' → RelV (o.getD d) w' → Q w' s') :
    wpAny (model X.prog X.w) A' (call (.builtin "dict.get") [.ref a, u, z]) Q E s := by
  rcases g with g | ⟨xs, k, b, hd, rfl, nk, dk, r⟩
  · exact d_get2 (by omega) I g ry rd h
  · obtain rfl : u = .ref b := ry
    obtain ⟨h1, h2, _⟩ := hd.of I
    refine getOr_keyed (nest_room hu) ⟨nv_is I nk rfl, dk⟩ h2 ⟨xs, h1, rfl⟩ ?_
    rw [valueAt_pairsH]
    exact h _ _ (I.tok _) (r.getD rd)
/-- a pair is put in -/
theorem n_write {xs ys : List (NestedKey × Addr × Value)} {h' : Heap} {t' : Nat} (I : Inv X pins σ H s) (hd : NDict X.K X.prog X.w H a xs) (hl : ys.length ≤ sizeLine) (hm : h'.DictOfH (nestedKind X.prog X.w) a ys) (hs : Heap.SameBut a s.heap h') :
    Inv X pins σ (upd H a (.ext (DAt X.prog X.w a ys))) { s with heap := h', toks := t' } := by
  obtain ⟨_, h2, _⟩ := hd.of I
  obtain ⟨o, es, ep, g1, g2, g3, g4, _, g6⟩ := hm
  refine d_write I (by rw [hd.at_]; exact True.intro) hs ⟨o, g1⟩ ⟨⟨hl, h2, o, es, ep, g1, g2, g3, g4, g6⟩, ⟨o, g1⟩, fun h1 h2 hp k => ?_⟩
  obtain ⟨p1, p2, o, es, ep, q1, q2⟩ := hp
  exact ⟨p1, p2, o, es, ep, k _ q1, q2⟩
theorem n_set {xs : List (NestedKey × Addr × Value)} {k : NestedKey} {b : Addr} {v : V} {z : Value} {Q : Unit → Shared → Prop} (hu : A'.units + 16 < cLine) (I : Inv X pins σ H s) (hd : NDict X.K X.prog X.w H a xs) (nk : NV X.K H k (.ref b)) (dk : k.depth ≤ 8) (hl : xs.length < sizeLine)
    (h : ∀ s', Inv X pins σ (upd H a (.ext (DAt X.prog X.w a (storedH xs k b z)))) s' → Q () s') : wpAny (model X.prog X.w) A' (setItem (.ref a) (.ref b) z) Q E s := by
  obtain ⟨h1, h2, h3⟩ := hd.of I
  refine wpAny_setItem_heap (hsz := h3) (nest_room hu) ⟨nv_is I nk rfl, dk⟩ h1 fun h' hm hs => h _ (n_write I hd ?_ hm hs)
  unfold storedH
  split
  · rw [List.length_map]; exact h3
  · rw [List.length_append, List.length_singleton]; omega
theorem n_setdefault {xs : List (NestedKey × Addr × Value)} {k : NestedKey} {b : Addr} {z : Value} {Q : Value → Shared → Prop} (hu : A'.units + 16 < cLine) (I : Inv X pins σ H s) (hd : NDict X.K X.prog X.w H a xs) (nk : NV X.K H k (.ref b)) (dk : k.depth ≤ 8) (hl : xs.length < sizeLine)
    (hv : ∀ p, atKey xs k = some p → ∀ s', Inv X pins σ H s' → Q p.2 s') (h : atKey xs k = none → ∀ s', Inv X pins σ (upd H a (.ext (DAt X.prog X.w a (storedH xs k b z)))) s' → Q z s') :
    wpAny (model X.prog X.w) A' (call (.builtin "dict.setdefault") [.ref a, .ref b, z]) Q E s := by
  obtain ⟨h1, h2, h3⟩ := hd.of I
  refine call_setdefault_heap (hsz := h3) (nest_room hu) ⟨nv_is I nk rfl, dk⟩ h2 h1 (fun p hp => hv p hp _ (I.tok _)) fun hn h' hm hs => h hn _ (n_write I hd ?_ hm hs)
  unfold storedH
  split
  · rw [List.length_map]; exact h3
  · rw [List.length_append, List.length_singleton]; omega
end
end PL

set_option Elab.async false
set_option linter.all false
set_option maxRecDepth 100000
set_option maxHeartbeats 1000000
/-! PL4: subscripts, calls, built-ins. -/
namespace PL
open PySem PySem.Spec PyProof.Rows L2
section
variable {A : Ad} {W : WX} {X : Cx} {e a b c o : Expr} {es : List Expr} {pos p apos : Pos} {fe fa fb fc fo : Env → Sto → R D} {fes : Env → Sto → R (List D)}
/-! ### subscripts -/
def rIxD (X : Cx) : R2 := fun x y H Q => ∃ a v, x = .ref a ∧ DLook X H a y (some v) ∧ Q v H
theorem ix_dict (hu : X.A.units + 16 < cLine) : IxR X (rIxD X) := by
  intro value slice pins s σ H x y v u Q I rx ry h hs
  obtain ⟨a, w, rfl, g, q⟩ := h
  cases rx
  have hT := g.type I
  have h2 : wpAny (model X.prog X.w) X.A (getItem (.ref a) u) (EP X pins σ Q) X.xe s := look_get hu I g ry fun w' s3 I3 rw' => ⟨w, H, I3, rw', q⟩
  unfold subscriptTail
  refine wpAny_bind ?_
  rw [getitemInPython_of_ne hT.not_modules]
  refine wpAny_bind (wpAny_specialOf hT PySem.F.slot_dict_getitem.lookup ?_)
  have fin : wpAny (model X.prog X.w) X.A (subscripted slice false (.ref a) u) (fun r s₃ => wpAny (model X.prog X.w) X.A (letTemporaryGo value (.ref a) r >>= fun _ => pure r) (EP X pins σ Q) X.xe s₃) X.xe s := by
    rw [hs]
    exact wpAny_operating (wpAny_mono h2 (fun r s₃ h₃ => wpAny_bind (wpAny_letTemporaryGo (wpAny_pure h₃))) fun _ _ x => x)
  first
    | exact wpAny_pure (wpAny_bind fin)
    | exact wpAny_bind (wpAny_pure (wpAny_bind fin))
    | exact wpAny_bind fin
theorem keyK_kOf {d : D} {m : List Addr} {H : Hp} {v : V} (rv : RV A m H d v) (h : (keyK d).isSome = true) : ∃ k, kOf d = some k ∧ v = kV k := by
  cases d with
  | int i => exact ⟨_, rfl, rv⟩
  | str x => exact ⟨_, rfl, rv⟩
  | _ => cases h
def dOf : Key → D
  | .inl i => .int i
  | .inr x => .str x.cps.toList
theorem dOf_kOf {d : D} {k : Key} (h : kOf d = some k) : d = dOf k := by
  cases d <;> first | (cases h; rfl) | cases h
theorem kOf_inj {d e : D} {k : Key} (h : kOf d = some k) (h' : kOf e = some k) : d = e := (dOf_kOf h).trans (dOf_kOf h').symm
/-- what stands at a key -/
theorem rks_look {m : List Addr} {H : Hp} : ∀ {kvs : List (D × D)} {vs : List (Key × V)} {d : D} {k : Key}, RKs A m H kvs vs → kOf d = some k →
    (dlook kvs d = none ∧ valV vs k = none) ∨ ∃ e v, dlook kvs d = some e ∧ valV vs k = some v ∧ RV A m H e v
  | [], _, d, k, h, _ => by
    rw [show _ = [] from h]
    exact .inl ⟨rfl, rfl⟩
  | (d1, e1) :: r, _, d, k, h, hk => by
    obtain ⟨k', v, us, rfl, h1, h2, h3⟩ := h
    by_cases e : d1 = d
    · subst e
      have : k' = k := by rw [hk] at h1; exact (Option.some.inj h1).symm
      subst this
      refine .inr ⟨e1, v, by simp [dlook], valV_pos rfl, h2⟩
    · have ne : ¬ k' = k := fun z => e (kOf_inj h1 (z ▸ hk))
      have q := rks_look h3 hk
      have e2 : dlook ((d1, e1) :: r) d = dlook r d := by simp [dlook, e]
      rw [e2, valV_neg ne]
      exact q
theorem rts_look {m : List Addr} {H : Hp} : ∀ {kvs : List (D × D)} {xs : List (NestedKey × Addr × Value)} {d : D} {k : NestedKey}, RTs A m H kvs xs → nkOf d = some k →
    (dlook kvs d = none ∧ atKey xs k = none) ∨ ∃ e p v, dlook kvs d = some e ∧ atKey xs k = some p ∧ RelV v p.2 ∧ RV A m H e v
  | [], _, d, k, h, _ => by
    rw [show _ = [] from h]
    exact .inl ⟨rfl, rfl⟩
  | (d1, e1) :: r, _, d, k, h, hk => by
    obtain ⟨k', b, u, v, us, rfl, h1, h2, h3, h4, h5, h6⟩ := h
    by_cases e : d1 = d
    · subst e
      have : k' = k := by rw [hk] at h1; exact (Option.some.inj h1).symm
      subst this
      exact .inr ⟨e1, (b, u), v, by simp [dlook], by simp [atKey], h4, h5⟩
    · have ne : ¬ k' = k := fun z => e (nkOf_inj h1 (z ▸ hk))
      have q := rts_look h6 hk
      have e2 : dlook ((d1, e1) :: r) d = dlook r d := by simp [dlook, e]
      have e3 : atKey ((k', b, u) :: us) k = atKey us k := by simp [atKey, ne]
      rw [e2, e3]
      exact q
theorem rts_keys {m : List Addr} {H : Hp} : ∀ {kvs : List (D × D)} {xs : List (NestedKey × Addr × Value)}, RTs A m H kvs xs → ∀ x ∈ xs, NV A.K H x.1 (.ref x.2.1) ∧ x.1.depth ≤ 8
  | [], _, h, x, hx => by
    rw [show _ = [] from h] at hx
    simp at hx
  | (d1, e1) :: r, _, h, x, hx => by
    obtain ⟨k', b, u, v, us, rfl, h1, h2, h3, h4, h5, h6⟩ := h
    rcases List.mem_cons.mp hx with rfl | hx
    · exact ⟨h3.nv h1, h2⟩
    · exact rts_keys h6 x hx
theorem okKey_t {d : D} (h : okKey true d = true) : ∃ ds k, d = .tup ds ∧ nkOf d = some k ∧ k.depth ≤ 8 := by
  cases d with
  | tup ds =>
    have h : (D.keyNs ds && decide (D.kdeps ds < 8)) = true := h
    rw [Bool.and_eq_true, decide_eq_true_eq] at h
    obtain ⟨k, e1, e2⟩ := keyN_nk (d := .tup ds) h.1
    have e3 : D.kdep (.tup ds) = D.kdeps ds + 1 := rfl
    exact ⟨ds, k, rfl, e1, by omega⟩
  | _ => cases h
/-- the dict at a number, asked for a key -/
theorem dget_ok {X : Cx} (hK : A.K = X.K) (hP : A.pr = X.prog) (hw : A.w = X.w) {m : List Addr} {S : Sto} {H : Hp} (rs : RS A m S H) {i : Nat} {a : Addr} {b : Bool} {kvs : List (D × D)} {d : D} {y : V} (hi : m[i]? = some a) (e : dctAt S i = some (b, kvs)) (rv : RV A m H d y) (ok : okKey b d = true) :
    (dlook kvs d = none ∧ DLook X H a y none) ∨ ∃ z v, dlook kvs d = some z ∧ DLook X H a y (some v) ∧ RV A m H z v := by
  simp only [dctAt] at e
  split at e
  · rename_i kvs' e'
    cases e
    obtain ⟨vs, h1, h2⟩ := rs.obj i _ a e' hi
    obtain ⟨k, hk, rfl⟩ := keyK_kOf rv ok
    have g := DGet.k (k := k) h1
    rcases rks_look h2 hk with ⟨q1, q2⟩ | ⟨z, v, q1, q2, q3⟩
    · rw [q2] at g; exact .inl ⟨q1, .inl g⟩
    · rw [q2] at g; exact .inr ⟨z, v, q1, .inl g, q3⟩
  · rename_i kvs' e'
    cases e
    obtain ⟨xs, h1, h2⟩ := rs.obj i _ a e' hi
    obtain ⟨ds, k, rfl, hk, hd⟩ := okKey_t ok
    have hn := rv.nv hk
    obtain ⟨c, us, rfl, t, r⟩ := rv
    rw [hP, hw] at h1
    have nd : NDict X.K X.prog X.w H a xs := ⟨h1, by rw [← hK]; exact rts_keys h2⟩
    rw [hK] at hn
    rcases rts_look h2 hk with ⟨q1, q2⟩ | ⟨z, p, v, q1, q2, q3, q4⟩
    · exact .inl ⟨q1, .inr ⟨xs, k, c, nd, rfl, hn, hd, by rw [q2]; trivial⟩⟩
    · exact .inr ⟨z, v, q1, .inr ⟨xs, k, c, nd, rfl, hn, hd, by rw [q2]; exact q3⟩, q4⟩
  · cases e
theorem atI_ok {m : List Addr} {H : Hp} {ds : List D} {vs : List V} {i : Int} {d : D} (r : RVs A m H ds vs) (h : atI ds i = some d) : ∃ v, L2.atI vs i = some v ∧ RV A m H d v := by
  unfold atI L2.atI at h
  obtain ⟨j, e1, e2⟩ := Option.bind_eq_some_iff.mp h
  obtain ⟨v, e3, e4⟩ := r.get e2
  refine ⟨v, ?_, e4⟩
  unfold L2.atI
  rw [r.length, e1]
  exact e3

theorem cut_ok {m : List Addr} {H : Hp} {ds : List D} {vs : List V} (r : RVs A m H ds vs) (lo hi : Option Int) : RVs A m H (cut ds lo hi) (cutV vs lo hi) := by
  unfold cut cutV
  rw [r.length]
  exact (r.drop _).take _
/-- a subscript's end -/
theorem idx_ok (hK : A.K = X.K) (hP : A.pr = X.prog) (hw : A.w = X.w) (hu : X.A.units + 16 < cLine) : ∃ r : R2, IxR X r ∧ ∀ m S H d e x y z (Q : VK), RS A m S H → RV A m H d x → RV A m H e y → idxD S d e = some z → (∀ v, RV A m H z v → Q v H) → r x y H Q := by
  refine ⟨_, ((ix_list.or ix_tup).or ix_str).or (ix_dict hu), ?_⟩
  intro m S H d e x y z Q rs rd re h k
  cases d with
  | str t =>
    cases e with
    | int i =>
      simp only [idxD] at h
      split at h
      · rename_i hl
        cases q : atI t i with
        | none => rw [q] at h; cases h
        | some c =>
          rw [q] at h
          cases h
          refine .inl (.inr ⟨S' t, i, c, rd, re, by rw [S'_len]; exact hl, q, k _ rfl⟩)
      · cases h
    | _ => cases h
  | tup xs =>
    cases e with
    | int i =>
      obtain ⟨a, vs, rfl, t, r⟩ := rd
      obtain ⟨v, e1, e2⟩ := atI_ok r h
      exact .inl (.inl (.inr ⟨a, vs, i, v, rfl, re, hK ▸ t.sqt, e1, k _ e2⟩))
    | _ => cases h
  | scr ns =>
    cases e with
    | int i =>
      obtain ⟨a, rfl, t⟩ := rd
      simp only [idxD] at h
      cases q : atI ns i with
      | none => rw [q] at h; cases h
      | some n =>
        rw [q] at h
        cases h
        have q2 : atI (ns.map D.int) i = some (.int n) := by
          unfold atI L2.atI at q ⊢
          obtain ⟨j, e1, e2⟩ := Option.bind_eq_some_iff.mp q
          rw [List.length_map, e1]
          simp [e2]
        obtain ⟨v, e1, e2⟩ := atI_ok (RVs.ints (A := A) (m := m) (H := H) ns) q2
        exact .inl (.inl (.inl ⟨a, _, i, v, rfl, re, hK ▸ t.sql, e1, k _ e2⟩))
    | _ => cases h
  | ob j =>
    have h0 := h
    simp only [idxD] at h
    obtain ⟨a, hi, rfl⟩ := id rd
    split at h
    · rename_i b kvs ed
      split at h
      · rename_i ok
        rcases dget_ok hK hP hw rs hi ed re ok with ⟨q1, _⟩ | ⟨z', v, q1, q2, q3⟩
        · rw [q1] at h; cases h
        · rw [q1] at h
          cases h
          exact .inr ⟨a, v, rfl, q2, k _ q3⟩
      · cases h
    · split at h
      · rename_i xs i el
        obtain ⟨vs, h1, h2⟩ := lstAt_ok rs hi el
        obtain ⟨v, e1, e2⟩ := atI_ok h2 h
        exact .inl (.inl (.inl ⟨a, vs, i, v, rfl, re, .of h1, e1, k _ e2⟩))
      · cases h
  | non => cases h
  | bl _ => cases h
  | int _ => cases h
  | fn _ => cases h
theorem se_idx (hK : A.K = X.K) (hP : A.pr = X.prog) (hw : A.w = X.w) (hu : X.A.units + 16 < cLine) (hs : PlainIx b) (ha : SE A W X a fa) (hb : SE A W X b fb) : SE A W X (.Subscript a b pos) (fun ρ S => (fa ρ S).bind fun x S1 => (fb ρ S1).bind fun y S2 => ofOpt (idxD S2 x y) S2) := by
  obtain ⟨r, hr, h⟩ := idx_ok (A := A) hK hP hw hu
  refine (pe_ix hr ha hb hs).imp fun σ H Q ⟨m, ρ, S, rs, re, p⟩ => ?_
  refine ⟨m, ρ, S, rs, re, p.bind anE fun d S1 m1 H1 v x1 rs1 rv1 p1 => ?_⟩
  refine ⟨m1, ρ, S1, rs1, re.mono rs x1, p1.bind anE fun e S2 m2 H2 u x2 rs2 rv2 p2 => ?_⟩
  cases q : idxD S2 d e with
  | none => rw [q] at p2; exact p2.elim
  | some z => rw [q] at p2; exact h m2 S2 H2 d e v u z Q rs2 (RV.mono rs1 x2 rv1) rv2 q fun w rw_ => p2.now rs2 rw_
/-- a bound of a slice -/
abbrev SPt (A : Ad) (W : WX) (X : Cx) (e : Option Expr) (f : Env → Sto → R (Option Int)) : Prop := PO X e (tR A rO W f)
theorem _root_.L2.PO.imp {e : Option Expr} {t t' : TO} (h : PO X e t) (i : ∀ σ H Q, t' σ H Q → t σ H Q) : PO X e t' := ⟨fun pins s σ H Q I q => h.run pins s σ H Q I (i σ H Q q)⟩
theorem sp_none : SPt A W X none (fun _ S => .ok none S) := po_none.imp fun σ H Q ⟨m, ρ, S, rs, re, p⟩ => p.now rs rfl
theorem sp_some (h : SE A W X e fe) : SPt A W X (some e) (fun ρ S => (fe ρ S).bind partR) := (po_some h).imp fun σ H Q ⟨m, ρ, S, rs, re, p⟩ => by
  refine ⟨m, ρ, S, rs, re, p.bind anO fun d S1 m1 H1 v x1 rs1 rv1 p1 => ?_⟩
  cases d with
  | int i => exact ⟨i, rv1, p1.now rs1 rfl⟩
  | _ => exact p1.elim
variable {lo hi : Option Expr} {fl fh : Env → Sto → R (Option Int)} {p2 : Pos}
theorem se_slc (hK : A.K = X.K) (ha : SE A W X a fa) (hl : SPt A W X lo fl) (hh : SPt A W X hi fh) : SE A W X (.Subscript a (.Slice lo hi none p2) pos)
    (fun ρ S => (fa ρ S).bind fun x S1 => (fl ρ S1).bind fun l S2 => (fh ρ S2).bind fun h S3 => match x with
      | .str t => if t.length ≤ sizeLine then .ok (.str (cut t l h)) S3 else .stuck
      | .tup xs => .ok (.tup (cut xs l h)) S3
      | _ => .stuck) := (pe_slice (sl_tupA.or sl_str) ha hl hh).imp fun σ H Q ⟨m, ρ, S, rs, re, p⟩ => by
  refine ⟨m, ρ, S, rs, re, p.bind anE fun d S1 m1 H1 v x1 rs1 rv1 p1 => ?_⟩
  refine ⟨m1, ρ, S1, rs1, re.mono rs x1, p1.bind anE fun l S2 m2 H2 l' x2 rs2 rv2 p2 => ?_⟩
  refine ⟨m2, ρ, S2, rs2, (re.mono rs x1).mono rs1 x2, p2.bind anE fun h S3 m3 H3 h' x3 rs3 rv3 p3 => ?_⟩
  obtain rfl : l' = l := rv2
  obtain rfl : h' = h := rv3
  have rv := RV.mono rs2 x3 (RV.mono rs1 x2 rv1)
  cases d with
  | str t =>
    dsimp only at p3
    split at p3
    · rename_i hl
      refine .inr ⟨S' t, rv, by rw [S'_len]; exact hl, p3.now rs3 ?_⟩
      show V.str (cutS (S' t) l' h') = V.str (S' (cut t l' h'))
      congr 1
    · exact p3.elim
  | tup xs =>
    obtain ⟨a, vs, rfl, t, r⟩ := rv
    refine .inl ⟨a, vs, rfl, hK ▸ t.sqt, fun hw => ?_, fun hw q hq => ?_⟩
    · refine p3.now rs3 ⟨a, vs, rfl, t, ?_⟩
      rw [r.length] at hw
      have e : cut xs l' h' = xs := by
        unfold cut
        rw [hw.1, hw.2]
        simp
      rw [e]
      exact r
    · obtain ⟨x4, rs4⟩ := rs3.lay (.tup (cutV vs l' h')) hq
      exact p3 m3 _ _ x4 rs4 ⟨q, _, rfl, .inl upd_same, (cut_ok r l' h').mono rs3 x4⟩
  | _ => exact p3.elim
theorem sl_slc (hK : A.K = X.K) (ha : SE A W X a fa) (hl : SPt A W X lo fl) (hh : SPt A W X hi fh) : SL A W X (.Subscript a (.Slice lo hi none p2) pos)
    (fun ρ S => (fa ρ S).bind fun x S1 => (fl ρ S1).bind fun l S2 => (fh ρ S2).bind fun h S3 => match x with
      | .ob i => match lstAt S3 i with
        | some xs => .ok (cut xs l h) S3
        | none => .stuck
      | _ => .stuck) := (pe_slice sl_list ha hl hh).imp fun σ H Q ⟨m, ρ, S, rs, re, p⟩ => by
  refine ⟨m, ρ, S, rs, re, p.bind anL fun d S1 m1 H1 v x1 rs1 rv1 p1 => ?_⟩
  refine ⟨m1, ρ, S1, rs1, re.mono rs x1, p1.bind anL fun l S2 m2 H2 l' x2 rs2 rv2 p2 => ?_⟩
  refine ⟨m2, ρ, S2, rs2, (re.mono rs x1).mono rs1 x2, p2.bind anL fun h S3 m3 H3 h' x3 rs3 rv3 p3 => ?_⟩
  obtain rfl : l' = l := rv2
  obtain rfl : h' = h := rv3
  have rv := RV.mono rs2 x3 (RV.mono rs1 x2 rv1)
  cases d with
  | ob i =>
    dsimp only at p3
    obtain ⟨a, hi, rfl⟩ := rv
    split at p3
    · rename_i xs el
      obtain ⟨vs, h1, h2⟩ := lstAt_ok rs3 hi el
      refine ⟨a, vs, rfl, .of h1, fun q hq => ?_⟩
      obtain ⟨x4, rs4⟩ := rs3.lay (.lst (cutV vs l' h')) hq
      exact p3 m3 _ _ x4 rs4 ⟨q, _, rfl, upd_same, hq, fun z => rs3.there q z hq, (cut_ok h2 l' h').mono rs3 x4⟩
    · exact p3.elim
  | _ => exact p3.elim
/-! ### calls -/
/-- what a def promises by the own language -/
def spF (A : Ad) (np : Nat) (g : List D → Sto → R D) : Sp := fun vs H Q E => vs.length = np ∧ ∃ m ds S, RS A m S H ∧ RVs A m H ds vs ∧ Post A (rE A) E m H (g ds S) Q
theorem se_call {x : Str} {f : Addr} {fd : FuncData} {ps : List Str} {k : Nat} {g : List D → Sto → R D} (F : FnOk X.prog X.w X.K X.mg X.base (L2.CX X.prog X.w) k f fd ps (spF A ps.length g)) (hlen : ∀ ds S, g ds S ≠ .stuck → ds.length = ps.length)
    (hr : Room k X.A) (hg : Gl X x) (hm : X.mg x = some (.ref f)) (hk : PySem.W.keepIn X.K (.ref f) = true) (hb : Binds X.K fd ps []) (tk : Takes X W) (ha : SA A W X (e :: es) fes) (hdb : (x == ("__debug__" : Str)) = false)
    (he : starEach (e :: es) X.env = (false, eval e X.env) :: starEach es X.env) (hpl : (backTo pos (starEach es X.env)).any (·.1) = false) :
    SE A W X (.Call (.Name x p) (e :: es) [] pos) (fun ρ S => (fes ρ S).bind fun ds S1 => g ds S1) := (pe_callS (E := WE W) F hr hg hm hk hb (fun σ => passAt tk σ) ha hdb he hpl).imp fun σ H Q ⟨m, ρ, S, rs, re, p⟩ => by
  refine ⟨m, ρ, S, rs, re, p.bind anE fun ds S1 m1 H1 vs x1 rs1 rv1 p1 => ⟨?_, m1, ds, S1, rs1, rv1, p1⟩⟩
  rw [rv1.length]
  refine hlen ds S1 fun z => ?_
  rw [z] at p1
  exact p1
/-- a call of a built-in function, answered: the heap as it was, or a new tuple -/
def CaS (A : Ad) (r : List V → Hp → VK → Prop) (g : List D → Sto → Option D) : Prop := ∀ m S H ds xs z (Q : VK), RS A m S H → RVs A m H ds xs → g ds S = some z → (∀ m' H' v, Ext m H m' H' → RS A m' S H' → RV A m' H' z v → Q v H') → r xs H Q
theorem se_callB {x : Str} {id : String} {r : List V → Hp → VK → Prop} {g : List D → Sto → Option D} (hc : CallR X (.builtin id) r) (hr : CaS A r g) (hg : Gl X x) (hm : X.mg x = none) (hv : bootBuiltins x = some (.builtin id)) (ha : SA A W X (e :: es) fes) (hn : x ≠ "__name__") (hdb : (x == ("__debug__" : Str)) = false)
    (he : starEach (e :: es) X.env = (false, eval e X.env) :: starEach es X.env) (hpl : (backTo pos (starEach es X.env)).any (·.1) = false) :
    SE A W X (.Call (.Name x p) (e :: es) [] pos) (fun ρ S => (fes ρ S).bind fun ds S1 => ofOpt (g ds S1) S1) := (pe_callB hc hg hm hv ha hn hdb he hpl).imp fun σ H Q ⟨m, ρ, S, rs, re, p⟩ => by
  refine ⟨m, ρ, S, rs, re, p.bind anE fun ds S1 m1 H1 vs x1 rs1 rv1 p1 => ?_⟩
  cases q : g ds S1 with
  | none => rw [q] at p1; exact p1.elim
  | some z => rw [q] at p1; exact hr m1 S1 H1 ds vs z Q rs1 rv1 q p1
theorem se_callTy {x : Str} {T : String} {r : List V → Hp → VK → Prop} {g : List D → Sto → Option D} (hc : CallR X (.type T) r) (hr : CaS A r g) (hg : Gl X x) (hm : X.mg x = none) (hv : bootBuiltins x = some (.type T)) (ha : SA A W X (e :: es) fes) (hn : x ≠ "__name__") (hdb : (x == ("__debug__" : Str)) = false)
    (he : starEach (e :: es) X.env = (false, eval e X.env) :: starEach es X.env) (hpl : (backTo pos (starEach es X.env)).any (·.1) = false) :
    SE A W X (.Call (.Name x p) (e :: es) [] pos) (fun ρ S => (fes ρ S).bind fun ds S1 => ofOpt (g ds S1) S1) := (pe_callTy hc hg hm hv ha hn hdb he hpl).imp fun σ H Q ⟨m, ρ, S, rs, re, p⟩ => by
  refine ⟨m, ρ, S, rs, re, p.bind anE fun ds S1 m1 H1 vs x1 rs1 rv1 p1 => ?_⟩
  cases q : g ds S1 with
  | none => rw [q] at p1; exact p1.elim
  | some z => rw [q] at p1; exact hr m1 S1 H1 ds vs z Q rs1 rv1 q p1

theorem LenV_seq {K : PySem.W.Frag} {H : Hp} {a : Addr} {vs : List V} {n : Nat} (h : SqL K H a vs ∨ SqT K H a vs) (e : vs.length = n) : LenV K (.ref a) H n := by
  rcases h with h | h
  · exact .inl ⟨vs, h, e.symm⟩
  · exact .inr ⟨vs, h, e.symm⟩
theorem len_ok (hK : A.K = X.K) : ∃ r, CallR X (.builtin "len") r ∧ CaS A r (biD .len) := by
  refine ⟨_, call_len.or call_lenD, ?_⟩
  intro m S H ds xs z Q rs rv h k
  match ds, rv with
  | [], _ => cases h
  | _ :: _ :: _, _ => simp only [biD, lenD] at h; cases h
  | [d], rv =>
    obtain ⟨u, us, rfl, h1, h2⟩ := rv
    obtain rfl : us = [] := h2
    have seq : ∀ {ys : List D}, seqOf S d = some ys → z = .int ys.length → (∃ x n, [u] = [x] ∧ LenV X.K x H n ∧ Q (.int n) H) := fun {ys} e ez => by
      obtain ⟨a, vs, rfl, q, r⟩ := seqOf_ok rs h1 e
      exact ⟨.ref a, ys.length, rfl, LenV_seq (hK ▸ q) r.length, k m H _ rs.ext rs (by rw [ez]; rfl)⟩
    cases d with
    | str t =>
      simp only [biD, lenD] at h
      split at h
      · rename_i hl
        cases h
        refine .inl ⟨_, t.length, rfl, ?_, k m H _ rs.ext rs rfl⟩
        rw [show u = V.str (S' t) from h1]
        exact ⟨by rw [S'_len]; exact hl, by rw [S'_len]⟩
      · cases h
    | tup ys => cases h; exact .inl (seq rfl rfl)
    | scr ns => cases h; exact .inl (seq rfl rfl)
    | ob i =>
      simp only [biD, lenD] at h
      split at h
      · rename_i kvs e
        cases h
        obtain ⟨a, hi, rfl⟩ := h1
        simp only [dctAt] at e
        split at e
        · rename_i kvs' e'
          cases e
          obtain ⟨vs, q1, q2⟩ := rs.obj i _ a e' hi
          have hl : ∀ {l : List (D × D)} {v : List (Key × V)}, RKs A m H l v → v.length = l.length := by
            intro l
            induction l with
            | nil => intro v hv; rw [show v = [] from hv]; rfl
            | cons p l ih =>
              intro v hv
              obtain ⟨_, _, us, rfl, _, _, hv⟩ := hv
              simp [ih hv]
          exact .inr ⟨a, vs, rfl, q1, k m H _ rs.ext rs (by rw [hl q2]; rfl)⟩
        · cases e
        · cases e
      · cases h
      · cases e : lstAt S i with
        | none => rw [e] at h; cases h
        | some ys =>
          rw [e] at h
          cases h
          exact .inl (seq e rfl)
    | non => cases h
    | bl _ => cases h
    | int _ => cases h
    | fn _ => cases h
end
end PL

set_option Elab.async false
set_option linter.all false
set_option maxRecDepth 100000
set_option maxHeartbeats 1000000
/-! PL5: built-in functions and methods, lists at once. -/
namespace PL
open PySem PySem.Spec PyProof.Rows L2
section
variable {A : Ad} {W : WX} {X : Cx} {e a b c o : Expr} {es : List Expr} {pos p apos : Pos} {fe fa fb fc fo : Env → Sto → R D} {fes : Env → Sto → R (List D)}
theorem RVs.two {m : List Addr} {H : Hp} {d e : D} {vs : List V} (h : RVs A m H [d, e] vs) : ∃ v u, vs = [v, u] ∧ RV A m H d v ∧ RV A m H e u := by
  obtain ⟨v, us, rfl, h1, u, us2, rfl, h2, h3⟩ := h
  obtain rfl : us2 = [] := h3
  exact ⟨v, u, rfl, h1, h2⟩
theorem RVs.sole {m : List Addr} {H : Hp} {d : D} {vs : List V} (h : RVs A m H [d] vs) : ∃ v, vs = [v] ∧ RV A m H d v := by
  obtain ⟨v, us, rfl, h1, h2⟩ := h
  obtain rfl : us = [] := h2
  exact ⟨v, rfl, h1⟩
theorem abs_ok : ∃ r, CallR X (.builtin "abs") r ∧ CaS A r (biD .abs) := by
  refine ⟨_, call_abs, ?_⟩
  intro m S H ds xs z Q rs rv h k
  simp only [biD] at h
  unfold absD at h
  split at h
  · cases h
    obtain ⟨v, rfl, h1⟩ := rv.sole
    exact ⟨_, by rw [show v = V.int _ from h1], k m H _ rs.ext rs rfl⟩
  · cases h
theorem int_ok : ∃ r, CallR X (.type "int") r ∧ CaS A r (biD .int) := by
  refine ⟨_, call_int1.or call_int_str, ?_⟩
  intro m S H ds xs z Q rs rv h k
  simp only [biD] at h
  unfold intD at h
  split at h
  · cases h
    obtain ⟨v, rfl, h1⟩ := rv.sole
    exact .inl (.inl ⟨_, by rw [show v = V.int _ from h1], k m H _ rs.ext rs rfl⟩)
  · cases h
    obtain ⟨v, rfl, h1⟩ := rv.sole
    exact .inl (.inr ⟨_, by rw [show v = V.bl _ from h1], k m H _ rs.ext rs rfl⟩)
  · rename_i t
    split at h
    · rename_i hl
      obtain ⟨v, rfl, h1⟩ := rv.sole
      cases q : PySem.intText? ⟨t.toArray⟩ with
      | none => rw [q] at h; cases h
      | some n =>
        rw [q] at h
        cases h
        exact .inr ⟨S' t, n, by rw [show v = V.str (S' t) from h1], q, by rw [S'_len]; exact hl, k m H _ rs.ext rs rfl⟩
    · cases h
  · cases h
theorem ord_ok : ∃ r, CallR X (.builtin "ord") r ∧ CaS A r (biD .ord) := by
  refine ⟨_, call_ord, ?_⟩
  intro m S H ds xs z Q rs rv h k
  simp only [biD] at h
  unfold ordD at h
  split at h
  · cases h
    obtain ⟨v, rfl, h1⟩ := rv.sole
    exact ⟨S' [_], by rw [show v = V.str _ from h1], rfl, k m H _ rs.ext rs rfl⟩
  · cases h
theorem str_ok : ∃ r, CallR X (.type "str") r ∧ CaS A r (biD .str) := by
  refine ⟨_, call_str_int, ?_⟩
  intro m S H ds xs z Q rs rv h k
  simp only [biD] at h
  unfold strD at h
  split at h
  · split at h
    · rename_i hl
      cases h
      obtain ⟨v, rfl, h1⟩ := rv.sole
      exact ⟨_, by rw [show v = V.int _ from h1], hl, k m H _ rs.ext rs (by show V.str _ = V.str (S' (decI _)); rw [decI, S'_tl])⟩
    · cases h
  · cases h
theorem divmod_ok : ∃ r, CallR X (.builtin "divmod") r ∧ CaS A r (biD .divmod) := by
  refine ⟨_, call_divmodW, ?_⟩
  intro m S H ds xs z Q rs rv h k
  simp only [biD] at h
  unfold divmodD at h
  split at h
  · split at h
    · rename_i hl
      cases h
      obtain ⟨v, u, rfl, h1, h2⟩ := rv.two
      refine ⟨_, _, by rw [show v = V.int _ from h1, show u = V.int _ from h2], ⟨hl.1, PyProof.noPylong_of_log2 hl.2⟩, fun q hq => ?_⟩
      obtain ⟨x1, rs1⟩ := rs.lay (.tup [.int (_ / _), .int (_ % _)]) hq
      exact k m _ _ x1 rs1 ⟨q, _, rfl, .inl upd_same, ⟨_, _, rfl, rfl, _, _, rfl, rfl, rfl⟩⟩
    · cases h
  · cases h
theorem tupOf_ok (hK : A.K = X.K) : ∃ r, CallR X (.type "tuple") r ∧ CaS A r (biD .tupOf) := by
  refine ⟨_, call_tuple_of, ?_⟩
  intro m S H ds xs z Q rs rv h k
  simp only [biD] at h
  unfold tupD at h
  split at h
  · rename_i d
    obtain ⟨v, rfl, h1⟩ := rv.sole
    cases e : seqOf S d with
    | none => rw [e] at h; cases h
    | some ys =>
      rw [e] at h
      cases h
      cases d with
      | tup zs =>
        cases e
        obtain ⟨a, vs, rfl, t, r⟩ := h1
        exact ⟨a, vs, rfl, .inr ⟨hK ▸ t.sqt, k m H _ rs.ext rs ⟨a, vs, rfl, t, r⟩⟩⟩
      | scr ns =>
        cases e
        obtain ⟨a, rfl, t⟩ := h1
        refine ⟨a, _, rfl, .inl ⟨hK ▸ t.sql, fun q hq => ?_⟩⟩
        obtain ⟨x1, rs1⟩ := rs.lay (.tup (ns.map V.int)) hq
        exact k m _ _ x1 rs1 ⟨q, _, rfl, .inl upd_same, (RVs.ints ns)⟩
      | ob i =>
        obtain ⟨a, hi, rfl⟩ := h1
        obtain ⟨vs, q1, q2⟩ := lstAt_ok rs hi e
        refine ⟨a, vs, rfl, .inl ⟨.of q1, fun q hq => ?_⟩⟩
        obtain ⟨x1, rs1⟩ := rs.lay (.tup vs) hq
        exact k m _ _ x1 rs1 ⟨q, _, rfl, .inl upd_same, q2.mono rs x1⟩
      | non => cases e
      | bl _ => cases e
      | int _ => cases e
      | str _ => cases e
      | fn _ => cases e
  · cases h
/-! ### isinstance -/
theorem gcd_ok : ∃ r, CallR X (.builtin "math.gcd") r ∧ CaS A r (biD .gcd) := by
  refine ⟨_, cr_gcd, ?_⟩
  intro m S H ds xs z Q rs rvs h q
  simp only [biD, gcdD] at h
  split at h
  · cases h
    obtain ⟨v, u, rfl, h1, h2⟩ := rvs.two
    obtain rfl : v = _ := h1
    obtain rfl : u = _ := h2
    exact ⟨_, _, rfl, q m H _ rs.ext rs rfl⟩
  · cases h
def tyName : Ty → String
  | .int => "int"
  | .bool => "bool"
  | .str => "str"
  | .tuple => "tuple"
  | .list => "list"
theorem isi_one {m : List Addr} {H : Hp} {S : Sto} {d : D} {v : V} {t : Ty} {k : Bool} (hK : A.K = X.K) (rv : RV A m H d v) (h : isiD S d t = some k) : ∃ u, TyX X.K H v u ∧ PySem.W.kitOne X.K u (.type (tyName t)) = some k := by
  cases d with
  | non =>
    refine ⟨.type "NoneType", by rw [show v = V.non from rv]; exact .base .non, kit_ty ?_⟩
    cases t <;> first | (cases h; decide +kernel) | cases h
  | bl b =>
    refine ⟨.type "bool", by rw [show v = V.bl b from rv]; exact .base (.bl b), kit_ty ?_⟩
    cases t <;> first | (cases h; decide +kernel) | cases h
  | int i =>
    refine ⟨.type "int", by rw [show v = V.int i from rv]; exact .base (.int i), kit_ty ?_⟩
    cases t <;> first | (cases h; decide +kernel) | cases h
  | str x =>
    refine ⟨.type "str", by rw [show v = V.str (S' x) from rv]; exact .base (.str _), kit_ty ?_⟩
    cases t <;> first | (cases h; decide +kernel) | cases h
  | tup xs =>
    obtain ⟨a, vs, rfl, ta, _⟩ := rv
    refine ⟨.type "tuple", ?_, kit_ty ?_⟩
    · rcases ta with ta | ⟨_, o, its, n, hk, hc, _⟩
      · exact .base (.tup ta)
      · exact .kTuple (hK ▸ hk) hc
    · cases t <;> first | (cases h; decide +kernel) | cases h
  | scr _ => cases t <;> cases h
  | ob _ => cases t <;> cases h
  | fn _ => cases t <;> cases h
theorem se_isi {x y : Str} {q q' : Pos} {t : Ty} (hK : A.K = X.K) (hg : Gl X x) (hm : X.mg x = none) (hv : bootBuiltins x = some (.builtin "isinstance")) (hg2 : Gl X y) (hm2 : X.mg y = none) (hv2 : bootBuiltins y = some (.type (tyName t))) (ha : SE A W X e fe)
    (hn : x ≠ "__name__") (hdb : (x == ("__debug__" : Str)) = false) (hn2 : y ≠ "__name__") (hdb2 : (y == ("__debug__" : Str)) = false)
    (he : starEach [e, .Name y q'] X.env = (false, eval e X.env) :: starEach [.Name y q'] X.env) :
    SE A W X (.Call (.Name x q) [e, .Name y q'] [] pos) (fun ρ S => (fe ρ S).bind fun x S1 => (ofOpt (isiD S1 x t) S1).bind fun b S1 => .ok (.bl b) S1) :=
  (pe_callB call_isi hg hm hv (pa_cons ha (pa_cons (pe_bltn (v := .ty (tyName t)) hg2 hm2 hv2 rfl hn2 hdb2) pa_nil rfl) he) hn hdb he rfl).imp fun σ H Q ⟨m, ρ, S, rs, re, p⟩ => by
    refine ⟨m, ρ, S, rs, re, p.bind anE fun d S1 m1 H1 v x1 rs1 rv1 p1 => ?_⟩
    cases h : isiD S1 d t with
    | none => rw [h] at p1; exact p1.elim
    | some k =>
      rw [h] at p1
      obtain ⟨u, h1, h2⟩ := isi_one (X := X) hK rv1 h
      exact ⟨v, _, u, _, k, rfl, .ty _, h1, h2, p1.now rs1 rfl⟩
/-! ### a list at once -/
variable {fl : Env → Sto → R (List D)}
/-- f(l), a built-in of a new list -/
def LcS (A : Ad) (r : List V → Hp → VK → Prop) (g : List D → Option D) : Prop := ∀ m S H ds a vs z (Q : VK), RS A m S H → H a = some (.lst vs) → RVs A m H ds vs → g ds = some z → (∀ m' H' v, Ext m H m' H' → RS A m' S H' → RV A m' H' z v → Q v H') → r [.ref a] H Q
theorem se_listB {x : Str} {id : String} {r : List V → Hp → VK → Prop} {g : List D → Option D} (hc : CallR X (.builtin id) r) (hr : LcS A r g) (hg : Gl X x) (hm : X.mg x = none) (hv : bootBuiltins x = some (.builtin id)) (ha : SL A W X e fl) (hn : x ≠ "__name__") (hdb : (x == ("__debug__" : Str)) = false)
    (he : starEach [e] X.env = (false, eval e X.env) :: starEach [] X.env) :
    SE A W X (.Call (.Name x p) [e] [] pos) (fun ρ S => (fl ρ S).bind fun ds S1 => ofOpt (g ds) S1) := (pe_callB hc hg hm hv (pa_cons ha pa_nil he) hn hdb he rfl).imp fun σ H Q ⟨m, ρ, S, rs, re, p⟩ => by
  refine ⟨m, ρ, S, rs, re, p.bind anE fun ds S1 m1 H1 v x1 rs1 rv1 p1 => ?_⟩
  obtain ⟨a, vs, rfl, h1, _, _, h2⟩ := rv1
  cases q : g ds with
  | none => rw [q] at p1; exact p1.elim
  | some z => rw [q] at p1; exact hr m1 S1 H1 ds a vs z Q rs1 h1 h2 q p1
theorem se_listT {x : Str} {T : String} {r : List V → Hp → VK → Prop} {g : List D → Option D} (hc : CallR X (.type T) r) (hr : LcS A r g) (hg : Gl X x) (hm : X.mg x = none) (hv : bootBuiltins x = some (.type T)) (ha : SL A W X e fl) (hn : x ≠ "__name__") (hdb : (x == ("__debug__" : Str)) = false)
    (he : starEach [e] X.env = (false, eval e X.env) :: starEach [] X.env) :
    SE A W X (.Call (.Name x p) [e] [] pos) (fun ρ S => (fl ρ S).bind fun ds S1 => ofOpt (g ds) S1) := (pe_callTy hc hg hm hv (pa_cons ha pa_nil he) hn hdb he rfl).imp fun σ H Q ⟨m, ρ, S, rs, re, p⟩ => by
  refine ⟨m, ρ, S, rs, re, p.bind anE fun ds S1 m1 H1 v x1 rs1 rv1 p1 => ?_⟩
  obtain ⟨a, vs, rfl, h1, _, _, h2⟩ := rv1
  cases q : g ds with
  | none => rw [q] at p1; exact p1.elim
  | some z => rw [q] at p1; exact hr m1 S1 H1 ds a vs z Q rs1 h1 h2 q p1
theorem tupL_ok : ∃ r, CallR X (.type "tuple") r ∧ LcS A r (fun ds => some (.tup ds)) := by
  refine ⟨_, call_tuple_of, ?_⟩
  intro m S H ds a vs z Q rs h1 h2 h k
  cases h
  refine ⟨a, vs, rfl, .inl ⟨.of h1, fun q hq => ?_⟩⟩
  obtain ⟨x1, rs1⟩ := rs.lay (.tup vs) hq
  exact k m _ _ x1 rs1 ⟨q, _, rfl, .inl upd_same, h2.mono rs x1⟩
theorem allBl_ok {m : List Addr} {H : Hp} : ∀ {ds : List D} {vs : List V} {bs : List Bool}, RVs A m H ds vs → allBl ds = some bs → vs = bs.map V.bl
  | [], _, _, h, e => by cases e; exact h
  | d :: ds, _, bs, h, e => by
    obtain ⟨u, us, rfl, h1, h2⟩ := h
    cases d with
    | bl b =>
      simp only [allBl] at e
      cases q : allBl ds with
      | none => rw [q] at e; cases e
      | some bs' =>
        rw [q] at e
        cases e
        rw [allBl_ok h2 q, show u = V.bl b from h1]
        rfl
    | _ => cases e
theorem allInt_ok {m : List Addr} {H : Hp} : ∀ {ds : List D} {vs : List V} {bs : List Int}, RVs A m H ds vs → allInt ds = some bs → vs = bs.map V.int
  | [], _, _, h, e => by cases e; exact h
  | d :: ds, _, bs, h, e => by
    obtain ⟨u, us, rfl, h1, h2⟩ := h
    cases d with
    | int b =>
      simp only [allInt] at e
      cases q : allInt ds with
      | none => rw [q] at e; cases e
      | some bs' =>
        rw [q] at e
        cases e
        rw [allInt_ok h2 q, show u = V.int b from h1]
        rfl
    | _ => cases e
theorem allStr_ok {m : List Addr} {H : Hp} : ∀ {ds : List D} {vs : List V} {bs : List (List Nat)}, RVs A m H ds vs → allStr ds = some bs → vs = (bs.map S').map V.str
  | [], _, _, h, e => by cases e; exact h
  | d :: ds, _, bs, h, e => by
    obtain ⟨u, us, rfl, h1, h2⟩ := h
    cases d with
    | str b =>
      simp only [allStr] at e
      cases q : allStr ds with
      | none => rw [q] at e; cases e
      | some bs' =>
        rw [q] at e
        cases e
        rw [allStr_ok h2 q, show u = V.str (S' b) from h1]
        rfl
    | _ => cases e
theorem allL_ok (hc : X.calm = true) : ∃ r, CallR X (.builtin "all") r ∧ LcS A r (fun ds => (allBl ds).map fun bs => .bl (bs.all id)) := by
  refine ⟨_, cr_all hc, ?_⟩
  intro m S H ds a vs z Q rs h1 h2 h k
  dsimp only at h
  cases e : allBl ds with
  | none => rw [e] at h; cases h
  | some bs =>
    rw [e] at h
    cases h
    exact ⟨a, bs, rfl, .of (by rw [h1, allBl_ok h2 e]), k m H _ rs.ext rs rfl⟩
theorem anyL_ok (hc : X.calm = true) : ∃ r, CallR X (.builtin "any") r ∧ LcS A r (fun ds => (allBl ds).map fun bs => .bl (bs.any id)) := by
  refine ⟨_, cr_any hc, ?_⟩
  intro m S H ds a vs z Q rs h1 h2 h k
  dsimp only at h
  cases e : allBl ds with
  | none => rw [e] at h; cases h
  | some bs =>
    rw [e] at h
    cases h
    exact ⟨a, bs, rfl, .of (by rw [h1, allBl_ok h2 e]), k m H _ rs.ext rs rfl⟩
theorem sumL_ok (hc : X.calm = true) : ∃ r, CallR X (.builtin "sum") r ∧ LcS A r (fun ds => (allInt ds).map fun bs => .int bs.sum) := by
  refine ⟨_, cr_sum hc, ?_⟩
  intro m S H ds a vs z Q rs h1 h2 h k
  dsimp only at h
  cases e : allInt ds with
  | none => rw [e] at h; cases h
  | some bs =>
    rw [e] at h
    cases h
    exact ⟨a, bs, rfl, .of (by rw [h1, allInt_ok h2 e]), k m H _ rs.ext rs rfl⟩
theorem lenL_ok : ∃ r, CallR X (.builtin "len") r ∧ LcS A r (fun ds => some (.int ds.length)) := by
  refine ⟨_, call_len, ?_⟩
  intro m S H ds a vs z Q rs h1 h2 h k
  cases h
  exact ⟨.ref a, ds.length, rfl, LenV_seq (.inl (.of h1)) h2.length, k m H _ rs.ext rs rfl⟩
end
end PL

set_option Elab.async false
set_option linter.all false
set_option maxRecDepth 100000
set_option maxHeartbeats 1000000
/-! PLp: a pair is put into a dict. -/
namespace PL
open PySem PySem.Spec PyProof.Rows L2
section
variable {A : Ad} {W : WX} {X : Cx} {m : List Addr} {S : Sto} {H : Hp}
theorem rks_put {kvs : List (D × D)} {vs : List (Key × V)} {d x : D} {k : Key} {v : V} (h : RKs A m H kvs vs) (hk : kOf d = some k) (rx : RV A m H x v) : RKs A m H (dput kvs d x) (putK vs k v) := by
  have any : ∀ {kvs : List (D × D)} {vs : List (Key × V)}, RKs A m H kvs vs → (kvs.any fun p => decide (p.1 = d)) = (vs.any fun p => decide (p.1 = k)) := by
    intro kvs
    induction kvs with
    | nil => intro vs h; rw [show vs = [] from h]; rfl
    | cons p r ih =>
      intro vs h
      obtain ⟨k', u, us, rfl, h1, h2, h3⟩ := h
      simp only [List.any_cons, ih h3]
      congr 1
      by_cases e : p.1 = d
      · rw [e, hk] at h1
        cases h1
        simp [e]
      · simp only [e, decide_false]
        exact (decide_eq_false fun z : k' = k => e (kOf_inj h1 (z ▸ hk))).symm
  have rep : ∀ {kvs : List (D × D)} {vs : List (Key × V)}, RKs A m H kvs vs → RKs A m H (kvs.map fun p => if p.1 = d then (d, x) else p) (vs.map fun kv => if kv.1 = k then (kv.1, v) else kv) := by
    intro kvs
    induction kvs with
    | nil => intro vs h; rw [show vs = [] from h]; rfl
    | cons p r ih =>
      intro vs h
      obtain ⟨k', u, us, rfl, h1, h2, h3⟩ := h
      by_cases e : p.1 = d
      · rw [e, hk] at h1
        cases h1
        rw [List.map_cons, List.map_cons, if_pos e, if_pos rfl]
        exact ⟨k, v, _, rfl, hk, rx, ih h3⟩
      · have ne : ¬ k' = k := fun z => e (kOf_inj h1 (z ▸ hk))
        rw [List.map_cons, List.map_cons, if_neg e, if_neg ne]
        exact ⟨k', u, _, rfl, h1, h2, ih h3⟩
  have app : ∀ {kvs : List (D × D)} {vs : List (Key × V)}, RKs A m H kvs vs → RKs A m H (kvs ++ [(d, x)]) (vs ++ [(k, v)]) := by
    intro kvs
    induction kvs with
    | nil => intro vs h; rw [show vs = [] from h]; exact ⟨k, v, [], rfl, hk, rx, rfl⟩
    | cons p r ih =>
      intro vs h
      obtain ⟨k', u, us, rfl, h1, h2, h3⟩ := h
      exact ⟨k', u, _, rfl, h1, h2, ih h3⟩
  unfold dput putK
  rw [any h]
  split
  · exact rep h
  · exact app h
theorem RKs.length : ∀ {kvs : List (D × D)} {vs : List (Key × V)}, RKs A m H kvs vs → vs.length = kvs.length
  | [], _, h => by rw [show _ = [] from h]; rfl
  | _ :: _, _, ⟨_, _, us, e, _, _, h⟩ => by rw [e, List.length_cons, List.length_cons, RKs.length h]
theorem RTs.length : ∀ {kvs : List (D × D)} {vs : List (NestedKey × Addr × Value)}, RTs A m H kvs vs → vs.length = kvs.length
  | [], _, h => by rw [show _ = [] from h]; rfl
  | _ :: _, _, ⟨_, _, _, _, us, e, _, _, _, _, _, h⟩ => by rw [e, List.length_cons, List.length_cons, RTs.length h]
theorem rts_any {d : D} {k : NestedKey} (hk : nkOf d = some k) : ∀ {kvs : List (D × D)} {xs : List (NestedKey × Addr × Value)}, RTs A m H kvs xs → (kvs.any fun p => decide (p.1 = d)) = (atKey xs k).isSome
  | [], _, h => by rw [show _ = [] from h]; rfl
  | (k1, d1) :: r, _, h => by
    obtain ⟨k', b, u, v, us, rfl, h1, h2, h3, h4, h5, h6⟩ := h
    rw [List.any_cons, rts_any hk h6]
    by_cases e : k1 = d
    · subst e
      have : k' = k := by rw [hk] at h1; exact (Option.some.inj h1).symm
      subst this
      simp [atKey]
    · have ne : ¬ k' = k := fun z => e (nkOf_inj h1 (z ▸ hk))
      simp [atKey, e, ne]
theorem rts_map {d x : D} {k : NestedKey} {v : V} {u : Value} (hk : nkOf d = some k) (ru : RelV v u) (rx : RV A m H x v) : ∀ {kvs : List (D × D)} {xs : List (NestedKey × Addr × Value)}, RTs A m H kvs xs → RTs A m H (kvs.map fun p => if p.1 = d then (d, x) else p) (xs.map (putAt k u))
  | [], _, h => by rw [show _ = [] from h]; rfl
  | (k1, d1) :: r, _, h => by
    obtain ⟨k', b, z, w, us, rfl, h1, h2, h3, h4, h5, h6⟩ := h
    rw [List.map_cons, List.map_cons]
    by_cases e : k1 = d
    · subst e
      have : k' = k := by rw [hk] at h1; exact (Option.some.inj h1).symm
      subst this
      rw [if_pos rfl]
      exact ⟨k', b, u, v, _, by simp [putAt], h1, h2, h3, ru, rx, rts_map hk ru rx h6⟩
    · have ne : ¬ k' = k := fun z => e (nkOf_inj h1 (z ▸ hk))
      have e' : ¬ (k1, d1).1 = d := e
      rw [if_neg e']
      exact ⟨k', b, z, w, _, by simp [putAt, ne], h1, h2, h3, h4, h5, rts_map hk ru rx h6⟩
theorem rts_snoc {d x : D} {k : NestedKey} {b : Addr} {v : V} {u : Value} (hk : nkOf d = some k) (hd : k.depth ≤ 8) (rb : RV A m H d (.ref b)) (ru : RelV v u) (rx : RV A m H x v) : ∀ {kvs : List (D × D)} {xs : List (NestedKey × Addr × Value)}, RTs A m H kvs xs → RTs A m H (kvs ++ [(d, x)]) (xs ++ [(k, b, u)])
  | [], _, h => by rw [show _ = [] from h]; exact ⟨k, b, u, v, [], rfl, hk, hd, rb, ru, rx, rfl⟩
  | (k1, d1) :: r, _, h => by
    obtain ⟨k', b', z, w, us, rfl, h1, h2, h3, h4, h5, h6⟩ := h
    exact ⟨k', b', z, w, _, rfl, h1, h2, h3, h4, h5, rts_snoc hk hd rb ru rx h6⟩
theorem rts_put {kvs : List (D × D)} {xs : List (NestedKey × Addr × Value)} {d x : D} {k : NestedKey} {b : Addr} {v : V} {u : Value} (h : RTs A m H kvs xs) (hk : nkOf d = some k) (hd : k.depth ≤ 8) (rb : RV A m H d (.ref b)) (ru : RelV v u) (rx : RV A m H x v) : RTs A m H (dput kvs d x) (storedH xs k b u) := by
  unfold dput storedH
  rw [rts_any hk h]
  split
  · exact rts_map hk ru rx h
  · exact rts_snoc hk hd rb ru rx h
theorem lineM {n : Nat} (h : n < 1000000) : n < sizeLine := Nat.lt_trans h (by rw [sizeLine_eq]; decide)
/-- where a pair may be put -/
theorem dput_ok (hK : A.K = X.K) (hP : A.pr = X.prog) (hw : A.w = X.w) (rs : RS A m S H) {i : Nat} {a : Addr} {b : Bool} {kvs : List (D × D)} {d x : D} {y v : V} (hi : m[i]? = some a) (e : dctAt S i = some (b, kvs)) (rv : RV A m H d y) (rx : RV A m H x v) (ok : okKey b d = true) (hl : kvs.length < 1000000) :
    (∃ (vs : List (Key × V)) (k : Key), b = false ∧ H a = some (.dK vs) ∧ y = kV k ∧ vs.length < sizeLine ∧ ((dlook kvs d = none ∧ valV vs k = none) ∨ ∃ z w, dlook kvs d = some z ∧ valV vs k = some w ∧ RV A m H z w) ∧ Ext m H m (upd H a (.dK (putK vs k v))) ∧ RS A m (S.set i (mkDct b (dput kvs d x))) (upd H a (.dK (putK vs k v)))) ∨
    ∃ xs k c, b = true ∧ NDict X.K X.prog X.w H a xs ∧ y = .ref c ∧ NV X.K H k (.ref c) ∧ k.depth ≤ 8 ∧ xs.length < sizeLine ∧ ((dlook kvs d = none ∧ atKey xs k = none) ∨ ∃ e p v, dlook kvs d = some e ∧ atKey xs k = some p ∧ RelV v p.2 ∧ RV A m H e v) ∧
      ∀ u, RelV v u → Ext m H m (upd H a (.ext (DAt X.prog X.w a (storedH xs k c u)))) ∧ RS A m (S.set i (mkDct b (dput kvs d x))) (upd H a (.ext (DAt X.prog X.w a (storedH xs k c u)))) := by
  simp only [dctAt] at e
  split at e
  · rename_i kvs' e'
    cases e
    obtain ⟨vs, h1, h2⟩ := rs.obj i _ a e' hi
    obtain ⟨k, hk, rfl⟩ := keyK_kOf rv ok
    have w := rs.write (ob := .dK (dput kvs d x)) (o := .dK (putK vs k v)) hi (fun _ _ z => by rw [h1] at z; cases z) trivial fun x1 => ⟨_, upd_same, (rks_put h2 hk rx).mono rs x1⟩
    exact .inl ⟨vs, k, rfl, h1, rfl, by rw [h2.length]; exact lineM hl, rks_look h2 hk, w.1, w.2⟩
  · rename_i kvs' e'
    cases e
    obtain ⟨xs, h1, h2⟩ := rs.obj i _ a e' hi
    obtain ⟨ds, k, rfl, hk, hd⟩ := okKey_t ok
    have hn := rv.nv hk
    obtain ⟨c, us, rfl, t, r⟩ := id rv
    rw [hP, hw] at h1
    have nd : NDict X.K X.prog X.w H a xs := ⟨h1, by rw [← hK]; exact rts_keys h2⟩
    rw [hK] at hn
    refine .inr ⟨xs, k, c, rfl, nd, rfl, hn, hd, by rw [h2.length]; exact lineM hl, rts_look h2 hk, fun u ru => ?_⟩
    exact rs.write (ob := .dT (dput kvs (.tup ds) x)) (o := .ext (DAt X.prog X.w a (storedH xs k c u))) hi (fun _ _ z => by rw [h1] at z; cases z) trivial fun x1 => ⟨_, by rw [hP, hw]; exact upd_same, (rts_put h2 hk hd rv ru rx).mono rs x1⟩
  · cases e
end
end PL

set_option Elab.async false
set_option linter.all false
set_option maxRecDepth 100000
set_option maxHeartbeats 1000000
/-! PL6: methods of built-in types, sorted, targets, what is walked. -/
namespace PL
open PySem PySem.Spec PyProof.Rows L2
section
variable {A : Ad} {W : WX} {X : Cx} {e a b c o : Expr} {es : List Expr} {pos p apos cpos : Pos} {fe fa fb fc fo : Env → Sto → R D} {fes fl : Env → Sto → R (List D)}
/-! ### methods -/
def bmT (bm : BM) : String := match bm with | .append | .pop | .extend => "list" | .get2 | .setdefault => "dict" | .find2 | .zfill => "str"
/-- a method's rule, answered -/
def BmS (A : Ad) (r : V → List V → Hp → VK → Prop) (g : D → List D → Sto → R D) : Prop := ∀ m S H d ds x xs (E : XK) (Q : VK), RS A m S H → RV A m H d x → RVs A m H ds xs → Post A (rE A) E m H (g d ds S) Q → (∀ c fs S', g d ds S ≠ .exc c fs S') → r x xs H Q
/-- a receiver's type; dicts with nested keys, too -/
def tyW (X : Cx) (T : String) (x : V) (H : Hp) : Prop := tyV X.K T x H ∨ (T = "dict" ∧ ∃ a xs, x = .ref a ∧ H a = some (.ext (DAt X.prog X.w a xs)))
theorem tyW_is {pins : List (Addr × Obj)} {σ : L2.St} {H : Hp} {s : Shared} {T : String} {x : V} {v : Value} (I : Inv X pins σ H s) (r : RelV x v) (ty : tyW X T x H) : s.TypeIs v T ∧ ∀ a, v = .ref a → ∃ ob, s.heap.get? a = some ob ∧ ob.dict = none := by
  rcases ty with ty | ⟨rfl, a, xs, rfl, h⟩
  · exact tyV_is I r ty
  · obtain rfl : v = .ref a := r
    obtain ⟨⟨_, _, o, es, ep, h1, h2, _⟩, _⟩ := I.hok a _ h
    exact ⟨⟨o, h1, h2.1⟩, fun b hb => by cases hb; exact ⟨o, h1, h2.2.1⟩⟩
def tBW (X : Cx) (T : String) (r : V → List V → Hp → VK → Prop) (to : TE) (t : TA) : TE := fun σ H Q => to σ H fun x H1 => tyW X T x H1 ∧ t σ H1 fun xs H2 => r x xs H2 Q
def tBW0 (X : Cx) (T : String) (r : V → List V → Hp → VK → Prop) (to : TE) : TE := fun σ H Q => to σ H fun x H1 => tyW X T x H1 ∧ r x [] H1 Q
theorem pe_bmW {T id : String} {name : Str} {r : V → List V → Hp → VK → Prop} {o e : Expr} {es : List Expr} {to : TE} {t : TA} {apos cpos : Pos} (pa : PlainAttrs T) (slot : Slot T name id) (hty : typeOf (.builtin id) = pure (.type "method_descriptor")) (hm : MtR X id r) (ho : PE X o to) (ha : PA X (e :: es) t)
    (hbase : attributeBase o name X.env (eval o X.env) = eval o X.env)
    (hfew : ((backTo cpos (starEach (e :: es) X.env)).all (fun x => !x.1) && (backToKw cpos (keywordEach [] X.env)).all (fun x => x.1.isSome)
      && decide ((e :: es).length + ([] : List Keyword).length + (if ([] : List Keyword).isEmpty then 0 else 1) < 30)) = true)
    (hline : (apos.endLine == cpos.line) = true) (hs : starEach (e :: es) X.env = (false, eval e X.env) :: starEach es X.env) (hplain : (backTo cpos (starEach es X.env)).any (·.1) = false) :
    PE X (.Call (.Attribute o name apos) (e :: es) [] cpos) (tBW X T r to t) := by
  refine ⟨fun pins s σ H Q I h => ?_⟩
  refine wpAny_Call_method_late hbase hfew hline rfl (thn (ho.run pins s σ H _ I h) fun v s1 ⟨x, H1, I1, r1, ty, q1⟩ => ?_)
  obtain ⟨h1, h2⟩ := tyW_is I1 r1 ty
  refine ⟨T, id, pa, slot, hty, h1, h2, ?_⟩
  have hA := ha.run cpos pins s1 σ H1 _ I1 q1
  rw [hs] at hA ⊢
  refine Calls.callWith_builtin (by show (false || (backTo cpos (starEach es X.env)).any (·.1)) = false; rw [hplain] <;> rfl) (Calls.evalArgs_plain ?_)
  exact thn hA fun us s2 ⟨vs, H2, I2, r2, q2⟩ => hm pins s2 σ H2 x vs v us Q I2 r1 r2 q2
theorem pe_bm0W {T id : String} {name : Str} {r : V → List V → Hp → VK → Prop} {o : Expr} {to : TE} {apos cpos : Pos} (pa : PlainAttrs T) (slot : Slot T name id) (hty : typeOf (.builtin id) = pure (.type "method_descriptor")) (hm : MtR X id r) (ho : PE X o to)
    (hbase : attributeBase o name X.env (eval o X.env) = eval o X.env) (hline : (apos.endLine == cpos.line) = true) : PE X (.Call (.Attribute o name apos) [] [] cpos) (tBW0 X T r to) := by
  refine ⟨fun pins s σ H Q I h => ?_⟩
  refine wpAny_Call_method0_late hbase hline (thn (ho.run pins s σ H _ I h) fun v s1 ⟨x, H1, I1, r1, ty, q1⟩ => ?_)
  obtain ⟨h1, h2⟩ := tyW_is I1 r1 ty
  exact ⟨T, id, pa, slot, hty, h1, h2, Calls.callWith_builtin rfl (PySem.evalArgs_none (hm pins s1 σ H1 x [] v [] Q I1 r1 .nil q1))⟩
theorem recv_ok (hK : A.K = X.K) (hP : A.pr = X.prog) (hw : A.w = X.w) {m : List Addr} {S : Sto} {H : Hp} {d : D} {x : V} {bm : BM} {T : String} (rs : RS A m S H) (rv : RV A m H d x) (h : recvOk bm d S = true)
    (hT : T = bmT bm) : tyW X T x H := by
  cases d with
  | str t =>
    rw [show x = V.str (S' t) from rv]
    cases bm <;> simp only [recvOk] at h <;> first | (exact .inl hT) | (cases h)
  | ob i =>
    obtain ⟨a, hi, rfl⟩ := rv
    have lst : (lstAt S i).isSome = true → T = "list" → tyW X T (.ref a) H := fun q e => by
      obtain ⟨xs, q⟩ := Option.isSome_iff_exists.mp q
      obtain ⟨vs, h1, _⟩ := lstAt_ok rs hi q
      exact .inl (.inl ⟨e, vs, .of h1⟩)
    have dct : (dctAt S i).isSome = true → T = "dict" → tyW X T (.ref a) H := fun q e => by
      obtain ⟨xs, q⟩ := Option.isSome_iff_exists.mp q
      simp only [dctAt] at q
      split at q
      · rename_i kvs e'
        obtain ⟨vs, h1, _⟩ := rs.obj i _ a e' hi
        exact .inl (.inr (.inr (.inl ⟨e, .inl ⟨vs, h1⟩⟩)))
      · rename_i kvs e'
        obtain ⟨xs, h1, _⟩ := rs.obj i _ a e' hi
        rw [hP, hw] at h1
        exact .inr ⟨e, a, xs, rfl, h1⟩
      · cases q
    cases bm <;> simp only [recvOk] at h <;> first | exact lst h hT | exact dct h hT | cases h
  | non => cases bm <;> cases h
  | bl _ => cases bm <;> cases h
  | int _ => cases bm <;> cases h
  | tup _ => cases bm <;> cases h
  | scr _ => cases bm <;> cases h
  | fn _ => cases bm <;> cases h
theorem se_bm {T id : String} {name : Str} {r : V → List V → Hp → VK → Prop} {bm : BM} (hK : A.K = X.K) (hP : A.pr = X.prog) (hw : A.w = X.w) (pa : PlainAttrs T) (slot : Slot T name id) (hty : typeOf (.builtin id) = pure (.type "method_descriptor")) (hm : MtR X id r) (hr : BmS A r (bmD bm))
    (hno : ∀ d ds S c fs S', bmD bm d ds S ≠ .exc c fs S') (hT : T = bmT bm)
    (ho : SE A W X o fo) (ha : SA A W X (e :: es) fes) (hbase : attributeBase o name X.env (eval o X.env) = eval o X.env)
    (hfew : ((backTo cpos (starEach (e :: es) X.env)).all (fun x => !x.1) && (backToKw cpos (keywordEach [] X.env)).all (fun x => x.1.isSome)
      && decide ((e :: es).length + ([] : List Keyword).length + (if ([] : List Keyword).isEmpty then 0 else 1) < 30)) = true)
    (hline : (apos.endLine == cpos.line) = true) (hs : starEach (e :: es) X.env = (false, eval e X.env) :: starEach es X.env) (hplain : (backTo cpos (starEach es X.env)).any (·.1) = false) :
    SE A W X (.Call (.Attribute o name apos) (e :: es) [] cpos) (fun ρ S => (fo ρ S).bind fun x S1 => if recvOk bm x S1 then (fes ρ S1).bind fun ds S2 => bmD bm x ds S2 else .stuck) := (pe_bmW pa slot hty hm ho ha hbase hfew hline hs hplain).imp fun σ H Q ⟨m, ρ, S, rs, re, p⟩ => by
  refine ⟨m, ρ, S, rs, re, p.bind anE fun d S1 m1 H1 v x1 rs1 rv1 p1 => ?_⟩
  split at p1
  · rename_i hrc
    refine ⟨recv_ok hK hP hw rs1 rv1 hrc hT, m1, ρ, S1, rs1, re.mono rs x1, p1.bind anE fun ds S2 m2 H2 xs x2 rs2 rv2 p2 => ?_⟩
    exact hr m2 S2 H2 d ds v xs _ Q rs2 (RV.mono rs1 x2 rv1) rv2 p2 (hno d ds S2)
  · exact p1.elim
theorem se_bm0 {T id : String} {name : Str} {r : V → List V → Hp → VK → Prop} {bm : BM} (hK : A.K = X.K) (hP : A.pr = X.prog) (hw : A.w = X.w) (pa : PlainAttrs T) (slot : Slot T name id) (hty : typeOf (.builtin id) = pure (.type "method_descriptor")) (hm : MtR X id r) (hr : BmS A r (bmD bm))
    (hno : ∀ d ds S c fs S', bmD bm d ds S ≠ .exc c fs S') (hT : T = bmT bm)
    (ho : SE A W X o fo) (hbase : attributeBase o name X.env (eval o X.env) = eval o X.env) (hline : (apos.endLine == cpos.line) = true) :
    SE A W X (.Call (.Attribute o name apos) [] [] cpos) (fun ρ S => (fo ρ S).bind fun x S1 => if recvOk bm x S1 then bmD bm x [] S1 else .stuck) := (pe_bm0W pa slot hty hm ho hbase hline).imp fun σ H Q ⟨m, ρ, S, rs, re, p⟩ => by
  refine ⟨m, ρ, S, rs, re, p.bind anE fun d S1 m1 H1 v x1 rs1 rv1 p1 => ?_⟩
  split at p1
  · rename_i hrc
    exact ⟨recv_ok hK hP hw rs1 rv1 hrc hT, hr m1 S1 H1 d [] v [] _ Q rs1 rv1 rfl p1 (hno d [] S1)⟩
  · exact p1.elim
theorem line10 : (10000000 : Nat) < sizeLine := by rw [sizeLine_eq]; decide
theorem append_ok : BmS A rAppend (bmD .append) := by
  intro m S H d ds x xs E Q rs rv rvs p hno
  simp only [bmD, appendM] at p
  split at p
  · rename_i i y
    obtain ⟨a, hi, rfl⟩ := rv
    obtain ⟨v, rfl, rv2⟩ := rvs.sole
    split at p
    · rename_i ys e
      split at p
      · rename_i hl
        obtain ⟨vs, h1, h2⟩ := lstAt_ok rs hi e
        refine ⟨a, vs, v, rfl, rfl, h1, by rw [h2.length]; exact Nat.lt_trans hl line10, ?_⟩
        obtain ⟨x1, rs1⟩ := rs.write (ob := .lst (ys ++ [y])) (o := .lst (vs ++ [v])) hi (fun _ _ z => by rw [h1] at z; cases z) trivial fun x1 => ⟨_, upd_same, (h2.append (RVs.one rv2)).mono rs x1⟩
        exact p m _ .non x1 rs1 rfl
      · exact p.elim
    · exact p.elim
  · exact p.elim
theorem pop_ok : BmS A rPop (bmD .pop) := by
  intro m S H d ds x xs E Q rs rv rvs p hno
  simp only [bmD, popM] at p
  split at p
  · rename_i i
    obtain ⟨a, hi, rfl⟩ := rv
    obtain rfl : xs = [] := rvs
    split at p
    · rename_i ys e
      split at p
      · rename_i y ey
        obtain ⟨vs, h1, h2⟩ := lstAt_ok rs hi e
        obtain ⟨v, e3, e4⟩ := h2.get ey
        refine ⟨a, vs, v, rfl, rfl, h1, by rw [h2.length]; exact e3, ?_⟩
        have q : RVs A m H ys.dropLast vs.dropLast := by
          rw [List.dropLast_eq_take, List.dropLast_eq_take, h2.length]
          exact h2.take _
        obtain ⟨x1, rs1⟩ := rs.write (ob := .lst ys.dropLast) (o := .lst vs.dropLast) hi (fun _ _ z => by rw [h1] at z; cases z) trivial fun x1 => ⟨_, upd_same, q.mono rs x1⟩
        exact p m _ v x1 rs1 (e4.mono rs x1)
      · exact p.elim
    · exact p.elim
  · exact p.elim
theorem extend_ok : BmS A rExtend (bmD .extend) := by
  intro m S H d ds x xs E Q rs rv rvs p hno
  simp only [bmD, extendM] at p
  split at p
  · rename_i i j
    obtain ⟨a, hi, rfl⟩ := rv
    obtain ⟨v, rfl, b, hj, rfl⟩ := rvs.sole
    split at p
    · rename_i ys zs e e'
      split at p
      · rename_i hl
        obtain ⟨vs, h1, h2⟩ := lstAt_ok rs hi e
        obtain ⟨us, h3, h4⟩ := lstAt_ok rs hj e'
        refine ⟨a, b, vs, us, rfl, rfl, h1, h3, by rw [h2.length, h4.length]; exact Nat.le_trans hl (Nat.le_of_lt line10), ?_⟩
        obtain ⟨x1, rs1⟩ := rs.write (ob := .lst (ys ++ zs)) (o := .lst (vs ++ us)) hi (fun _ _ z => by rw [h1] at z; cases z) trivial fun x1 => ⟨_, upd_same, (h2.append h4).mono rs x1⟩
        exact p m _ .non x1 rs1 rfl
      · exact p.elim
    · exact p.elim
  · exact p.elim
/-- d.get(k, x) -/
theorem mt_get2 (hu : X.A.units + 16 < cLine) : MtR X "dict.get" (fun x xs H Q => ∃ a y d o, x = .ref a ∧ xs = [y, d] ∧ DLook X H a y o ∧ Q (o.getD d) H) := by
  intro pins s σ H x xs v us Q I rx rxs h
  obtain ⟨a, y, d, o, rfl, rfl, g, q⟩ := h
  obtain rfl : v = .ref a := rx
  cases rxs with
  | cons r1 r2 => cases r2 with
    | cons r2 r3 =>
      cases r3
      exact look_get2 hu I g r1 r2 fun w' s' I' rw' => ⟨_, H, I', rw', q⟩
theorem get2_ok (hK : A.K = X.K) (hP : A.pr = X.prog) (hw : A.w = X.w) : BmS A (fun x xs H Q => ∃ a y d o, x = .ref a ∧ xs = [y, d] ∧ DLook X H a y o ∧ Q (o.getD d) H) (bmD .get2) := by
  intro m S H d ds x xs E Q rs rv rvs p hno
  simp only [bmD, get2M] at p
  split at p
  · rename_i i k z
    obtain ⟨a, hi, rfl⟩ := rv
    obtain ⟨y, w, rfl, h1, h2⟩ := rvs.two
    split at p
    · rename_i b kvs ed
      split at p
      · rename_i ok
        rcases dget_ok hK hP hw rs hi ed h1 ok with ⟨q1, q2⟩ | ⟨z', v, q1, q2, q3⟩
        · rw [q1] at p
          exact ⟨a, y, w, none, rfl, rfl, q2, p.now rs h2⟩
        · rw [q1] at p
          exact ⟨a, y, w, some v, rfl, rfl, q2, p.now rs q3⟩
      · exact p.elim
    · exact p.elim
  · exact p.elim
/-- d.setdefault(k, x) -/
def rSetD (X : Cx) : V → List V → Hp → VK → Prop := fun x xs H Q => ∃ a y z, x = .ref a ∧ xs = [y, z] ∧
  ((∃ (kvs : List (Key × V)) (k : Key), H a = some (.dK kvs) ∧ y = kV k ∧ kvs.length < sizeLine ∧ (∀ v, valV kvs k = some v → Q v H) ∧ (valV kvs k = none → Q z (upd H a (.dK (putK kvs k z))))) ∨
   ∃ xs k b, NDict X.K X.prog X.w H a xs ∧ y = .ref b ∧ NV X.K H k (.ref b) ∧ k.depth ≤ 8 ∧ xs.length < sizeLine ∧ (∀ p, atKey xs k = some p → ∃ v, RelV v p.2 ∧ Q v H) ∧ (atKey xs k = none → ∀ u, RelV z u → Q z (upd H a (.ext (DAt X.prog X.w a (storedH xs k b u))))))
theorem mt_setd (hu : X.A.units + 16 < cLine) : MtR X "dict.setdefault" (rSetD X) := by
  intro pins s σ H x xs v us Q I rx rxs h
  obtain ⟨a, y, z, rfl, rfl, h⟩ := h
  obtain rfl : v = .ref a := rx
  cases rxs with
  | cons r1 r2 => cases r2 with
    | cons r2 r3 =>
      cases r3
      rcases h with ⟨kvs, k, e, rfl, hl, q1, q2⟩ | ⟨ys, k, b, nd, rfl, nk, dk, hl, q1, q2⟩
      · exact d_setd I e r1 r2 hl (fun v hv w' s' I' rw' => ⟨v, H, I', rw', q1 v hv⟩) fun hn w' s' I' rz => ⟨z, _, I', rz, q2 hn⟩
      · obtain rfl : _ = Value.ref b := r1
        refine n_setdefault hu I nd nk dk hl (fun p hp s' I' => ?_) fun hn s' I' => ⟨z, _, I', r2, q2 hn _ r2⟩
        obtain ⟨v, rv, q⟩ := q1 p hp
        exact ⟨v, H, I', rv, q⟩
theorem setd_ok (hK : A.K = X.K) (hP : A.pr = X.prog) (hw : A.w = X.w) : BmS A (rSetD X) (bmD .setdefault) := by
  intro m S H d ds x xs E Q rs rv rvs p hno
  simp only [bmD, setdefaultM] at p
  split at p
  · rename_i i k z
    obtain ⟨a, hi, rfl⟩ := rv
    obtain ⟨y, w, rfl, h1, h2⟩ := rvs.two
    split at p
    · rename_i b kvs ed
      split at p
      · rename_i ok
        refine ⟨a, y, w, rfl, rfl, ?_⟩
        rcases dput_ok (X := X) hK hP hw rs hi ed h1 h2 ok.1 ok.2 with ⟨vs, k', rfl, g1, rfl, g2, g3, g4, g5⟩ | ⟨xs, k', c, rfl, nd, rfl, nk, dk, g2, g3, g4⟩
        · refine .inl ⟨vs, k', g1, rfl, g2, ?_⟩
          rcases g3 with ⟨q1, q2⟩ | ⟨z', v, q1, q2, q3⟩
          · rw [q1] at p
            exact ⟨(fun v hv => by rw [q2] at hv; cases hv), fun _ => p m _ w g4 g5 (h2.mono rs g4)⟩
          · rw [q1] at p
            exact ⟨(fun v' hv => by rw [q2] at hv; cases hv; exact Post.now p rs q3), (fun hn => by rw [q2] at hn; cases hn)⟩
        · refine .inr ⟨xs, k', c, nd, rfl, nk, dk, g2, ?_⟩
          rcases g3 with ⟨q1, q2⟩ | ⟨z', p', v, q1, q2, q3, q4⟩
          · rw [q1] at p
            exact ⟨(fun v hv => by rw [q2] at hv; cases hv), fun _ u ru => p m _ w (g4 u ru).1 (g4 u ru).2 (h2.mono rs (g4 u ru).1)⟩
          · rw [q1] at p
            exact ⟨(fun p2 hv => by rw [q2] at hv; cases hv; exact ⟨v, q3, Post.now p rs q4⟩), (fun hn => by rw [q2] at hn; cases hn)⟩
      · exact p.elim
    · exact p.elim
  · exact p.elim
theorem find2_ok : BmS A (fun x xs H Q => ∃ (a b : Str) (i : Int), x = .str a ∧ xs = [.str b, .int i] ∧ Q (.int (Txt.find3 a b i)) H) (bmD .find2) := by
  intro m S H d ds x xs E Q rs rv rvs p hno
  simp only [bmD, find2M] at p
  split at p
  · obtain ⟨v, u, rfl, h1, h2⟩ := rvs.two
    exact ⟨_, _, _, rv, by rw [show v = V.str _ from h1, show u = V.int _ from h2], p.now rs rfl⟩
  · exact p.elim
theorem zfill_ok : BmS A (fun x xs H Q => ∃ (a : Str) (i : Int), x = .str a ∧ xs = [.int i] ∧ PadOk i = true ∧ Q (.str (Txt.zfill a i)) H) (bmD .zfill) := by
  intro m S H d ds x xs E Q rs rv rvs p hno
  simp only [bmD, zfillM] at p
  split at p
  · split at p
    · obtain ⟨v, rfl, h1⟩ := rvs.sole
      exact ⟨_, _, rv, by rw [show v = V.int _ from h1], by assumption, p.now rs (by show V.str _ = V.str (S' _); rw [S'_tl])⟩
    · exact p.elim
  · exact p.elim
theorem bm_noexc (bm : BM) : ∀ d ds S c fs S', bmD bm d ds S ≠ .exc c fs S' := by
  intro d ds S c fs S' h
  cases bm <;> simp only [bmD] at h
  · unfold appendM at h; repeat' split at h <;> first | cases h | skip
  · unfold popM at h; repeat' split at h <;> first | cases h | skip
  · unfold get2M at h; repeat' split at h <;> first | cases h | skip
  · unfold setdefaultM at h; repeat' split at h <;> first | cases h | skip
  · unfold extendM at h; repeat' split at h <;> first | cases h | skip
  · unfold find2M at h; repeat' split at h <;> first | cases h | skip
  · unfold zfillM at h; repeat' split at h <;> first | cases h | skip
/-- sep.join(l) -/
theorem joinT_ok (t : List Nat) (ys : List (List Nat)) : Txt.join (S' t) (ys.map S') = S' (joinT t ys) := by
  have h : ∀ l : List (List Nat), TL.joinL t l = joinT t l := by
    intro l
    induction l with
    | nil => rfl
    | cons x r ih =>
      cases r with
      | nil => rfl
      | cons y r => show x ++ (t ++ TL.joinL t (y :: r)) = x ++ t ++ joinT t (y :: r) ; rw [ih, List.append_assoc]
  rw [show Txt.join (S' t) (ys.map S') = S' (TL.joinL t ys) from SX.join_S t ys, h]
theorem se_join (ho : SE A W X o fo) (hl : SL A W X e fl) (hs : starEach [e] X.env = [(false, eval e X.env)]) (hbase : attributeBase o "join" X.env (eval o X.env) = eval o X.env) (hline : (apos.endLine == pos.line) = true) :
    SE A W X (.Call (.Attribute o "join" apos) [e] [] pos) (fun ρ S => (fo ρ S).bind fun x S1 => match x with
      | .str t => (fl ρ S1).bind fun xs S2 => ofOpt ((allStr xs).bind fun ys => if (ys.map List.length).sum + ys.length * t.length ≤ 16777216 then some (.str (joinT t ys)) else none) S2
      | _ => .stuck) := (pe_join ho hl hs hbase hline).imp fun σ H Q ⟨m, ρ, S, rs, re, p⟩ => by
  refine ⟨m, ρ, S, rs, re, p.bind anE fun d S1 m1 H1 v x1 rs1 rv1 p1 => ?_⟩
  cases d with
  | str t =>
    dsimp only at p1
    refine ⟨⟨S' t, rv1⟩, m1, ρ, S1, rs1, re.mono rs x1, p1.bind anE fun ds S2 m2 H2 w x2 rs2 rv2 p2 => ?_⟩
    obtain ⟨a, vs, rfl, h1, _, _, h2⟩ := rv2
    cases q : allStr ds with
    | none => rw [q] at p2; exact p2.elim
    | some ys =>
      rw [q] at p2
      simp only [Option.bind_some] at p2
      split at p2
      · rename_i hz
        refine ⟨S' t, a, ys.map S', rv1, rfl, .inl (.of (by rw [h1, allStr_ok h2 q])), ?_, p2.now rs2 (by rw [joinT_ok]; rfl)⟩
        rw [List.map_map, List.length_map, S'_len]
        have : (Str.length ∘ S' : List Nat → Nat) = List.length := by funext z; exact S'_len z
        show (ys.map ((fun x : Str => x.length) ∘ S')).sum + _ ≤ _
        rw [show ((fun x : Str => x.length) ∘ S' : List Nat → Nat) = List.length from this]
        exact hz
      · exact p2.elim
  | _ => exact p1.elim
end
end PL

set_option Elab.async false
set_option linter.all false
set_option maxRecDepth 100000
set_option maxHeartbeats 1000000
/-! PL7: targets, what is walked, comprehensions. -/
namespace PL
open PySem PySem.Spec PyProof.Rows L2
mutual
def G.slots : G → List Nat
  | .nm i => [i]
  | .tup gs => gs.slots
def Gs.slots : Gs → List Nat
  | .nil => []
  | .cons g gs => g.slots ++ gs.slots
end
/-- the slots but these are as they were -/
def SameBut (is : List Nat) (σ σ' : L2.St) : Prop := σ'.length = σ.length ∧ ∀ i : Nat, i ∉ is → σ'[i]? = σ[i]?
theorem SameBut.refl {is : List Nat} {σ : L2.St} : SameBut is σ σ := ⟨rfl, fun _ _ => rfl⟩
theorem SameBut.set {is : List Nat} {σ σ' : L2.St} (h : SameBut is σ σ') {i : Nat} (hi : i ∈ is) (v : Option V) : SameBut is σ (σ'.set i v) := ⟨by simp [h.1], fun j hj => by
  rw [List.getElem?_set_ne (fun e : i = j => hj (by rw [← e]; exact hi))]
  exact h.2 j hj⟩
theorem SameBut.mono {is js : List Nat} {σ σ' : L2.St} (h : SameBut is σ σ') (hs : ∀ i ∈ is, i ∈ js) : SameBut js σ σ' := ⟨h.1, fun i hi => h.2 i fun z => hi (hs i z)⟩
theorem wipe_get {σ : L2.St} {i : Nat} : ∀ {vs : List Nat}, i ∉ vs → (L2.wipe σ vs)[i]? = σ[i]?
  | [], _ => rfl
  | v :: vs, h => by
    unfold L2.wipe
    rw [List.getElem?_set_ne (fun e => h (by simp [e]))]
    exact wipe_get fun z => h (by simp [z])
theorem wipe_in {σ : L2.St} {i : Nat} : ∀ {vs : List Nat}, i ∈ vs → i < σ.length → (L2.wipe σ vs)[i]? = some none
  | [], h, _ => by simp at h
  | v :: vs, h, hl => by
    unfold L2.wipe
    by_cases e : v = i
    · subst e
      rw [List.getElem?_set_self (by rw [wipe_length]; exact hl)]
    · rw [List.getElem?_set_ne e]
      exact wipe_in (by rcases List.mem_cons.mp h with z | z; exact absurd z.symm e; exact z) hl
theorem SameBut.wipe {is vs : List Nat} {σ σ' : L2.St} (h : SameBut is σ σ') (hs : ∀ i ∈ is, i ∈ vs) : L2.wipe σ' vs = L2.wipe σ vs := by
  apply List.ext_getElem?
  intro i
  by_cases hi : i ∈ vs
  · by_cases hl : i < σ.length
    · rw [wipe_in hi hl, wipe_in hi (by rw [h.1]; exact hl)]
    · rw [List.getElem?_eq_none (by rw [wipe_length, h.1]; omega), List.getElem?_eq_none (by rw [wipe_length]; omega)]
  · rw [wipe_get hi, wipe_get hi]
    exact h.2 i fun z => hi (hs i z)
theorem wipe_wipe (σ : L2.St) (vs : List Nat) : L2.wipe (L2.wipe σ vs) vs = L2.wipe σ vs := by
  apply List.ext_getElem?
  intro i
  by_cases hi : i ∈ vs
  · by_cases hl : i < σ.length
    · rw [wipe_in hi (by rw [wipe_length]; exact hl), wipe_in hi hl]
    · rw [List.getElem?_eq_none (by rw [wipe_length, wipe_length]; omega), List.getElem?_eq_none (by rw [wipe_length]; omega)]
  · rw [wipe_get hi]
section
variable {A : Ad} {W : WX} {X : Cx} {e a b c o tg iter : Expr} {es : List Expr} {pos p apos cpos : Pos} {fe fa fb fc fo : Env → Sto → R D} {fes fl : Env → Sto → R (List D)}
/-! ### targets -/
def tGo (A : Ad) (g : G) : TG := fun v σ H Q => ∃ m ρ S d ρ', RS A m S H ∧ REnv A m H ρ σ ∧ RV A m H d v ∧ asgG g d ρ = some ρ' ∧ ∀ σ', REnv A m H ρ' σ' → SameBut g.slots σ σ' → Q σ' H
def tGos (A : Ad) (g : Gs) : TGs := fun v σ H Q => ∃ m ρ S d ρ', RS A m S H ∧ REnv A m H ρ σ ∧ RVs A m H d v ∧ asgGs g d ρ = some ρ' ∧ ∀ σ', REnv A m H ρ' σ' → SameBut g.slots σ σ' → Q σ' H
theorem _root_.L2.PG.imp {t t' : TG} (h : PG X e t) (i : ∀ v σ H Q, t' v σ H Q → t v σ H Q) : PG X e t' := ⟨fun pins s σ H v u Q I r q => h.run pins s σ H v u Q I r (i v σ H Q q)⟩
theorem _root_.L2.PGs.imp {t t' : TGs} (h : PGs X es t) (i : ∀ v σ H Q, t' v σ H Q → t v σ H Q) : PGs X es t' := ⟨fun pins s σ H v u Q I r q => h.run pins s σ H v u Q I r (i v σ H Q q)⟩
theorem sg_nm {i : Nat} {x : Str} (hN : X.N.Nodup) (hi : X.N[i]? = some x) (hx : Loc X.env.scope x) (hf : X.fn x = true ∨ X.env.scope.names.lookup x = some .local) : PG X (.Name x pos) (tGo A (.nm i)) := (pg_name hN hi hx hf).imp fun v σ H Q ⟨m, ρ, S, d, ρ', rs, re, rv, e, q⟩ => by
  simp only [asgG] at e
  split at e
  · cases e
    exact q _ (re.set rv i) (SameBut.set .refl (by simp [G.slots]) _)
  · cases e
theorem sgs_nil : PGs X [] (tGos A .nil) := pgs_nil.imp fun v σ H Q ⟨m, ρ, S, d, ρ', rs, re, rv, e, q⟩ => by
  cases d with
  | nil =>
    cases e
    exact ⟨rv, q σ re .refl⟩
  | cons _ _ => cases e
theorem sgs_cons {g : G} {gs : Gs} (h1 : PG X e (tGo A g)) (h2 : PGs X es (tGos A gs)) (hs : (assignEach (e :: es) X.env).map (·.2) = assign e X.env :: (assignEach es X.env).map (·.2)) : PGs X (e :: es) (tGos A (.cons g gs)) := (pgs_cons h1 h2 hs).imp fun v σ H Q ⟨m, ρ, S, d, ρ', rs, re, rv, e, q⟩ => by
  cases d with
  | nil => cases e
  | cons x xs =>
    obtain ⟨u, us, rfl, r1, r2⟩ := rv
    simp only [asgGs] at e
    obtain ⟨ρ1, e1, e2⟩ := Option.bind_eq_some_iff.mp e
    refine ⟨u, us, rfl, m, ρ, S, x, ρ1, rs, re, r1, e1, fun σ1 re1 sb1 => ⟨m, ρ1, S, xs, ρ', rs, re1, r2, e2, fun σ2 re2 sb2 => q σ2 re2 ?_⟩⟩
    refine ⟨sb2.1.trans sb1.1, fun i hi => ?_⟩
    simp only [Gs.slots, List.mem_append, not_or] at hi
    exact (sb2.2 i hi.2).trans (sb1.2 i hi.1)
def Gs.len : Gs → Nat
  | .nil => 0
  | .cons _ gs => gs.len + 1
theorem asgGs_len : ∀ {gs : Gs} {ds : List D} {ρ ρ' : Env}, asgGs gs ds ρ = some ρ' → ds.length = gs.len
  | .nil, [], _, _, _ => rfl
  | .nil, _ :: _, _, _, h => by cases h
  | .cons _ _, [], _, _, h => by cases h
  | .cons g gs, x :: xs, ρ, ρ', h => by
    simp only [asgGs] at h
    obtain ⟨ρ1, _, e2⟩ := Option.bind_eq_some_iff.mp h
    rw [List.length_cons, asgGs_len e2]
    rfl
theorem sg_tup {k : Nat} {gs : Gs} (hK : A.K = X.K) (hc : X.calm = true) (h : PGs X es (tGos A gs)) (hn : (assignEach es X.env).length = gs.len) (hst : (assignEach es X.env).findIdx? (·.1) = none) : PG X (.Tuple es k pos) (tGo A (.tup gs)) := (pg_tup hc h hn hst).imp fun v σ H Q ⟨m, ρ, S, d, ρ', rs, re, rv, e, q⟩ => by
  cases d with
  | tup xs =>
    obtain ⟨a, vs, rfl, t, r⟩ := rv
    simp only [asgG] at e
    exact ⟨a, vs, rfl, hK ▸ t.sqt, by rw [r.length, asgGs_len e], m, ρ, S, xs, ρ', rs, re, r, e, q⟩
  | _ => cases e
/-! ### what is walked -/
/-- .. but some lists, which nobody knows, may change -/
structure ExtB (F : Addr → Prop) (m : List Addr) (H : Hp) (m' : List Addr) (H' : Hp) : Prop where
  get : ∀ (i : Nat) (p : Addr), m[i]? = some p → m'[i]? = some p
  keep : ∀ a o, H a = some o → a ∉ m → ¬ F a → H' a = some o
  out : ∀ a, H a ≠ none → a ∉ m → a ∉ m'
  frz : ∀ a od u, a ∈ m → H a = some (.frz od u) → H' a = some (.frz od u)
theorem Ext.toB {m m' : List Addr} {H H' : Hp} (x : Ext m H m' H') (F : Addr → Prop) : ExtB F m H m' H' := ⟨fun i p h => x.get h, fun a o h n _ => x.keep a o h n, fun a h n => by
  cases q : H a with
  | none => exact absurd q h
  | some o => exact x.out q n, x.frz⟩
theorem ExtB.step {F : Addr → Prop} {m m' m2 : List Addr} {H H' H2 : Hp} (b : ExtB F m H m' H') (x : Ext m' H' m2 H2) (hF : ∀ a, F a → H' a ≠ none) : ExtB F m H m2 H2 :=
  ⟨fun i p h => x.get (b.get i p h), fun a o h n f => x.keep a o (b.keep a o h n f) (b.out a (by rw [h]; simp) n), fun a h n => by
    have n' := b.out a h n
    cases q : H' a with
    | none =>
      by_cases f : F a
      · exact absurd q (hF a f)
      · cases q2 : H a with
        | none => exact absurd q2 h
        | some o => rw [b.keep a o q2 n f] at q; cases q
    | some o => exact x.out q n', fun a od u h e => (by
    obtain ⟨i, hi⟩ := List.getElem?_of_mem h
    exact x.frz a od u (List.mem_of_getElem? (b.get i a hi)) (b.frz a od u h e))⟩
theorem ExtB.touch {F : Addr → Prop} {m m' : List Addr} {H H' : Hp} (b : ExtB F m H m' H') {p : Addr} (o : HO) (f : F p) (hF : ∀ a, F a → ∃ xs, H a = some (.lst xs)) : ExtB F m H m' (upd H' p o) :=
  ⟨b.get, fun a ob h n nf => by rw [upd_ne (fun e : a = p => nf (by rw [e]; exact f))]; exact b.keep a ob h n nf, b.out, fun a od u h e => by rw [upd_ne (fun z : a = p => by obtain ⟨xs, q⟩ := hF p f; rw [← z, e] at q; cases q)]; exact b.frz a od u h e⟩
theorem ExtB.mon {F : Addr → Prop} {m m' : List Addr} {H H' : Hp} {S : Sto} (b : ExtB F m H m' H') (r : RS A m S H) (hF : ∀ a, F a → ∃ xs, H a = some (.lst xs)) : Mon m H m' H' :=
  ⟨b.get, fun a xs h => b.keep a _ h (r.notup (.inl h)) fun f => (by obtain ⟨ys, e⟩ := hF a f; rw [h] at e; cases e), fun a o xs h => b.keep a _ h (r.nofrz h) fun f => (by obtain ⟨ys, e⟩ := hF a f; rw [h] at e; cases e), fun a q n h => ⟨b.out a (by rw [h]; simp) n, b.keep a _ h n fun f => (by obtain ⟨ys, e⟩ := hF a f; rw [h] at e; unfold LamX.CodeO at e; cases e)⟩⟩
def rI (A : Ad) : Rel ItV L2.It := fun H0 m' H' v J => ∃ (G : Hp → Prop) (Y : Nat → Hp → V → Hp → Prop), Walk J v.items.length G Y ∧
  ∀ F : Addr → Prop, (∀ a, F a → H0 a ≠ none ∧ ∃ xs, H' a = some (.lst xs)) →
  (∀ m1 S1 H1, ExtB F m' H' m1 H1 → RS A m1 S1 H1 → v.stays S1 = true → G H1) ∧
  ∀ i H1 x H2 m1 S1 d, ExtB F m' H' m1 H1 → RS A m1 S1 H1 → v.items[i]? = some d → v.stays S1 = true → Y i H1 x H2 → Ext m1 H1 m1 H2 ∧ RS A m1 S1 H2 ∧ RV A m1 H2 d x
theorem anI : Anti (rI A) := fun m H m1 H1 m' H' v J x ⟨G, Y, w, h⟩ => ⟨G, Y, w, fun F hF => h F fun a f => ⟨fun e => (by
  obtain ⟨n, _⟩ := hF a f
  cases q : H a with
  | none => exact n q
  | some o =>
    by_cases hm : a ∈ m
    · exact x.there a hm e
    · rw [x.keep a o q hm] at e; cases e), (hF a f).2⟩⟩
abbrev SI (A : Ad) (W : WX) (X : Cx) (tg iter : Expr) (f : Env → Sto → R ItV) : Prop := PI X tg iter (tR A (rI A) W f)
theorem _root_.L2.PI.imp {t t' : TI} (h : PI X tg iter t) (i : ∀ σ H Q, t' σ H Q → t σ H Q) : PI X tg iter t' := ⟨fun pins s σ H Q I q => h.run pins s σ H Q I (i σ H Q q)⟩
theorem _root_.L2.PI.pick {t' : TI} (h : ∀ σ H Q, t' σ H Q → ∃ t, PI X tg iter t ∧ t σ H Q) : PI X tg iter t' := ⟨fun pins s σ H Q I q => let ⟨_, p, q'⟩ := h σ H Q q; p.run pins s σ H Q I q'⟩
/-- items that stand at a list's or tuple's places -/
theorem yat_ok {m' m1 : List Addr} {S1 : Sto} {H' H1 H2 : Hp} {ds : List D} {vs : List V} {i : Nat} {d : D} {x : V} (r : RVs A m' H' ds vs) (e : Mon m' H' m1 H1) (rs1 : RS A m1 S1 H1) (hd : ds[i]? = some d) (y : YAt vs i H1 x H2) :
    Ext m1 H1 m1 H2 ∧ RS A m1 S1 H2 ∧ RV A m1 H2 d x := by
  obtain ⟨rfl, hx⟩ := y
  obtain ⟨v, h1, h2⟩ := r.get hd
  rw [hx] at h1
  cases h1
  exact ⟨rs1.ext, rs1, h2.mon e⟩
theorem stays_one {S : Sto} {i : Nat} {xs : List D} : ItV.stays { items := xs, watch := [(i, xs)] } S = true ↔ lstAt S i = some xs := by simp [ItV.stays]
/-- a list of the store -/
theorem rI_list (hK : A.K = X.K) {m : List Addr} {S : Sto} {H H0 : Hp} {i : Nat} {a : Addr} {xs : List D} (rs : RS A m S H) (hi : m[i]? = some a) (e : lstAt S i = some xs) : rI A H0 m H { items := xs, watch := [(i, xs)] } (Itl X.K a) := by
  have live : ∀ {m1 S1 H1}, Mon m H m1 H1 → RS A m1 S1 H1 → ItV.stays { items := xs, watch := [(i, xs)] } S1 = true → ∃ us, SqL X.K H1 a us ∧ RVs A m1 H1 xs us := fun {m1 S1 H1} x1 rs1 st => by
    rw [stays_one] at st
    obtain ⟨us, q1, q2⟩ := lstAt_ok rs1 (x1.get _ _ hi) st
    exact ⟨us, .of q1, q2⟩
  refine ⟨fun H => ∃ us, SqL X.K H a us ∧ us.length = xs.length, fun i H x H' => H' = H ∧ ∀ us, SqL X.K H a us → us[i]? = some x, ⟨fun i H hi ⟨us, q, l⟩ => ⟨us, us[i]'(by rw [l]; exact hi), q, by simp [l, hi]⟩, fun H ⟨us, q, l⟩ => ⟨us, q, Nat.le_of_eq l⟩, fun i H x H' _ _ y => y⟩, fun F hF => ⟨fun m1 S1 H1 x1 rs1 st => ?_, fun j H1 x H2 m1 S1 d x1 rs1 hd st y => ?_⟩⟩
  · obtain ⟨us, q1, q2⟩ := live (x1.mon rs fun a f => (hF a f).2) rs1 st
    exact ⟨us, q1, q2.length⟩
  · obtain ⟨us, q1, q2⟩ := live (x1.mon rs fun a f => (hF a f).2) rs1 st
    obtain ⟨rfl, y⟩ := y
    obtain ⟨v, h1, h2⟩ := q2.get hd
    rw [y us q1] at h1
    cases h1
    exact ⟨rs1.ext, rs1, h2⟩
theorem stays_nil {S : Sto} {xs : List D} : ItV.stays { items := xs } S = true := rfl
/-- a tuple -/
theorem rI_tup (hK : A.K = X.K) {m : List Addr} {S : Sto} {H H0 : Hp} {a : Addr} {xs : List D} {vs : List V} (rs : RS A m S H) (t : TupAt A H a vs) (r : RVs A m H xs vs) : rI A H0 m H { items := xs } (Itt X.K a) := by
  refine ⟨_, _, by have := walk_tup (K := X.K) (a := a) (xs := vs); rw [r.length] at this; exact this, fun F hF => ⟨fun m1 S1 H1 x1 rs1 _ => hK ▸ ((x1.mon rs fun a f => (hF a f).2).tupAt t).sqt, fun j H1 x H2 m1 S1 d x1 rs1 hd _ y => yat_ok r (x1.mon rs fun a f => (hF a f).2) rs1 hd y⟩⟩
/-- a list that nobody changes -/
theorem rI_fix (hK : A.K = X.K) {m : List Addr} {S : Sto} {H H0 : Hp} {a : Addr} {xs : List D} {vs : List V} (rs : RS A m S H) (t : ∀ m1 H1, Mon m H m1 H1 → SqL X.K H1 a vs) (r : RVs A m H xs vs) : rI A H0 m H { items := xs } (Itl X.K a) := by
  refine ⟨_, _, by have := walk_list (K := X.K) (a := a) (xs := vs); rw [r.length] at this; exact this, fun F hF => ⟨fun m1 S1 H1 x1 rs1 _ => t m1 H1 (x1.mon rs fun a f => (hF a f).2), fun j H1 x H2 m1 S1 d x1 rs1 hd _ y => yat_ok r (x1.mon rs fun a f => (hF a f).2) rs1 hd y⟩⟩
theorem rI_str {m : List Addr} {S : Sto} {H H0 : Hp} {t : List Nat} (rs : RS A m S H) : rI A H0 m H { items := t.map fun c => .str [c] } (Its (S' t)) := by
  refine ⟨_, _, by have := walk_str (z := S' t); simpa using this, fun F hF => ⟨fun m1 S1 H1 x1 rs1 _ => trivial, fun j H1 x H2 m1 S1 d x1 rs1 hd _ y => ?_⟩⟩
  obtain ⟨rfl, c, h1, rfl⟩ := y
  refine ⟨rs1.ext, rs1, ?_⟩
  rw [List.getElem?_map] at hd
  have : t[j]? = some c := by rw [← h1]
  rw [this] at hd
  cases hd
  rfl
theorem rngD_get {lo c : Int} {n i : Nat} {d : D} (h : (rngD lo n c)[i]? = some d) : d = .int (lo + (i : Int) * c) := by
  unfold rngD at h
  rw [List.getElem?_map] at h
  obtain ⟨k, h1, h2⟩ := Option.map_eq_some_iff.mp h
  rw [List.getElem?_range (by
    have := (List.getElem?_eq_some_iff.mp h1).1
    simpa using this)] at h1
  cases h1
  exact h2.symm
theorem rngD_len {lo c : Int} {n : Nat} : (rngD lo n c).length = n := by simp [rngD]
theorem rI_rng {m : List Addr} {S : Sto} {H H0 : Hp} {lo : Int} {n : Nat} (rs : RS A m S H) : rI A H0 m H { items := rngD lo n 1 } (Itr lo n) := by
  refine ⟨_, _, by have := walk_range (lo := lo) (n := n); simpa [rngD_len] using this, fun F hF => ⟨fun m1 S1 H1 x1 rs1 _ => trivial, fun j H1 x H2 m1 S1 d x1 rs1 hd _ y => ?_⟩⟩
  obtain ⟨rfl, rfl⟩ := y
  have := rngD_get hd
  subst this
  refine ⟨rs1.ext, rs1, ?_⟩
  show V.int _ = V.int _
  rw [Int.mul_one]
theorem rI_rngC {m : List Addr} {S : Sto} {H H0 : Hp} {lo c : Int} {n : Nat} (rs : RS A m S H) : rI A H0 m H { items := rngD lo n c } (Itc lo c n) := by
  refine ⟨_, _, by have := walk_rangeC (lo := lo) (c := c) (n := n); simpa [rngD_len] using this, fun F hF => ⟨fun m1 S1 H1 x1 rs1 _ => trivial, fun j H1 x H2 m1 S1 d x1 rs1 hd _ y => ?_⟩⟩
  obtain ⟨rfl, rfl⟩ := y
  have := rngD_get hd
  subst this
  exact ⟨rs1.ext, rs1, rfl⟩
/-- for x in e -/
theorem si_ofE (hK : A.K = X.K) (h : SE A W X e fe) : SI A W X tg e (fun ρ S => (fe ρ S).bind fun x S1 => match x with
    | .tup xs => .ok { items := xs } S1
    | .scr xs => .ok { items := xs.map .int } S1
    | .str t => .ok { items := t.map fun c => .str [c] } S1
    | .ob i => match lstAt S1 i with
      | some xs => .ok { items := xs, watch := [(i, xs)] } S1
      | none => .stuck
    | _ => .stuck) := by
  refine PI.pick fun σ H Q ⟨m, ρ, S, rs, re, p⟩ => ?_
  dsimp only at p
  cases hf : fe ρ S with
  | stuck => rw [hf] at p; exact p.elim
  | exc c fs S1 =>
    refine ⟨_, pi_str h, m, ρ, S, rs, re, ?_⟩
    rw [hf] at p ⊢
    exact p
  | ok x S1 =>
    cases x with
    | tup xs =>
      refine ⟨_, pi_tup h, m, ρ, S, rs, re, p.bind' anI fun d S1 m1 H1 v eq x1 rs1 rv1 p1 => ?_⟩
      rw [hf] at eq
      cases eq
      obtain ⟨a, vs, rfl, t, r⟩ := rv1
      exact ⟨a, rfl, ⟨vs, hK ▸ t.sqt⟩, p1.now rs1 (rI_tup hK rs1 t r)⟩
    | scr ns =>
      refine ⟨_, pi_list h, m, ρ, S, rs, re, p.bind' anI fun d S1 m1 H1 v eq x1 rs1 rv1 p1 => ?_⟩
      rw [hf] at eq
      cases eq
      obtain ⟨a, rfl, t⟩ := rv1
      exact ⟨a, rfl, ⟨_, hK ▸ t.sql⟩, p1.now rs1 (rI_fix hK rs1 (fun m1 H1 x1 => hK ▸ (x1.scr t).sql) (RVs.ints ns))⟩
    | ob i =>
      refine ⟨_, pi_list h, m, ρ, S, rs, re, p.bind' anI fun d S1 m1 H1 v eq x1 rs1 rv1 p1 => ?_⟩
      rw [hf] at eq
      cases eq
      obtain ⟨a, hi, rfl⟩ := rv1
      dsimp only at p1
      split at p1
      · rename_i xs el
        obtain ⟨vs, h1, h2⟩ := lstAt_ok rs1 hi el
        exact ⟨a, rfl, ⟨vs, .of h1⟩, p1.now rs1 (rI_list hK rs1 hi el)⟩
      · exact p1.elim
    | str t =>
      refine ⟨_, pi_str h, m, ρ, S, rs, re, p.bind' anI fun d S1 m1 H1 v eq x1 rs1 rv1 p1 => ?_⟩
      rw [hf] at eq
      cases eq
      exact ⟨S' t, rv1, p1.now rs1 (rI_str rs1)⟩
    | non => rw [hf] at p; exact p.elim
    | bl _ => rw [hf] at p; exact p.elim
    | int _ => rw [hf] at p; exact p.elim
    | fn _ => rw [hf] at p; exact p.elim
theorem si_ofL (h : SL A W X e fl) : SI A W X tg e (fun ρ S => (fl ρ S).bind fun xs S1 => .ok { items := xs } S1) := (pi_list h).imp fun σ H Q ⟨m, ρ, S, rs, re, p⟩ => by
  refine ⟨m, ρ, S, rs, re, p.bind0 fun ds S1 m1 H1 v x1 rs1 rv1 p1 => ?_⟩
  obtain ⟨a, vs, rfl, h1, h3, h4, h2⟩ := rv1
  refine ⟨a, rfl, ⟨vs, .of h1⟩, p1 m1 H1 _ x1 rs1 ?_⟩
  refine ⟨_, _, by have := walk_list (K := X.K) (a := a) (xs := vs); rw [h2.length] at this; exact this, fun F hF => ⟨fun m2 S2 H2 x2 rs2 _ => SqL.of (x2.keep _ _ h1 h4 fun f => (hF a f).1 h3), fun j H2 x H3 m2 S2 d x2 rs2 hd _ y => yat_ok h2 (x2.mon rs1 fun a f => (hF a f).2) rs2 hd y⟩⟩
theorem small_ok {i : Int} (h : small i = true) : -(2 ^ 62) ≤ i ∧ i < 2 ^ 62 := by
  unfold small at h
  rw [decide_eq_true_eq] at h
  have e : (2 : Int) ^ 62 = 4611686018427387904 := by decide +kernel
  rw [e]
  omega
theorem si_rng1 (hg : Gl X "range") (hm : X.mg "range" = none) (ha : SE A W X a fa) (hs : starEach [a] X.env = [(false, eval a X.env)]) : SI A W X tg (.Call (.Name "range" p) [a] [] pos) (fun ρ S => (fa ρ S).bind fun x S1 => match x with
    | .int j => if small j then .ok { items := rngD 0 j.toNat 1 } S1 else .stuck
    | _ => .stuck) := (pi_range1 hg hm (pa_cons ha pa_nil hs) hs).imp fun σ H Q ⟨m, ρ, S, rs, re, p⟩ => by
  refine ⟨m, ρ, S, rs, re, p.bind anI fun d S1 m1 H1 v x1 rs1 rv1 p1 => ?_⟩
  cases d with
  | int j =>
    dsimp only at p1
    split at p1
    · rename_i hj
      obtain ⟨h1, h2⟩ := small_ok hj
      exact ⟨j, by rw [show v = V.int j from rv1], h1, h2, p1.now rs1 (rI_rng rs1)⟩
    · exact p1.elim
  | _ => exact p1.elim
theorem si_rng2 (hg : Gl X "range") (hm : X.mg "range" = none) (ha : SE A W X a fa) (hb : SE A W X b fb) (hs : starEach [a, b] X.env = [(false, eval a X.env), (false, eval b X.env)]) (hs2 : starEach [b] X.env = [(false, eval b X.env)]) : SI A W X tg (.Call (.Name "range" p) [a, b] [] pos) (fun ρ S => (fa ρ S).bind fun x S1 => (fb ρ S1).bind fun y S2 => match x, y with
    | .int i, .int j => if small i && small j then .ok { items := rngD i (j - i).toNat 1 } S2 else .stuck
    | _, _ => .stuck) := (pi_range2 hg hm (pa_cons ha (pa_cons hb pa_nil hs2) (by rw [hs, hs2])) hs hs2).imp fun σ H Q ⟨m, ρ, S, rs, re, p⟩ => by
  refine ⟨m, ρ, S, rs, re, p.bind anI fun d S1 m1 H1 v x1 rs1 rv1 p1 => ?_⟩
  refine ⟨m1, ρ, S1, rs1, re.mono rs x1, p1.bind anI fun e S2 m2 H2 u x2 rs2 rv2 p2 => ?_⟩
  cases d with
  | int i =>
    cases e with
    | int j =>
      dsimp only at p2
      split at p2
      · rename_i hj
        rw [Bool.and_eq_true] at hj
        obtain ⟨h1, h2⟩ := small_ok hj.1
        obtain ⟨h3, h4⟩ := small_ok hj.2
        exact ⟨i, j, by rw [show v = V.int i from rv1, show u = V.int j from rv2], ⟨h1, h2, h3, h4⟩, p2.now rs2 (rI_rng rs2)⟩
      · exact p2.elim
    | _ => exact p2.elim
  | _ => exact p2.elim

/-! ### comprehensions -/
theorem R.calm_bind {α β : Type} (r : R α) (f : α → Sto → R β) : (r.bind f).calm = r.calm.bind fun a S => (f a S).calm := by cases r <;> rfl
section
variable {α β γ δ : Type} {rel : Rel α β} {rel2 : Rel γ δ} {E E' : XK} {m m0 : List Addr} {H H0 : Hp} {r : R α}
/-- from within a comprehension -/
theorem Post.bindC {f : α → Sto → R γ} {R' : β → Hp → Prop} {Q2 : δ → Hp → Prop} (p : Post A rel2 E m0 H0 (r.calm.bind f) Q2)
    (k : ∀ a S1 m1 H1 b, r = .ok a S1 → Ext m H m1 H1 → RS A m1 S1 H1 → rel H m1 H1 a b → Post A rel2 E m0 H0 (f a S1) Q2 → R' b H1) : Post A rel E' m H r R' := by
  cases r with
  | stuck => exact p
  | ok a S' => exact fun m' H' b e rs rl => k a S' m' H' b rfl e rs rl p
  | exc c fs S' => exact p.elim
end
/-- no exception -/
def WF : WX := fun _ _ _ _ => False
theorem st_nil : PTs X [] (tR A rB W fun _ S => .ok true S) := ⟨fun pins s σ H Q I ⟨m, ρ, S, rs, re, p⟩ => pts_nil.run pins s σ H Q I (p.now rs rfl)⟩
theorem st_one (h : SB A W X e (tru fe)) : PTs X [e] (tR A rB W fun ρ S => (fe ρ S).bind fun x S1 => (ofOpt (truD S1 x) S1).bind fun b S1 => if b then .ok true S1 else .ok false S1) := ⟨fun pins s σ H Q I ⟨m, ρ, S, rs, re, p⟩ => (pts_one h).run pins s σ H Q I ⟨m, ρ, S, rs, re, by
  have e1 : ((fe ρ S).bind fun x S1 => (ofOpt (truD S1 x) S1).bind fun b S1 => if b then .ok true S1 else .ok false S1) = tru fe ρ S := by
    simp only [tru]
    cases fe ρ S with
    | ok x S1 =>
      simp only [R.bind_ok]
      cases truD S1 x with
      | none => rfl
      | some b => cases b <;> rfl
    | stuck => rfl
    | exc c fs S => rfl
  dsimp only at p
  rw [e1] at p
  exact p⟩⟩
/-- a turn -/
def turn1 (g : G) (own : List Nat) (fT : Env → Sto → R Bool) (fE : Env → Sto → R D) (ρ : Env) (x : D) (S : Sto) : R (List D) := match asgG g x (wipeE ρ own) with
  | none => .stuck
  | some ρ1 => (fT ρ1 S).bind fun b S1 => if b then (fE ρ1 S1).bind fun y S2 => .ok [y] S2 else .ok [] S1
theorem lc_read {own : List (Str × Nat)} {g : G} {fit : Env → Sto → R ItV} {fT : Env → Sto → R Bool} {fE : Env → Sto → R D} (hsub : ∀ i ∈ g.slots, i ∈ own.map (·.2)) {σ : L2.St} {H : Hp} {Q : V → Hp → Prop}
    (h : tR A (rL A) W (fun ρ S => (fit ρ S).bind fun v S1 => compR v.items v (turn1 g (own.map (·.2)) fT fE ρ) [] S1) σ H Q) : tLc (tR A (rI A) W fit) (tGo A g) (tR A rB WF fT) (tR A (rE A) WF fE) (own.map (·.2)) σ H Q := by
  obtain ⟨m, ρ, S, rs, re, p⟩ := h
  refine ⟨m, ρ, S, rs, re, p.bind0 fun v S1 m1 H1 J x1 rs1 ⟨G0, Y, wk, hI0⟩ p1 => fun D hD => ?_⟩
  generalize hvs : own.map (·.2) = vs at *
  refine lc_it wk (fun i H' => ∃ m' S' acc accV, Ext m1 H1 m' H' ∧ RS A m' S' H' ∧ H' D = some (.lst accV) ∧ D ∉ m' ∧ RVs A m' H' acc accV ∧ Post A (rL A) (fun c d H' => W c d σ H') m H (compR (v.items.drop i) v (turn1 g vs fT fE ρ) acc S') Q) ?_ ?_ ?_ ?_
  · obtain ⟨x2, rs2⟩ := rs1.lay (.lst []) hD
    exact ⟨m1, S1, [], [], x2, rs2, upd_same, fun z => rs1.there D z hD, rfl, p1⟩
  · rintro i H' hi ⟨m', S', acc, accV, x2, rs2, hl, nD, ra, p2⟩
    refine (hI0 (fun _ => False) fun _ f => f.elim).1 m' S' H' (x2.toB _) rs2 ?_
    cases hd : v.items.drop i with
    | nil =>
      rw [hd] at p2
      simp only [compR] at p2
      split at p2
      · assumption
      · exact p2.elim
    | cons d r =>
      rw [hd] at p2
      simp only [compR] at p2
      split at p2
      · assumption
      · exact p2.elim
  · rintro i x H' H2 hi ⟨m', S', acc, accV, x2, rs2, hl, nD, ra, p2⟩ hy
    have hd : v.items.drop i = v.items[i] :: v.items.drop (i + 1) := List.drop_eq_getElem_cons hi
    rw [hd] at p2
    simp only [compR] at p2
    split at p2
    · rename_i st
      obtain ⟨x3, rs3, rx⟩ := (hI0 (fun _ => False) fun _ f => f.elim).2 i H' x H2 m' S' v.items[i] (x2.toB _) rs2 (List.getElem?_eq_getElem hi) st hy
      unfold turn1 at p2
      split at p2
      · exact p2.elim
      · rename_i ρ1 hρ
        refine ⟨m', wipeE ρ vs, S', v.items[i], ρ1, rs3, ((((re.mono rs x1).mono rs1 x2).mono rs2 x3).wipe vs), rx, hρ, fun σ' re' sb => ⟨?_, m', ρ1, S', rs3, re', ?_⟩⟩
        · rw [sb.wipe hsub, wipe_wipe]
        · have hl2 : H2 D = some (.lst accV) := x3.keep _ _ hl nD
          rw [R.calm_bind, R.bind_assoc] at p2
          refine p2.bindC fun b S4 m4 H4 b' eq x4 rs4 rb p4 => ?_
          obtain rfl : b' = b := rb
          have nD4 : D ∉ m4 := x4.out hl2 nD
          have hl4 : H4 D = some (.lst accV) := x4.keep _ _ hl2 nD
          have xx : Ext m1 H1 m4 H4 := (x2.trans x3).trans x4
          cases b' with
          | false =>
            simp only [Bool.false_eq_true, if_false, R.calm_ok, R.bind_ok, List.append_nil] at p4 ⊢
            split at p4
            · exact ⟨m4, S4, acc, accV, xx, rs4, hl4, nD4, RVs.mono rs3 x4 (RVs.mono rs2 x3 ra), p4⟩
            · exact p4.elim
          | true =>
            simp only [if_true] at p4 ⊢
            refine ⟨m4, ρ1, S4, rs4, re'.mono rs3 x4, ?_⟩
            rw [R.calm_bind, R.bind_assoc] at p4
            refine p4.bindC fun y S5 m5 H5 u eq5 x5 rs5 ru p5 => ?_
            simp only [R.calm_ok, R.bind_ok] at p5
            split at p5
            · rename_i hlen
              have hl5 : H5 D = some (.lst accV) := x5.keep _ _ hl4 nD4
              have nD5 : D ∉ m5 := x5.out hl4 nD4
              have ra5 : RVs A m5 H5 acc accV := RVs.mono rs4 x5 (RVs.mono rs3 x4 (RVs.mono rs2 x3 ra))
              refine ⟨accV, hl5, ?_, ?_⟩
              · have := ra5.length
                simp only [List.length_append, List.length_cons, List.length_nil] at hlen
                have := line10
                omega
              · obtain ⟨mo, rs6⟩ := rs5.touch (.lst (accV ++ [u])) hl5 nD5
                exact ⟨m5, S5, acc ++ [y], accV ++ [u], (xx.trans x5).touch _ hD (fun z => rs1.there D z hD), rs6, upd_same, nD5, (ra5.mon mo).append (RVs.one (ru.mon mo)), p5⟩
            · exact p5.elim
    · exact p2.elim
  · rintro H' ⟨m', S', acc, accV, x2, rs2, hl, nD, ra, p2⟩
    rw [List.drop_length] at p2
    simp only [compR] at p2
    split at p2
    · refine p2 m' H' (.ref D) (x1.trans x2) rs2 ⟨D, accV, rfl, hl, ?_, nD, ra⟩
      cases q : H D with
      | none => rfl
      | some o =>
        by_cases hm : D ∈ m
        · exact absurd hD (x1.there D hm)
        · rw [x1.keep D o q hm] at hD
          cases hD
    · exact p2.elim
theorem sl_comp {elt : Expr} {ifs : List Expr} {scope : Scope} {own : List (Str × Nat)} {g : G} {fit : Env → Sto → R ItV} {fT : Env → Sto → R Bool} {fE : Env → Sto → R D} (hc : X.calm = true) (hN : X.N.Nodup) (hi : SI A W X tg iter fit) (ok : BlkOk X.N X.env.scope scope own)
    (hg : ∀ (s : Shared) (H : Hp) (C : Addr) (cl : List (Str × Addr)) (fp : List Addr), PG (X.blk s H scope (compEnvC scope cl C X.env) fp) tg (tGo A g))
    (ht : ∀ (s : Shared) (H : Hp) (C : Addr) (cl : List (Str × Addr)) (fp : List Addr), PTs (X.blk s H scope (compEnvC scope cl C X.env) fp) ifs (tR A rB WF fT))
    (he : ∀ (s : Shared) (H : Hp) (C : Addr) (cl : List (Str × Addr)) (fp : List Addr), SE A WF (X.blk s H scope (compEnvC scope cl C X.env) fp) elt fE)
    (hs : ∀ x, foldedSetIterable iter X.env x = pure x) (hsub : ∀ i ∈ g.slots, i ∈ own.map (·.2)) :
    SL A W X (.ListComp elt [⟨tg, iter, ifs, 0⟩] scope pos) (fun ρ S => (fit ρ S).bind fun v S1 => compR v.items v (turn1 g (own.map (·.2)) fT fE ρ) [] S1) := (pe_lc hc hN hi ok hg ht he hs).imp fun σ H Q h => lc_read hsub h
end
end PL

set_option Elab.async false
set_option linter.all false
set_option maxRecDepth 100000
set_option maxHeartbeats 1000000
/-! PL8: comprehensions of two clauses. -/
namespace PL
open PySem PySem.Spec PyProof.Rows L2
theorem R.calm_calm {α : Type} (r : R α) : r.calm.calm = r.calm := by cases r <;> rfl
theorem turn1_some {g : G} {own : List Nat} {fT : Env → Sto → R Bool} {fE : Env → Sto → R D} {ρ ρ1 : Env} {x : D} (S : Sto) (h : asgG g x (wipeE ρ own) = some ρ1) : turn1 g own fT fE ρ x S = (fT ρ1 S).bind fun b S1 => if b then (fE ρ1 S1).bind fun d S2 => .ok [d] S2 else .ok [] S1 := by
  unfold turn1
  rw [h]
theorem turn1_none {g : G} {own : List Nat} {fT : Env → Sto → R Bool} {fE : Env → Sto → R D} {ρ : Env} {x : D} (S : Sto) (h : asgG g x (wipeE ρ own) = none) : turn1 g own fT fE ρ x S = .stuck := by
  unfold turn1
  rw [h]
theorem gen_it {J : L2.It} {n : Nat} {G : Hp → Prop} {Y : Nat → Hp → V → Hp → Prop} (w : Walk J n G Y) {Step : V → Hp → (Hp → Prop) → Prop} {Done : Hp → Prop} {H0 : Hp} (Pv : Nat → Hp → Prop) (h0 : Pv 0 H0) (hG : ∀ i H, i ≤ n → Pv i H → G H)
    (hs : ∀ i x H H', i < n → Pv i H → Y i H x H' → Step x H' (Pv (i + 1))) (hd : ∀ H, Pv n H → Done H) :
    ∃ W : Nat → Nat → Hp → Prop, (∃ m, W 0 m H0) ∧ ∀ i m H, W i m H → (J.stop i H ∧ Done H) ∨ (J.go i H ∧ ∃ Nx : Hp → Prop, (∀ H', Nx H' → ∃ m', m' < m ∧ W (i + 1) m' H') ∧ ∀ x H', J.yld i H x H' → Step x H' Nx) := by
  refine ⟨fun i m H => m = n - i ∧ i ≤ n ∧ Pv i H, ⟨n, rfl, Nat.zero_le _, h0⟩, ?_⟩
  rintro i m H ⟨rfl, hi, pv⟩
  have g := hG i H hi pv
  rcases Nat.lt_or_eq_of_le hi with lt | rfl
  · exact .inr ⟨w.goes i H lt g, Pv (i + 1), fun H' q => ⟨n - (i + 1), by omega, rfl, lt, q⟩, fun x H' y => hs i x H H' lt pv (w.yields i H x H' lt g y)⟩
  · exact .inl ⟨w.stops H g, hd H pv⟩
section
variable {A : Ad} {W : WX} {X : Cx} {e a b c o tg iter tg1 iter1 : Expr} {es : List Expr} {pos p apos cpos : Pos} {fe fa fb fc fo : Env → Sto → R D} {fes fl : Env → Sto → R (List D)}
/-- a turn of the outer clause -/
def turn2 (g : G) (own own1 : List Nat) (g1 : G) (fit1 : Env → Sto → R ItV) (fT : Env → Sto → R Bool) (fE : Env → Sto → R D) (ρ : Env) (x : D) (S : Sto) : R (List D) := match asgG g x (wipeE ρ own) with
  | none => .stuck
  | some ρ1 => (fit1 ρ1 S).bind fun v1 S1 => compR v1.items v1 (turn1 g1 own1 fT fE ρ1) [] S1
theorem compR_stays {xs : List D} {v : ItV} {turn : D → Sto → R (List D)} {acc : List D} {S : Sto} (h : compR xs v turn acc S ≠ .stuck) : v.stays S = true := by
  cases xs with
  | nil =>
    simp only [compR] at h
    split at h
    · assumption
    · exact absurd rfl h
  | cons d r =>
    simp only [compR] at h
    split at h
    · assumption
    · exact absurd rfl h
theorem lc2_read {own : List (Str × Nat)} {own1 : List Nat} {g g1 : G} {fit fit1 : Env → Sto → R ItV} {fT : Env → Sto → R Bool} {fE : Env → Sto → R D} (hsub : ∀ i ∈ g.slots, i ∈ own.map (·.2)) (hsub1 : ∀ i ∈ g1.slots, i ∈ own1) {σ : L2.St} {H : Hp} {Q : V → Hp → Prop}
    (h : tR A (rL A) W (fun ρ S => (fit ρ S).bind fun v S1 => compR v.items v (turn2 g (own.map (·.2)) own1 g1 fit1 fT fE ρ) [] S1) σ H Q) : tLc2 (tR A (rI A) W fit) (tGo A g) tYes (tR A (rI A) WF fit1) (tGo A g1) (tR A rB WF fT) (tR A (rE A) WF fE) (own.map (·.2)) own1 σ H Q := by
  obtain ⟨m, ρ, S, rs, re, p⟩ := h
  refine ⟨m, ρ, S, rs, re, p.bind0 fun v S1 m1 H1 J x1 rs1 ⟨G0, Y, wk, hI0⟩ p1 => fun D hD => ?_⟩
  generalize hvs : own.map (·.2) = vs at *
  have nD1 : D ∉ m1 := fun z => rs1.there D z hD
  refine gen_it wk (fun i H' => ∃ m' S' acc accV, Ext m1 H1 m' H' ∧ RS A m' S' H' ∧ H' D = some (.lst accV) ∧ D ∉ m' ∧ RVs A m' H' acc accV ∧ acc.length ≤ 4000000 ∧ Post A (rL A) (fun c d H' => W c d σ H') m H (compR (v.items.drop i) v (turn2 g vs own1 g1 fit1 fT fE ρ) acc S') Q) ?_ ?_ ?_ ?_
  · obtain ⟨x2, rs2⟩ := rs1.lay (.lst []) hD
    exact ⟨m1, S1, [], [], x2, rs2, upd_same, nD1, rfl, by simp, p1⟩
  · rintro i H' hi ⟨m', S', acc, accV, x2, rs2, hl, nD, ra, ha, p2⟩
    exact (hI0 (fun _ => False) fun _ f => f.elim).1 m' S' H' (x2.toB _) rs2 (compR_stays fun z => by rw [z] at p2; exact p2)
  · rintro i x H' H2 hi ⟨m', S', acc, accV, x2, rs2, hl, nD, ra, ha, p2⟩ hy
    have hd : v.items.drop i = v.items[i] :: v.items.drop (i + 1) := List.drop_eq_getElem_cons hi
    have st : v.stays S' = true := compR_stays fun z => by rw [z] at p2; exact p2
    rw [hd] at p2
    simp only [compR, st, if_true] at p2
    obtain ⟨x3, rs3, rx⟩ := (hI0 (fun _ => False) fun _ f => f.elim).2 i H' x H2 m' S' v.items[i] (x2.toB _) rs2 (List.getElem?_eq_getElem hi) st hy
    unfold turn2 at p2
    split at p2
    · exact p2.elim
    · rename_i ρ1 hρ
      refine ⟨m', wipeE ρ vs, S', v.items[i], ρ1, rs3, ((((re.mono rs x1).mono rs1 x2).mono rs2 x3).wipe vs), rx, hρ, fun σ' re' sb => ⟨?_, ?_⟩⟩
      · rw [sb.wipe hsub, wipe_wipe]
      show tR A (rI A) WF fit1 σ' H2 _
      refine ⟨m', ρ1, S', rs3, re', ?_⟩
      rw [R.calm_bind, R.bind_assoc] at p2
      have hl2 : H2 D = some (.lst accV) := x3.keep _ _ hl nD
      refine p2.bindC fun v1 S4 m4 H4 J1 eq x4 rs4 ⟨G1, Y1, wk1, hI1⟩ p4 => ?_
      have nD4 : D ∉ m4 := x4.out hl2 nD
      have xx4 : Ext m1 H1 m4 H4 := (x2.trans x3).trans x4
      have ra4 : RVs A m4 H4 acc accV := RVs.mono rs3 x4 (RVs.mono rs2 x3 ra)
      have hl4 : H4 D = some (.lst accV) := x4.keep _ _ hl2 nD
      -- the inner loop
      have hI := hI1 (fun a => a = D) fun a f => by subst f; exact ⟨by rw [hl2]; simp, _, hl4⟩
      refine gen_it wk1 (fun j H' => ∃ m' S' iacc accV, ExtB (fun a => a = D) m4 H4 m' H' ∧ Ext m1 H1 m' H' ∧ RS A m' S' H' ∧ H' D = some (.lst accV) ∧ D ∉ m' ∧ RVs A m' H' (acc ++ iacc) accV ∧ iacc.length ≤ 4000000 ∧ REnv A m' H' ρ1 σ' ∧
        Post A (rL A) (fun c d H' => W c d σ H') m H (((compR (v1.items.drop j) v1 (turn1 g1 own1 fT fE ρ1) iacc S').calm).bind fun ys S1 => if (acc ++ ys).length ≤ 4000000 then compR (v.items.drop (i + 1)) v (turn2 g vs own1 g1 fit1 fT fE ρ) (acc ++ ys) S1 else .stuck) Q) ?_ ?_ ?_ ?_
      · exact ⟨m4, S4, [], accV, rs4.ext.toB _, xx4, rs4, hl4, nD4, by rw [List.append_nil]; exact ra4, by simp, re'.mono rs3 x4, p4⟩
      · rintro j H6 hj ⟨m6, S6, iacc, accV6, xb, x6, rs6, hl6, nD6, ra6, hi6, re6, p6⟩
        exact hI.1 m6 S6 H6 xb rs6 (compR_stays fun z => by rw [z] at p6; exact p6)
      · rintro j x7 H6 H7 hj ⟨m6, S6, iacc, accV6, xb, x6, rs6, hl6, nD6, ra6, hi6, re6, p6⟩ hy7
        have hd1 : v1.items.drop j = v1.items[j] :: v1.items.drop (j + 1) := List.drop_eq_getElem_cons hj
        have st1 : v1.stays S6 = true := compR_stays fun z => by rw [z] at p6; exact p6
        rw [hd1] at p6
        simp only [compR, st1, if_true] at p6
        obtain ⟨x7', rs7, rx7⟩ := hI.2 j H6 x7 H7 m6 S6 v1.items[j] xb rs6 (List.getElem?_eq_getElem hj) st1 hy7
        cases hρ2 : asgG g1 v1.items[j] (wipeE ρ1 own1) with
        | none =>
          rw [turn1_none S6 hρ2] at p6
          exact p6.elim
        | some ρ2 =>
          rw [turn1_some S6 hρ2] at p6
          refine ⟨m6, wipeE ρ1 own1, S6, v1.items[j], ρ2, rs7, (re6.mono rs6 x7').wipe own1, rx7, hρ2, fun σ2 re2 sb2 => ⟨?_, m6, ρ2, S6, rs7, re2, ?_⟩⟩
          · rw [sb2.wipe hsub1, wipe_wipe]
          simp only [R.calm_bind, R.bind_assoc, R.calm_calm] at p6
          have hl7 : H7 D = some (.lst accV6) := x7'.keep _ _ hl6 nD6
          refine p6.bindC fun b S8 m8 H8 b' eq8 x8 rs8 rb p8 => ?_
          obtain rfl : b' = b := rb
          have nD8 : D ∉ m8 := x8.out hl7 nD6
          have hl8 : H8 D = some (.lst accV6) := x8.keep _ _ hl7 nD6
          have hFD : ∀ {K : Hp} {l : List V}, K D = some (.lst l) → ∀ a, a = D → K a ≠ none := fun h a e => by subst e; rw [h]; simp
          have xb8 : ExtB (fun a => a = D) m4 H4 m8 H8 := (xb.step x7' (hFD hl6)).step x8 (hFD hl7)
          have re8 : REnv A m8 H8 ρ1 σ' := (re6.mono rs6 x7').mono rs7 x8
          have ra8 : RVs A m8 H8 (acc ++ iacc) accV6 := RVs.mono rs7 x8 (RVs.mono rs6 x7' ra6)
          have xx8 : Ext m1 H1 m8 H8 := (x6.trans x7').trans x8
          cases b' with
          | false =>
            simp only [Bool.false_eq_true, if_false, R.calm_ok, R.bind_ok, List.append_nil] at p8 ⊢
            simp only [if_pos hi6] at p8
            exact ⟨m8, S8, iacc, accV6, xb8, xx8, rs8, hl8, nD8, ra8, hi6, re8, p8⟩
          | true =>
            simp only [if_true] at p8 ⊢
            refine ⟨m8, ρ2, S8, rs8, re2.mono rs7 x8, ?_⟩
            simp only [if_true, R.calm_bind, R.bind_assoc, R.calm_calm] at p8
            refine p8.bindC fun y S9 m9 H9 u eq9 x9 rs9 ru p9 => ?_
            simp only [R.calm_ok, R.bind_ok] at p9
            by_cases hlen : (iacc ++ [y]).length ≤ 4000000
            · rw [if_pos hlen] at p9
              have hl9 : H9 D = some (.lst accV6) := x9.keep _ _ hl8 nD8
              have nD9 : D ∉ m9 := x9.out hl8 nD8
              have ra9 : RVs A m9 H9 (acc ++ iacc) accV6 := RVs.mono rs8 x9 ra8
              refine ⟨accV6, hl9, ?_, ?_⟩
              · have := ra9.length
                simp only [List.length_append] at this
                have := line10
                omega
              · obtain ⟨mo, rs10⟩ := rs9.touch (.lst (accV6 ++ [u])) hl9 nD9
                exact ⟨m9, S9, iacc ++ [y], accV6 ++ [u], (xb8.step x9 (hFD hl8)).touch _ rfl (fun a f => by have e : a = D := f; subst e; exact ⟨_, hl4⟩), (xx8.trans x9).touch _ hD nD1, rs10, upd_same, nD9, by rw [← List.append_assoc]; exact (ra9.mon mo).append (RVs.one (ru.mon mo)), hlen, (re8.mono rs8 x9).mon mo, p9⟩
            · rw [if_neg hlen] at p9
              exact p9.elim
      · rintro H6 ⟨m6, S6, iacc, accV6, xb, x6, rs6, hl6, nD6, ra6, hi6, re6, p6⟩
        rw [List.drop_length] at p6
        have st1 : v1.stays S6 = true := compR_stays fun z => by rw [z] at p6; exact p6
        simp only [compR, st1, if_true, R.calm_ok, R.bind_ok] at p6
        split at p6
        · rename_i hlen
          exact ⟨m6, S6, acc ++ iacc, accV6, x6, rs6, hl6, nD6, ra6, hlen, p6⟩
        · exact p6.elim
  · rintro H' ⟨m', S', acc, accV, x2, rs2, hl, nD, ra, ha, p2⟩
    rw [List.drop_length] at p2
    have st : v.stays S' = true := compR_stays fun z => by rw [z] at p2; exact p2
    simp only [compR, st, if_true] at p2
    refine p2 m' H' (.ref D) (x1.trans x2) rs2 ⟨D, accV, rfl, hl, ?_, nD, ra⟩
    cases q : H D with
    | none => rfl
    | some o =>
      by_cases hm : D ∈ m
      · exact absurd hD (x1.there D hm)
      · rw [x1.keep D o q hm] at hD
        cases hD
theorem sl_comp2 {elt : Expr} {ifs1 : List Expr} {scope : Scope} {own : List (Str × Nat)} {own1 : List Nat} {g g1 : G} {fit fit1 : Env → Sto → R ItV} {fT : Env → Sto → R Bool} {fE : Env → Sto → R D} (hc : X.calm = true) (hN : X.N.Nodup) (hi : SI A W X tg iter fit) (ok : BlkOk X.N X.env.scope scope own)
    (hv : ∀ i ∈ own1, i ∈ own.map (·.2))
    (hg : ∀ (s : Shared) (H : Hp) (C : Addr) (cl : List (Str × Addr)) (fp : List Addr), PG (X.blk s H scope (compEnvC scope cl C X.env) fp) tg (tGo A g))
    (hi1 : ∀ (s : Shared) (H : Hp) (C : Addr) (cl : List (Str × Addr)) (fp : List Addr), SI A WF (X.blk s H scope (compEnvC scope cl C X.env) fp) tg1 iter1 fit1)
    (hg1 : ∀ (s : Shared) (H : Hp) (C : Addr) (cl : List (Str × Addr)) (fp : List Addr), PG (X.blk s H scope (compEnvC scope cl C X.env) fp) tg1 (tGo A g1))
    (ht : ∀ (s : Shared) (H : Hp) (C : Addr) (cl : List (Str × Addr)) (fp : List Addr), PTs (X.blk s H scope (compEnvC scope cl C X.env) fp) ifs1 (tR A rB WF fT))
    (he : ∀ (s : Shared) (H : Hp) (C : Addr) (cl : List (Str × Addr)) (fp : List Addr), SE A WF (X.blk s H scope (compEnvC scope cl C X.env) fp) elt fE)
    (hs : ∀ x, foldedSetIterable iter X.env x = pure x) (hs1 : ∀ env x, foldedSetIterable iter1 env x = pure x) (hsub : ∀ i ∈ g.slots, i ∈ own.map (·.2)) (hsub1 : ∀ i ∈ g1.slots, i ∈ own1) :
    SL A W X (.ListComp elt [⟨tg, iter, [], 0⟩, ⟨tg1, iter1, ifs1, 0⟩] scope pos) (fun ρ S => (fit ρ S).bind fun v S1 => compR v.items v (turn2 g (own.map (·.2)) own1 g1 fit1 fT fE ρ) [] S1) :=
    (pe_lc2 hc hN hi ok hv hg (fun _ _ _ _ _ => pts_nil) hi1 hg1 ht he hs hs1).imp fun σ H Q h => lc2_read hsub hsub1 h
end
end PL

set_option Elab.async false
set_option linter.all false
set_option maxRecDepth 100000
set_option maxHeartbeats 1000000
/-! PL9: statements. -/
namespace PL
open PySem PySem.Spec PyProof.Rows L2
/-- what an end of a statement asks of the model -/
def PF (A : Ad) (W : WX) (D : Ends) (m : List Addr) (H : Hp) (f : F) : Prop := match f with
  | .stuck => False
  | .nx ρ S => ∀ m' H' σ', Ext m H m' H' → RS A m' S H' → REnv A m' H' ρ σ' → D.nx σ' H'
  | .brk ρ S => ∀ m' H' σ', Ext m H m' H' → RS A m' S H' → REnv A m' H' ρ σ' → D.bk σ' H'
  | .cnt ρ S => ∀ m' H' σ', Ext m H m' H' → RS A m' S H' → REnv A m' H' ρ σ' → D.ct σ' H'
  | .ret d S => ∀ m' H' v, Ext m H m' H' → RS A m' S H' → RV A m' H' d v → D.rt v H'
  | .exc c fs ρ S => ∀ m' H' σ' d, Ext m H m' H' → RS A m' S H' → REnv A m' H' ρ σ' → RX A m' H' fs d → W (.ref (A.ca c)) d σ' H'
theorem PF.shift {A : Ad} {W : WX} {D : Ends} {m m1 : List Addr} {H H1 : Hp} {f : F} (p : PF A W D m H f) (x : Ext m H m1 H1) : PF A W D m1 H1 f := by
  cases f with
  | stuck => exact p
  | nx ρ S => exact fun m' H' s y => p m' H' s (x.trans y)
  | brk ρ S => exact fun m' H' s y => p m' H' s (x.trans y)
  | cnt ρ S => exact fun m' H' s y => p m' H' s (x.trans y)
  | ret d S => exact fun m' H' s y => p m' H' s (x.trans y)
  | exc c fs ρ S => exact fun m' H' s d y => p m' H' s d (x.trans y)
def tF (A : Ad) (W : WX) (f : Env → Sto → F) : TS := fun D σ H => ∃ m ρ S, RS A m S H ∧ REnv A m H ρ σ ∧ PF A W D m H (f ρ S)
abbrev SS (A : Ad) (W : WX) (X : Cx) (s : Stmt) (f : Env → Sto → F) : Prop := PS X s (tF A W f)
abbrev SSs (A : Ad) (W : WX) (X : Cx) (s : List Stmt) (f : Env → Sto → F) : Prop := PSs X s (tF A W f)
section
variable {α β : Type} {A : Ad} {W : WX} {X : Cx} {D : Ends} {m : List Addr} {H : Hp} {ρ : Env} {σ : L2.St} {S : Sto} {rel : Rel α β}
theorem PF.toF {r : R α} {R' : β → Hp → Prop} {k : α → Sto → F} (p : PF A W D m H (r.toF ρ k)) (rs : RS A m S H) (re : REnv A m H ρ σ)
    (h : ∀ a S1 m1 H1 b, r = .ok a S1 → Ext m H m1 H1 → RS A m1 S1 H1 → rel H m1 H1 a b → PF A W D m1 H1 (k a S1) → R' b H1) : Post A rel (fun c d H' => W c d σ H') m H r R' := by
  cases r with
  | stuck => exact p
  | ok a S1 => exact fun m1 H1 b x rs1 rl => h a S1 m1 H1 b rfl x rs1 rl (PF.shift p x)
  | exc c fs S1 => exact fun m1 H1 d x rs1 rx => p m1 H1 σ d x rs1 (re.mono rs x) rx
/-- .. what is new to the heap -/
theorem PF.toF0 {r : R α} {R' : β → Hp → Prop} {k : α → Sto → F} (p : PF A W D m H (r.toF ρ k)) (rs : RS A m S H) (re : REnv A m H ρ σ)
    (h : ∀ a S1 m1 H1 b, Ext m H m1 H1 → RS A m1 S1 H1 → rel H m1 H1 a b → PF A W D m H (k a S1) → R' b H1) : Post A rel (fun c d H' => W c d σ H') m H r R' := by
  cases r with
  | stuck => exact p
  | ok a S1 => exact fun m1 H1 b x rs1 rl => h a S1 m1 H1 b x rs1 rl p
  | exc c fs S1 => exact fun m1 H1 d x rs1 rx => p m1 H1 σ d x rs1 (re.mono rs x) rx
theorem R.toF_bind {β : Type} (r : R α) (f : α → Sto → R β) (k : β → Sto → F) : (r.bind f).toF ρ k = r.toF ρ fun a S => (f a S).toF ρ k := by cases r <;> rfl
end
section
variable {A : Ad} {W : WX} {X : Cx} {e a b c o i tg iter value : Expr} {es : List Expr} {pos pos' p apos cpos tpos : Pos} {fe fa fb fc fo fi : Env → Sto → R D} {fes fl : Env → Sto → R (List D)} {s : Stmt} {ss sa sb : List Stmt} {f g : Env → Sto → F}
theorem ss_nil : SSs A W X [] (fun ρ S => .nx ρ S) := pss_nil.imp fun D σ H ⟨m, ρ, S, rs, re, p⟩ => p m H σ rs.ext rs re
theorem ss_cons (h1 : SS A W X s f) (h2 : SSs A W X ss g) : SSs A W X (s :: ss) (fun ρ S => (f ρ S).andThen g) := (pss_cons h1 h2).imp fun D σ H ⟨m, ρ, S, rs, re, p⟩ => by
  refine ⟨m, ρ, S, rs, re, ?_⟩
  dsimp only at p
  cases q : f ρ S with
  | stuck => rw [q] at p; exact p
  | nx ρ1 S1 =>
    rw [q] at p
    exact fun m' H' σ' x rs1 re1 => ⟨m', ρ1, S1, rs1, re1, PF.shift p x⟩
  | brk ρ1 S1 => rw [q] at p; exact p
  | cnt ρ1 S1 => rw [q] at p; exact p
  | ret d S1 => rw [q] at p; exact p
  | exc c fs ρ1 S1 => rw [q] at p; exact p
theorem ss_pass : SS A W X (.Pass pos) (fun ρ S => .nx ρ S) := ps_pass.imp fun D σ H ⟨m, ρ, S, rs, re, p⟩ => p m H σ rs.ext rs re
theorem ss_brk : SS A W X (.Break pos) (fun ρ S => .brk ρ S) := ps_break.imp fun D σ H ⟨m, ρ, S, rs, re, p⟩ => p m H σ rs.ext rs re
theorem ss_cnt : SS A W X (.Continue pos) (fun ρ S => .cnt ρ S) := ps_continue.imp fun D σ H ⟨m, ρ, S, rs, re, p⟩ => p m H σ rs.ext rs re
theorem ss_doc {x j} : SS A W X (.Expr (.Constant (.str x) j pos) pos') (fun ρ S => .nx ρ S) := ps_doc.imp fun D σ H ⟨m, ρ, S, rs, re, p⟩ => p m H σ rs.ext rs re
theorem ss_ex (he : SE A W X e fe) (hs : swapsWith e none pos.line X.env = pure false) : SS A W X (.Expr e pos) (fun ρ S => (fe ρ S).toF ρ fun _ S1 => .nx ρ S1) := (ps_expr he hs).imp fun D σ H ⟨m, ρ, S, rs, re, p⟩ =>
  ⟨m, ρ, S, rs, re, p.toF rs re fun d S1 m1 H1 v _ x rs1 rv p1 => p1 m1 H1 σ rs1.ext rs1 (re.mono rs x)⟩
theorem ss_ret (he : SE A W X e fe) : SS A W X (.Return (some e) pos) (fun ρ S => (fe ρ S).toF ρ fun d S1 => .ret d S1) := (ps_ret he).imp fun D σ H ⟨m, ρ, S, rs, re, p⟩ =>
  ⟨m, ρ, S, rs, re, p.toF rs re fun d S1 m1 H1 v _ x rs1 rv p1 => p1 m1 H1 v rs1.ext rs1 rv⟩
theorem ss_ret0 : SS A W X (.Return none pos) (fun _ S => .ret .non S) := ps_retN.imp fun D σ H ⟨m, ρ, S, rs, re, p⟩ => p m H .non rs.ext rs rfl
theorem ss_asg {g : G} (he : SE A W X e fe) (hg : PG X tg (tGo A g)) (hs : swapsWithSole [tg] e pos.line X.env = pure false) (hw : swappedStores [tg] e X.env = pure none) (h1 : (assignEach [tg] X.env).map (·.2) = [assign tg X.env]) :
    SS A W X (.Assign [tg] e pos) (fun ρ S => (fe ρ S).toF ρ fun d S1 => match asgG g d ρ with
      | some ρ1 => .nx ρ1 S1
      | none => .stuck) := (ps_asg he hg hs hw h1).imp fun D σ H ⟨m, ρ, S, rs, re, p⟩ => by
  refine ⟨m, ρ, S, rs, re, p.toF rs re fun d S1 m1 H1 v _ x rs1 rv p1 => ?_⟩
  cases q : asgG g d ρ with
  | none => rw [q] at p1; exact p1.elim
  | some ρ1 =>
    rw [q] at p1
    exact ⟨m1, ρ, S1, d, ρ1, rs1, re.mono rs x, rv, q, fun σ' re' _ => p1 m1 H1 σ' rs1.ext rs1 re'⟩
theorem REnv.grow {m : List Addr} {H : Hp} {ρ : Env} {σ : L2.St} (h : REnv A m H ρ σ) (p : Addr) : REnv A (m ++ [p]) H ρ σ := ⟨h.1, fun i d e => let ⟨v, e1, e2⟩ := h.2 i d e; ⟨v, e1, e2.grow⟩⟩
/-- name = [.. for ..] on one line -/
theorem set_push {fl : Env → Sto → R (List D)} {k : Nat} {D : Ends} {σ : L2.St} {H : Hp} (h : tF A W (fun ρ S => (fl ρ S).toF ρ fun xs S1 => if k < ρ.length then .nx (ρ.set k (some (.ob S1.length))) (S1 ++ [.lst xs]) else .stuck) D σ H) :
    tR A (rL A) W fl σ H (fun x H1 => gName k x σ H1 D.nx) := by
  obtain ⟨m, ρ, S, rs, re, p⟩ := h
  refine ⟨m, ρ, S, rs, re, p.toF0 rs re fun xs S1 m1 H1 v x rs1 rv p1 => ?_⟩
  obtain ⟨a, vs, rfl, h1, h2, h3, h4⟩ := rv
  split at p1
  · have rs2 : RS A (m1 ++ [a]) (S1 ++ [.lst xs]) H1 := rs1.adopt h1 h3 trivial ⟨vs, h1, h4.grow⟩ (RO.grow fun q z => by rw [h1] at z; unfold LamX.CodeO at z; cases z)
    exact p1 _ H1 _ (x.more h2) rs2 (((re.mono rs x).grow a).set (d := .ob S1.length) (v := .ref a) ⟨a, by rw [← rs1.len]; simp, rfl⟩ k)
  · exact p1.elim
theorem ss_setLc {k : Nat} {y : Str} {py : Pos} {elt : Expr} {ifs : List Expr} {scope : Scope} {own : List (Str × Nat)} {spos : Pos} {g : G} {fit : Env → Sto → R ItV} {fT : Env → Sto → R Bool} {fE : Env → Sto → R D} (hc : X.calm = true) (hN : X.N.Nodup) (hy : X.N[k]? = some y) (hyl : X.env.scope.names.lookup y = some .local)
    (hsw : swapsWith (.ListComp elt [⟨tg, iter, ifs, 0⟩] scope pos) (some (.Name y py)) spos.line X.env = pure true) (hi : SI A W X tg iter fit) (ok : BlkOk X.N X.env.scope scope own)
    (hg : ∀ (s : Shared) (H : Hp) (C : Addr) (cl : List (Str × Addr)) (fp : List Addr), PG (X.blk s H scope (compEnvC scope cl C X.env) fp) tg (tGo A g))
    (ht : ∀ (s : Shared) (H : Hp) (C : Addr) (cl : List (Str × Addr)) (fp : List Addr), PTs (X.blk s H scope (compEnvC scope cl C X.env) fp) ifs (tR A rB WF fT))
    (he : ∀ (s : Shared) (H : Hp) (C : Addr) (cl : List (Str × Addr)) (fp : List Addr), SE A WF (X.blk s H scope (compEnvC scope cl C X.env) fp) elt fE)
    (hs : ∀ x, foldedSetIterable iter X.env x = pure x) (hsub : ∀ i ∈ g.slots, i ∈ own.map (·.2)) :
    SS A W X (.Assign [.Name y py] (.ListComp elt [⟨tg, iter, ifs, 0⟩] scope pos) spos) (fun ρ S => ((fit ρ S).bind fun v S1 => compR v.items v (turn1 g (own.map (·.2)) fT fE ρ) [] S1).toF ρ fun xs S1 => if k < ρ.length then .nx (ρ.set k (some (.ob S1.length))) (S1 ++ [.lst xs]) else .stuck) :=
  (ps_setLc hc hN hy hyl hsw hi ok hg ht he hs).imp fun D σ H h => lc_read hsub (set_push h)
theorem ss_setLc2 {tg1 iter1 : Expr} {k : Nat} {y : Str} {py : Pos} {elt : Expr} {ifs1 : List Expr} {scope : Scope} {own : List (Str × Nat)} {own1 : List Nat} {spos : Pos} {g g1 : G} {fit fit1 : Env → Sto → R ItV} {fT : Env → Sto → R Bool} {fE : Env → Sto → R D} (hc : X.calm = true) (hN : X.N.Nodup) (hy : X.N[k]? = some y) (hyl : X.env.scope.names.lookup y = some .local)
    (hsw : swapsWith (.ListComp elt [⟨tg, iter, [], 0⟩, ⟨tg1, iter1, ifs1, 0⟩] scope pos) (some (.Name y py)) spos.line X.env = pure true) (hi : SI A W X tg iter fit) (ok : BlkOk X.N X.env.scope scope own) (hv : ∀ i ∈ own1, i ∈ own.map (·.2))
    (hg : ∀ (s : Shared) (H : Hp) (C : Addr) (cl : List (Str × Addr)) (fp : List Addr), PG (X.blk s H scope (compEnvC scope cl C X.env) fp) tg (tGo A g))
    (hi1 : ∀ (s : Shared) (H : Hp) (C : Addr) (cl : List (Str × Addr)) (fp : List Addr), SI A WF (X.blk s H scope (compEnvC scope cl C X.env) fp) tg1 iter1 fit1)
    (hg1 : ∀ (s : Shared) (H : Hp) (C : Addr) (cl : List (Str × Addr)) (fp : List Addr), PG (X.blk s H scope (compEnvC scope cl C X.env) fp) tg1 (tGo A g1))
    (ht : ∀ (s : Shared) (H : Hp) (C : Addr) (cl : List (Str × Addr)) (fp : List Addr), PTs (X.blk s H scope (compEnvC scope cl C X.env) fp) ifs1 (tR A rB WF fT))
    (he : ∀ (s : Shared) (H : Hp) (C : Addr) (cl : List (Str × Addr)) (fp : List Addr), SE A WF (X.blk s H scope (compEnvC scope cl C X.env) fp) elt fE)
    (hs : ∀ x, foldedSetIterable iter X.env x = pure x) (hs1 : ∀ env x, foldedSetIterable iter1 env x = pure x) (hsub : ∀ i ∈ g.slots, i ∈ own.map (·.2)) (hsub1 : ∀ i ∈ g1.slots, i ∈ own1) :
    SS A W X (.Assign [.Name y py] (.ListComp elt [⟨tg, iter, [], 0⟩, ⟨tg1, iter1, ifs1, 0⟩] scope pos) spos) (fun ρ S => ((fit ρ S).bind fun v S1 => compR v.items v (turn2 g (own.map (·.2)) own1 g1 fit1 fT fE ρ) [] S1).toF ρ fun xs S1 => if k < ρ.length then .nx (ρ.set k (some (.ob S1.length))) (S1 ++ [.lst xs]) else .stuck) :=
  (ps_setLc2 hc hN hy hyl hsw hi ok hv hg (fun _ _ _ _ _ => pts_nil) hi1 hg1 ht he hs hs1).imp fun D σ H h => lc2_read hsub hsub1 (set_push h)
/-- name op= e -/
theorem ss_aug {k : Nat} {x : Str} {op : Operator} {ti : TIp} (hN : X.N.Nodup) (hi : X.N[k]? = some x) (hx : Loc X.env.scope x) (he : SE A W X e fe) (ho : PIp X op ti) (hf : X.fn x = true ∨ X.env.scope.names.lookup x = some .local)
    (hop : ∀ (d d1 z : D) (v v1 : V) (m : List Addr) (H : Hp) (Q : VK), RV A m H d v → RV A m H d1 v1 → augD op d d1 = some z → (∀ w, RV A m H z w → Q w H) → ti v v1 H Q) :
    SS A W X (.AugAssign (.Name x pos') op e pos) (fun ρ S => match ρ[k]? with
      | some (some d) => (fe ρ S).toF ρ fun y S1 => match augD op d y with
        | some z => .nx (ρ.set k (some z)) S1
        | none => .stuck
      | _ => .stuck) := (ps_aug hN hi hx he ho hf).imp fun D σ H ⟨m, ρ, S, rs, re, p⟩ => by
  dsimp only at p
  split at p
  · rename_i d hd
    obtain ⟨v, h1, h2⟩ := re.2 k d hd
    refine ⟨v, h1, m, ρ, S, rs, re, p.toF rs re fun y S1 m1 H1 w _ x rs1 rv p1 => ?_⟩
    split at p1
    · rename_i z hz
      exact hop _ _ _ _ _ m1 H1 _ (h2.mono rs x) rv hz fun w rw => p1 m1 H1 _ rs1.ext rs1 ((re.mono rs x).set rw k)
    · exact p1.elim
  · exact p.elim
theorem aug_add (d d1 z : D) (v v1 : V) (m : List Addr) (H : Hp) (Q : VK) (h1 : RV A m H d v) (h2 : RV A m H d1 v1) (h : augD .Add d d1 = some z) (q : ∀ w, RV A m H z w → Q w H) : ipI (fun i j => i + j) v v1 H Q := by
  unfold augD at h
  split at h
  · cases h
    exact ⟨_, _, h1, h2, q _ rfl⟩
  · rename_i hh; cases hh
  · cases h
theorem aug_sub (d d1 z : D) (v v1 : V) (m : List Addr) (H : Hp) (Q : VK) (h1 : RV A m H d v) (h2 : RV A m H d1 v1) (h : augD .Sub d d1 = some z) (q : ∀ w, RV A m H z w → Q w H) : ipI (fun i j => i - j) v v1 H Q := by
  unfold augD at h
  split at h
  · rename_i hh; cases hh
  · cases h
    exact ⟨_, _, h1, h2, q _ rfl⟩
  · cases h
/-- if -/
theorem ss_ite (hc : SB A W X c (tru fe)) (ha : SSs A W X sa f) (hb : SSs A W X sb g) : SS A W X (.If c sa sb pos) (fun ρ S => (fe ρ S).toF ρ fun x S1 => (ofOpt (truD S1 x) S1).toF ρ fun k S1 => if k then f ρ S1 else g ρ S1) := (ps_if hc ha hb).imp fun D σ H ⟨m, ρ, S, rs, re, p⟩ => by
  refine ⟨m, ρ, S, rs, re, ?_⟩
  have p : PF A W D m H ((tru fe ρ S).toF ρ fun k S1 => if k then f ρ S1 else g ρ S1) := by
    unfold tru
    rw [R.toF_bind]
    exact p
  refine p.toF rs re fun k S1 m1 H1 b _ x rs1 rb p1 => ?_
  obtain rfl : b = k := rb
  cases b with
  | true => exact ⟨m1, ρ, S1, rs1, re.mono rs x, p1⟩
  | false => exact ⟨m1, ρ, S1, rs1, re.mono rs x, p1⟩
/-- while -/
theorem ss_whl (hp : PassesOwn (model X.prog X.w) X.A X.env X.xe) (hc : SB A W X c (tru fe)) (hb : SSs A W X ss f) : SS A W X (.While c ss [] pos) (fun ρ S => whlR fuel (tru fe) f ρ S) := (ps_while hp hc hb).imp fun D σ H ⟨m, ρ, S, rs, re, p⟩ => by
  dsimp only at p
  generalize fuel = n at p
  refine ⟨fun k σ' H' => ∃ m' ρ' S', RS A m' S' H' ∧ REnv A m' H' ρ' σ' ∧ PF A W D m' H' (whlR k (tru fe) f ρ' S'), ⟨n, m, ρ, S, rs, re, p⟩, fun k σ1 H1 ⟨m1, ρ1, S1, rs1, re1, p1⟩ => ?_⟩
  cases k with
  | zero => exact p1.elim
  | succ k =>
    refine ⟨m1, ρ1, S1, rs1, re1, ?_⟩
    simp only [whlR] at p1
    cases q : tru fe ρ1 S1 with
    | stuck => rw [q] at p1; exact p1.elim
    | exc c fs S2 =>
      rw [q] at p1
      exact fun m2 H2 d x rs2 rx => p1 m2 H2 σ1 d x rs2 (re1.mono rs1 x) rx
    | ok b S2 =>
      rw [q] at p1
      refine fun m2 H2 b' x rs2 rb => ?_
      obtain rfl : b' = b := rb
      cases b' with
      | false => exact p1 m2 H2 σ1 x rs2 (re1.mono rs1 x)
      | true =>
        refine ⟨fun σ' H' => ∃ m' ρ' S', RS A m' S' H' ∧ REnv A m' H' ρ' σ' ∧ PF A W D m' H' (whlR k (tru fe) f ρ' S'), fun σ' H' w => ⟨k, Nat.lt_succ_self k, w⟩, m2, ρ1, S2, rs2, re1.mono rs1 x, ?_⟩
        have p2 := PF.shift p1 x
        cases q2 : f ρ1 S2 with
        | stuck => dsimp only at p2; rw [q2] at p2; exact p2
        | nx ρ3 S3 => dsimp only at p2; rw [q2] at p2; exact fun m3 H3 σ3 x3 rs3 re3 => ⟨m3, ρ3, S3, rs3, re3, PF.shift p2 x3⟩
        | cnt ρ3 S3 => dsimp only at p2; rw [q2] at p2; exact fun m3 H3 σ3 x3 rs3 re3 => ⟨m3, ρ3, S3, rs3, re3, PF.shift p2 x3⟩
        | brk ρ3 S3 => dsimp only at p2; rw [q2] at p2; exact p2
        | ret d S3 => dsimp only at p2; rw [q2] at p2; exact p2
        | exc c fs ρ3 S3 => dsimp only at p2; rw [q2] at p2; exact p2
def bodyR (g : G) (f : Env → Sto → F) (x : D) (ρ : Env) (S : Sto) : F := match asgG g x ρ with
  | some ρ1 => f ρ1 S
  | none => .stuck
theorem forR_stays {xs : List D} {v : ItV} {body : D → Env → Sto → F} {ρ : Env} {S : Sto} (h : forR xs v body ρ S ≠ .stuck) : v.stays S = true := by
  cases xs with
  | nil =>
    simp only [forR] at h
    split at h
    · assumption
    · exact absurd rfl h
  | cons d r =>
    simp only [forR] at h
    split at h
    · assumption
    · exact absurd rfl h
/-- for -/
theorem ss_for {g : G} {fit : Env → Sto → R ItV} (hp : PassesOwn (model X.prog X.w) X.A X.env X.xe) (hc : X.calm = true) (hi : SI A W X tg iter fit) (hg : PG X tg (tGo A g)) (hb : SSs A W X ss f) (hs : ∀ x, foldedSetIterable iter X.env x = pure x) :
    SS A W X (.For tg iter ss [] pos) (fun ρ S => (fit ρ S).toF ρ fun v S1 => forR v.items v (bodyR g f) ρ S1) := (ps_for hp hc hi hg hb hs).imp fun D σ H ⟨m, ρ, S, rs, re, p⟩ => by
  refine ⟨m, ρ, S, rs, re, p.toF rs re fun v S1 m1 H1 J _ x1 rs1 ⟨G0, Y, wk, hI0⟩ p1 => ?_⟩
  have hI := hI0 (fun _ => False) fun _ f => f.elim
  refine ⟨fun i k σ' H' => k = v.items.length - i ∧ i ≤ v.items.length ∧ ∃ m' ρ' S', Ext m1 H1 m' H' ∧ RS A m' S' H' ∧ REnv A m' H' ρ' σ' ∧ PF A W D m' H' (forR (v.items.drop i) v (bodyR g f) ρ' S'),
    ⟨_, rfl, Nat.zero_le _, m1, ρ, S1, rs1.ext, rs1, re.mono rs x1, p1⟩, ?_⟩
  rintro i k σ2 H2 ⟨rfl, hi, m2, ρ2, S2, x2, rs2, re2, p2⟩
  have st : v.stays S2 = true := forR_stays fun z => by rw [z] at p2; exact p2
  have gd := hI.1 m2 S2 H2 (x2.toB _) rs2 st
  rcases Nat.lt_or_eq_of_le hi with lt | rfl
  · have hd : v.items.drop i = v.items[i] :: v.items.drop (i + 1) := List.drop_eq_getElem_cons lt
    rw [hd] at p2
    simp only [forR, st, if_true] at p2
    refine .inr ⟨wk.goes i H2 lt gd, fun σ' H' => ∃ m' ρ' S', Ext m1 H1 m' H' ∧ RS A m' S' H' ∧ REnv A m' H' ρ' σ' ∧ PF A W D m' H' (forR (v.items.drop (i + 1)) v (bodyR g f) ρ' S'), fun σ' H' w => ⟨_, by omega, rfl, lt, w⟩, fun x H3 hy => ?_⟩
    obtain ⟨x3, rs3, rx⟩ := hI.2 i H2 x H3 m2 S2 v.items[i] (x2.toB _) rs2 (List.getElem?_eq_getElem lt) st (wk.yields i H2 x H3 lt gd hy)
    cases hρ : asgG g v.items[i] ρ2 with
    | none =>
      simp only [bodyR, hρ] at p2
      exact p2.elim
    | some ρ3 =>
      simp only [bodyR, hρ] at p2
      refine ⟨m2, ρ2, S2, v.items[i], ρ3, rs3, re2.mono rs2 x3, rx, hρ, fun σ3 re3 _ => ⟨m2, ρ3, S2, rs3, re3, ?_⟩⟩
      have p3 := PF.shift p2 x3
      cases q : f ρ3 S2 with
      | stuck => rw [q] at p3; exact p3
      | nx ρ4 S4 => rw [q] at p3; exact fun m4 H4 σ4 x4 rs4 re4 => ⟨m4, ρ4, S4, (x2.trans x3).trans x4, rs4, re4, PF.shift p3 x4⟩
      | cnt ρ4 S4 => rw [q] at p3; exact fun m4 H4 σ4 x4 rs4 re4 => ⟨m4, ρ4, S4, (x2.trans x3).trans x4, rs4, re4, PF.shift p3 x4⟩
      | brk ρ4 S4 => rw [q] at p3; exact p3
      | ret d S4 => rw [q] at p3; exact p3
      | exc c fs ρ4 S4 => rw [q] at p3; exact p3
  · refine .inl ⟨wk.stops H2 gd, ?_⟩
    rw [List.drop_length] at p2
    simp only [forR, st, if_true] at p2
    exact p2 m2 H2 σ2 rs2.ext rs2 re2
end
end PL

set_option Elab.async false
set_option linter.all false
set_option maxRecDepth 100000
set_option maxHeartbeats 1000000
/-! PL10: stores into lists and dicts, lists by list(..), +, *, sorted. -/
namespace PL
open PySem PySem.Spec PyProof.Rows L2
section
variable {A : Ad} {W : WX} {X : Cx} {m : List Addr} {S : Sto} {H : Hp}
theorem Ext.none {m' : List Addr} {H' : Hp} (x : Ext m H m' H') {a : Addr} (h : H' a = .none) : H a = .none := by
  cases q : H a with
  | none => rfl
  | some o =>
    by_cases hm : a ∈ m
    · exact absurd h (x.there a hm)
    · rw [x.keep a o q hm] at h
      cases h
/-! ### ints -/
theorem allInt_ints : ∀ {xs : List D} {ns : List Int}, allInt xs = some ns → xs = ns.map .int
  | [], _, h => by cases h; rfl
  | .int i :: xs, ns, h => by
    simp only [allInt] at h
    obtain ⟨ks, h1, rfl⟩ := Option.map_eq_some_iff.mp h
    rw [allInt_ints h1]
    rfl
  | .non :: _, _, h => by cases h
  | .bl _ :: _, _, h => by cases h
  | .str _ :: _, _, h => by cases h
  | .tup _ :: _, _, h => by cases h
  | .scr _ :: _, _, h => by cases h
  | .ob _ :: _, _, h => by cases h
  | .fn _ :: _, _, h => by cases h
theorem allInt_map : ∀ ns : List Int, allInt (ns.map .int) = some ns
  | [] => rfl
  | n :: ns => by simp [allInt, allInt_map ns]
theorem RVs.of_ints {A : Ad} : ∀ {ns : List Int} {vs : List V}, RVs A m H (ns.map .int) vs → vs = ns.map .int
  | [], _, h => h
  | n :: ns, _, h => by
    obtain ⟨v, us, rfl, h1, h2⟩ := h
    rw [show v = V.int n from h1, RVs.of_ints h2]
    rfl
theorem insI_perm (x : Int) : ∀ ys : List Int, (insI x ys).Perm (x :: ys)
  | [] => .refl _
  | y :: ys => by
    unfold insI
    split
    · exact .refl _
    · exact ((insI_perm x ys).cons y).trans (.swap x y ys)
theorem insI_sorted (x : Int) : ∀ {ys : List Int}, ys.Pairwise (· ≤ ·) → (insI x ys).Pairwise (· ≤ ·)
  | [], _ => by simp [insI]
  | y :: ys, h => by
    unfold insI
    have h' := List.pairwise_cons.mp h
    split
    · rename_i hle
      refine List.pairwise_cons.mpr ⟨fun z hz => ?_, h⟩
      rcases List.mem_cons.mp hz with e | hz
      · rw [e]; exact hle
      · exact Int.le_trans hle (h'.1 z hz)
    · rename_i hlt
      refine List.pairwise_cons.mpr ⟨fun z hz => ?_, insI_sorted x h'.2⟩
      rcases List.mem_cons.mp ((insI_perm x ys).mem_iff.mp hz) with e | hz
      · rw [e]; omega
      · exact h'.1 z hz
theorem sortI_perm : ∀ xs : List Int, (sortI xs).Perm xs
  | [] => .refl _
  | x :: xs => (insI_perm x _).trans ((sortI_perm xs).cons x)
theorem sortI_sorted : ∀ xs : List Int, (sortI xs).Pairwise (· ≤ ·)
  | [] => .nil
  | x :: xs => insI_sorted x (sortI_sorted xs)
theorem sorted_uniq {xs ys : List Int} (p : xs.Perm ys) (h1 : xs.Pairwise (· ≤ ·)) (h2 : ys.Pairwise (· ≤ ·)) : xs = ys :=
  p.eq_of_pairwise (fun a b _ _ h h' => Int.le_antisymm h h') h1 h2
theorem onceI_mem : ∀ {xs : List Int} {y : Int}, y ∈ onceI xs ↔ y ∈ xs
  | [], _ => by simp [onceI]
  | x :: xs, y => by
    by_cases e : y = x
    · simp [onceI, e]
    · simp [onceI, e, onceI_mem]
theorem onceI_nodup : ∀ xs : List Int, (onceI xs).Nodup
  | [] => .nil
  | x :: xs => List.nodup_cons.mpr ⟨by simp, (onceI_nodup xs).filter _⟩
/-! ### stores -/
end
section
variable {A : Ad} {W : WX} {X : Cx} {e a b c o i tg iter value : Expr} {es : List Expr} {pos pos' p apos cpos tpos : Pos} {fe fa fb fc fo fi : Env → Sto → R D} {fes fl fl2 : Env → Sto → R (List D)} {s : Stmt} {ss sa sb : List Stmt} {f g : Env → Sto → F}
/-- o[i] = e -/
def subR (fe fo fi : Env → Sto → R D) (ρ : Env) (S : Sto) : F := (fe ρ S).toF ρ fun v S1 => (fo ρ S1).toF ρ fun x S2 => (fi ρ S2).toF ρ fun y S3 => match setD x y v S3 with
    | some S4 => .nx ρ S4
    | none => .stuck
/-- what is stored into -/
def subO (fe fo : Env → Sto → R D) (ρ : Env) (S : Sto) : Option Nat := match fe ρ S with
  | .ok _ S1 => match fo ρ S1 with
    | .ok (.ob j) _ => some j
    | _ => none
  | _ => none
/-- d[k] = v, both kinds -/
def sDPutW (X : Cx) (td ty tv : TE) : TS := fun D σ H => tv σ H fun v H1 => td σ H1 fun x H2 => ty σ H2 fun y H3 => ∃ a, x = .ref a ∧
  ((∃ H4, DPut H3 a y v H4 ∧ D.nx σ H4) ∨ ∃ xs k b, NDict X.K X.prog X.w H3 a xs ∧ y = .ref b ∧ NV X.K H3 k (.ref b) ∧ k.depth ≤ 8 ∧ xs.length < sizeLine ∧ ∀ u, RelV v u → D.nx σ (upd H3 a (.ext (DAt X.prog X.w a (storedH xs k b u)))))
theorem ps_dputW {td ty tv : TE} (hu : X.A.units + 16 < cLine) (ho : PE X o td) (hi : PE X i ty) (hv : PE X value tv) (hs : swapsWith value (some (.Subscript o i pos')) pos.line X.env = pure false) :
    PS X (.Assign [.Subscript o i pos'] value pos) (sDPutW X td ty tv) := by
  refine ⟨fun pins s σ H D I h => ?_⟩
  refine wpAny_Assign_Subscript (thn (hv.run pins s σ H _ I h) fun r s1 ⟨v, H1, I1, rv, q1⟩ => thn (ho.run pins s1 σ H1 _ I1 q1) fun u s2 ⟨x, H2, I2, rx, q2⟩ => thn (hi.run pins s2 σ H2 _ I2 q2) fun iv s3 ⟨y, H3, I3, ry, a, ex, g⟩ => ?_) hs
  subst ex
  obtain rfl : u = Value.ref a := rx
  rcases g with ⟨H4, g, q3⟩ | ⟨xs, k, b, nd, rfl, nk, dk, hl, q3⟩
  · exact d_setItem (v := v) (by omega) I3 g ry rv fun s4 I4 => ⟨σ, H4, I4, q3⟩
  · obtain rfl : iv = Value.ref b := ry
    exact n_set (v := v) hu I3 nd nk dk hl fun s4 I4 => ⟨σ, _, I4, q3 r rv⟩
theorem ss_sub (hK : A.K = X.K) (hP : A.pr = X.prog) (hw' : A.w = X.w) (hu : X.A.units + 16 < cLine) (ho : SE A W X o fo) (hi : SE A W X i fi) (hv : SE A W X e fe) (hs : swapsWith e (some (.Subscript o i pos')) pos.line X.env = pure false)
    (hs1 : swapsWithSole [.Subscript o i pos'] e pos.line X.env = pure false) (hw : swappedStores [.Subscript o i pos'] e X.env = pure none) (h1 : (assignEach [.Subscript o i pos'] X.env).map (·.2) = [assign (.Subscript o i pos') X.env])
    (ha : ∀ v, assign (.Subscript o i pos') X.env v = (do
      let ov ← holding [v] (eval o X.env)
      let iv ← holding [v, ov] (eval i X.env)
      standAt pos'
      holding [v, ov, iv] (setItem ov iv v)
      release [v, ov, iv] [])) :
    SS A W X (.Assign [.Subscript o i pos'] e pos) (subR fe fo fi) := by
  refine ⟨fun pins s σ H D I h => ?_⟩
  obtain ⟨m, ρ, S, rs, re, p⟩ := h
  by_cases hd : ∃ v S1 j S2 y S3 bk, fe ρ S = .ok v S1 ∧ fo ρ S1 = .ok (.ob j) S2 ∧ fi ρ S2 = .ok y S3 ∧ dctAt S3 j = some bk
  · obtain ⟨v, S1, j, S2, y, S3, ⟨bb, kvs⟩, e1, e2, e3, e4⟩ := hd
    refine (ps_dputW hu ho hi hv hs).run pins s σ H D I ⟨m, ρ, S, rs, re, p.toF rs re fun v1 S1' m1 H1 w1 q1 x1 rs1 rv1 p1 => ?_⟩
    rw [e1] at q1
    cases q1
    refine ⟨m1, ρ, S1, rs1, re.mono rs x1, p1.toF rs1 (re.mono rs x1) fun v2 S2' m2 H2 w2 q2 x2 rs2 rv2 p2 => ?_⟩
    rw [e2] at q2
    cases q2
    refine ⟨m2, ρ, S2, rs2, (re.mono rs x1).mono rs1 x2, p2.toF rs2 ((re.mono rs x1).mono rs1 x2) fun v3 S3' m3 H3 w3 q3 x3 rs3 rv3 p3 => ?_⟩
    rw [e3] at q3
    cases q3
    obtain ⟨a, ha, rfl⟩ := rv2
    simp only [setD, e4] at p3
    split at p3
    · rename_i S4 hq
      split at hq
      · rename_i ok
        cases hq
        have re3 := ((re.mono rs x1).mono rs1 x2).mono rs2 x3
        rcases dput_ok (X := X) hK hP hw' rs3 (x3.get ha) e4 rv3 ((rv1.mono rs1 x2).mono rs2 x3) ok.1 ok.2 with ⟨vs, k', rfl, g1, rfl, g2, g3, g4, g5⟩ | ⟨xs, k', c, rfl, nd, rfl, nk, dk, g2, g3, g4⟩
        · exact ⟨a, rfl, .inl ⟨_, DPut.k g1 g2, p3 m3 _ σ g4 g5 (re3.mono rs3 g4)⟩⟩
        · exact ⟨a, rfl, .inr ⟨xs, k', c, nd, rfl, nk, dk, g2, fun u ru => p3 m3 _ σ (g4 u ru).1 (g4 u ru).2 (re3.mono rs3 (g4 u ru).1)⟩⟩
      · cases hq
    · exact p3.elim
  · refine (ps_asg hv (pg_sub ho hi set_list ha) hs1 hw h1).run pins s σ H D I ⟨m, ρ, S, rs, re, p.toF rs re fun v1 S1' m1 H1 w1 q1 x1 rs1 rv1 p1 => ?_⟩
    refine ⟨m1, ρ, S1', rs1, re.mono rs x1, p1.toF rs1 (re.mono rs x1) fun v2 S2' m2 H2 w2 q2 x2 rs2 rv2 p2 => ?_⟩
    refine ⟨m2, ρ, S2', rs2, (re.mono rs x1).mono rs1 x2, p2.toF rs2 ((re.mono rs x1).mono rs1 x2) fun v3 S3' m3 H3 w3 q3 x3 rs3 rv3 p3 => ?_⟩
    cases v2 with
    | ob j =>
      cases q4 : dctAt S3' j with
      | some bk => exact absurd ⟨v1, S1', j, S2', v3, S3', bk, q1, q2, q3, q4⟩ hd
      | none =>
        simp only [setD, q4] at p3
        split at p3
        · rename_i S4 hq
          split at hq
          · rename_i xs k hx
            obtain ⟨n, hn, rfl⟩ := Option.map_eq_some_iff.mp hq
            obtain ⟨a, ha, rfl⟩ := rv2
            obtain ⟨vs, g1, g2⟩ := lstAt_ok rs3 (x3.get ha) hx
            obtain ⟨x4, rs4⟩ := rs3.write (ob := .lst (xs.set n v1)) (o := .lst (vs.set n w1)) (x3.get ha) (fun _ _ z => by rw [g1] at z; cases z) trivial fun x4 => ⟨_, upd_same, (g2.set n ((rv1.mono rs1 x2).mono rs2 x3)).mono rs3 x4⟩
            exact ⟨a, vs, k, n, rfl, rv3, g1, by rw [g2.length]; exact hn, p3 m3 _ σ x4 rs4 ((((re.mono rs x1).mono rs1 x2).mono rs2 x3).mono rs3 x4)⟩
          · cases hq
        · exact p3.elim
    | _ => exact p3.elim
/-! ### lists -/
theorem sl_listOf (hK : A.K = X.K) (hg : Gl X "list") (hm : X.mg "list" = none) (ha : SE A W X a fa) (he : starEach [a] X.env = [(false, eval a X.env)]) : SL A W X (.Call (.Name "list" p) [a] [] pos) (fun ρ S => (fa ρ S).bind fun x S1 => ofOpt (seqOf S1 x) S1) :=
  (pe_callTy call_list_of hg hm (by rfl) (pa_cons ha pa_nil he) (by decide) (by decide) he rfl).imp fun σ H Q ⟨m, ρ, S, rs, re, p⟩ => by
  refine ⟨m, ρ, S, rs, re, p.bind0 fun d S1 m1 H1 v x1 rs1 rv1 p1 => ?_⟩
  cases q : seqOf S1 d with
  | none => rw [q] at p1; exact p1.elim
  | some xs =>
    rw [q] at p1
    obtain ⟨a, vs, rfl, h1, h2⟩ := seqOf_ok rs1 rv1 q
    refine ⟨a, vs, rfl, hK ▸ h1, fun l hl => ?_⟩
    obtain ⟨x2, rs2⟩ := rs1.lay (.lst vs) hl
    exact p1 m1 _ (.ref l) (x1.trans x2) rs2 ⟨l, vs, rfl, upd_same, x1.none hl, fun z => rs1.there l z hl, h2.mono rs1 x2⟩
end
end PL

set_option Elab.async false
set_option linter.all false
set_option maxRecDepth 100000
set_option maxHeartbeats 2000000
/-! PL11: sorted({.. for ..}) of ints. -/
namespace PL
open PySem PySem.Spec PyProof.Rows L2
section
variable {X : Cx}
theorem addI_ok {pn : List (Addr × Obj)} {st : L2.St} {hp : Hp} {s : Shared} {E : Value → Shared → Prop} {dd : Addr} {R : Int → Bool} {n : Nat} {y : Int} {tk : Tok} {qk : Value → Shared → Prop} (J0 : Inv X pn st hp s) (hd : hp dd = some (SetO X.w dd R n)) (room : n + 1 < scanBound)
    (k : ∀ s', Inv X pn st (upd hp dd (SetO X.w dd (fun j => R j || decide (j = y)) (if R y = true then n else n + 1))) s' → qk .none s') : wpAny (model X.prog X.w) X.A (call (.builtin "set.add") [.ref dd, .int y tk]) qk E s := by
  refine setR_add (setO_get J0 hd) room fun g' sb new => ?_
  have there : ∃ u, g'.get? dd = some u := let ⟨o, _, _, _, ho, _⟩ := new; ⟨o, ho⟩
  exact k _ (J0.write (e := dd) (t' := s.toks + 1) (by rw [hd]; trivial) (.inl rfl) (fun b u nb bu => (sb.2 b nb).trans bu) there (setO_new new))
/-- {elt for target in iter if ..}, elt an int: a set that nobody tracks -/
def tSci (w : World) (ri : TI) (rg : TG) (rt : TT) (re : TE) (vs : List Nat) : TE := fun st hp qk => ri st hp fun wk g1 => ∀ dd, g1 dd = none → ∃ ww : Nat → Nat → Hp → Prop, (∃ m, ww 0 m (upd g1 dd (SetO w dd (fun _ => false) 0))) ∧ ∀ i m g, ww i m g →
  (wk.stop i g ∧ qk (.ref dd) g) ∨ (wk.go i g ∧ ∃ nxt : Hp → Prop, (∀ g', nxt g' → ∃ m', m' < m ∧ ww (i + 1) m' g') ∧ ∀ x g', wk.yld i g x g' → rg x (wipe st vs) g' fun st2 g2 => wipe st2 vs = wipe st vs ∧ rt st2 g2 fun b g3 =>
    if b = true then re st2 g3 fun y g4 => ∃ (c : Int) (R : Int → Bool) (n : Nat), y = .int c ∧ g4 dd = some (SetO w dd R n) ∧ n + 1 < scanBound ∧ nxt (upd g4 dd (SetO w dd (fun j => R j || decide (j = c)) (if R c = true then n else n + 1))) else nxt g3)
theorem sci_core {pn : List (Addr × Obj)} {s : Shared} {st : L2.St} {hp : Hp} {qk : VK} {el tv ie : Expr} {cs : List Expr} {sc : Scope} {ow : List (PySem.Str × Nat)} {ps ps' : Pos} {ri : TI} {rg : TG} {rt : TT} {re : TE} {us : Option (Value → Sem Unit)} {qf : Value → Shared → Prop}
    (kc : X.calm = true) (kN : X.N.Nodup) (J0 : Inv X pn st hp s) (ki : PI X tv ie ri) (bo : BlkOk X.N X.env.scope sc ow)
    (kg : ∀ (s : Shared) (hp : Hp) (cc : Addr) (cl : List (PySem.Str × Addr)) (fq : List Addr), PG (X.blk s hp sc (compEnvC sc cl cc X.env) fq) tv rg) (kt : ∀ (s : Shared) (hp : Hp) (cc : Addr) (cl : List (PySem.Str × Addr)) (fq : List Addr), PTs (X.blk s hp sc (compEnvC sc cl cc X.env) fq) cs rt)
    (ke : ∀ (s : Shared) (hp : Hp) (cc : Addr) (cl : List (PySem.Str × Addr)) (fq : List Addr), PE (X.blk s hp sc (compEnvC sc cl cc X.env) fq) el re) (ks : ∀ xx, foldedSetIterable ie X.env xx = pure xx)
    (hh : tSci X.w ri rg rt re (ow.map (·.2)) st hp qk)
    (kR : ∀ dd cc s' mm g', Inv X pn st g' s' → qk (.ref dd) g' → s'.heap.Ns cc mm → FpOk X pn g' cc → compPost (model X.prog X.w) X.A X.xe us qf (.ref dd) cc (.ok .next) s') :
    wpAny (model X.prog X.w) X.A (comprehension (.SetComp el [⟨tv, ie, cs, 0⟩] sc ps) sc X.env ps' (newSet (.type "set")) false (eval ie X.env) us) qf X.xe s := by
  have hfree : ∀ y ∈ sc.names, y.2 = .free → ∃ c, X.env.cells.lookup y.1 = some c := fun y hy e => by
    rcases bo.free y hy e with k | k
    · exact J0.ok.has _ (.inl k)
    · exact J0.ok.has _ (.inr k)
  refine wpAny_comprehension_free (use := us) rfl ks (closure_ok hfree) bo.kind (fun y hy e => by rw [bo.uniq y hy, e])
    (thn (ki.run pn s st hp _ J0 hh) fun xv t1 hx => thn hx fun itv t2 h2 => ?_)
  obtain ⟨it, fq, tw, wk, g2, e, J2, tr, u2, fr2, qq0⟩ := h2
  subst e
  refine PpSet.newSet_ok ?_
  refine newEnv_comp ?_
  generalize eD : t2.heap.objs.size = dd
  have nD : g2 dd = none := J2.hok.fresh (Nat.le_of_eq eD)
  obtain ⟨ww, ⟨mm0, ww0⟩, tur⟩ := qq0 dd nD
  -- the new list
  generalize et3 : ({ t2 with heap := t2.heap.push { cls := .type "set", dict := none, data := .set #[] 0 (.fresh 0 0 (!X.w.params.followText "set-order")) } } : Shared) = t3
  have J3 : Inv X pn st (upd g2 dd (SetO X.w dd (fun _ => false) 0)) t3 := by
    rw [← et3]
    refine J2.laid (t' := t2.toks) (fun b o e => Heap.get?_push_of_some _ e) (Nat.le_of_eq eD) ?_
    rw [← eD]
    exact setO_new (setR_fresh X.w)
  have h3 : t3.heap = t2.heap.push { cls := .type "set", dict := none, data := .set #[] 0 (.fresh 0 0 (!X.w.params.followText "set-order")) } := by rw [← et3]
  have sz : ∀ b ∈ fq, b < t2.heap.objs.size := fun b hb => by
    obtain ⟨o, e, _⟩ := tr.obj _ _ u2 b hb
    exact Heap.lt_size e
  have f3 : ∀ b ∈ fq, FpOk X pn (upd g2 dd (SetO X.w dd (fun _ => false) 0)) b ∧ b < t3.heap.objs.size := fun b hb => by
    have hlt := sz b hb
    refine ⟨⟨?_, (fr2 b hb).2⟩, by rw [h3, Heap.size_push]; exact Nat.lt_succ_of_lt hlt⟩
    rw [upd_ne (by rw [← eD]; exact Nat.ne_of_lt hlt)]
    exact (fr2 b hb).1
  have u3 : tw 0 t3.heap := tr.keep _ _ _ u2 fun b _ o e => by rw [h3]; exact Heap.get?_push_of_some _ e
  have J4 := block_start J3 bo kN f3
  have pg := kg t3 (upd g2 dd (SetO X.w dd (fun _ => false) 0)) t3.heap.objs.size (cellsFrom (t3.heap.objs.size + 1) sc.names (cloFrom X.env.cells sc.names [])) fq
  have pt := kt t3 (upd g2 dd (SetO X.w dd (fun _ => false) 0)) t3.heap.objs.size (cellsFrom (t3.heap.objs.size + 1) sc.names (cloFrom X.env.cells sc.names [])) fq
  have pe := ke t3 (upd g2 dd (SetO X.w dd (fun _ => false) 0)) t3.heap.objs.size (cellsFrom (t3.heap.objs.size + 1) sc.names (cloFrom X.env.cells sc.names [])) fq
  show codeAny _ _ (.compStart (.SetComp el [⟨tv, ie, cs, 0⟩] sc ps) 0 (.ref it) (.ref dd) (compEnvC sc (cellsFrom (t3.heap.objs.size + 1) sc.names (cloFrom X.env.cells sc.names [])) t3.heap.objs.size X.env)) (compPost (model X.prog X.w) X.A X.xe us qf (.ref dd) t3.heap.objs.size) { t3 with heap := pushCells (t3.heap.push { cls := .type "dict", data := .dict #[] }) sc.names }
  have nfp : ∀ b ∈ fq, (upd g2 dd (SetO X.w dd (fun _ => false) 0)) b = none := fun b hb => (f3 b hb).1.1
  generalize ecx : compEnvC sc (cellsFrom (t3.heap.objs.size + 1) sc.names (cloFrom X.env.cells sc.names [])) t3.heap.objs.size X.env = cx at J4 pg pt pe ⊢
  have cL : cx.locals = t3.heap.objs.size := by subst ecx; rfl
  generalize eg3 : upd g2 dd (SetO X.w dd (fun _ => false) 0) = g3 at J3 J4 pg pt pe ww0 nfp f3
  generalize et4 : ({ t3 with heap := pushCells (t3.heap.push { cls := .type "dict", data := .dict #[] }) sc.names } : Shared) = t4 at J4 ⊢
  have u4 : tw 0 t4.heap := tr.keep _ _ _ u3 fun b _ o e => by rw [← et4]; exact pushCells_keeps _ _ _ _ (Heap.get?_push_of_some _ e)
  have stat : ∀ {st' : L2.St} {g' : Hp} {s' : Shared}, Inv (X.blk t3 g3 sc cx fq) [] st' g' s' → (∀ b ∈ fq, g' b = none) → ∀ b ∈ fq, FpOk (X.blk t3 g3 sc cx fq) [] g' b := fun {st' g' s'} J' hn b hb =>
    ⟨hn b hb, (J'.ok.exf b hb).1, J'.ok.exfs b hb, .inl hb, fun xx c e => (J'.ok.exf b hb).2 xx c e, fun p hp => absurd (show p ∈ ([] : List (Addr × Obj)) ++ [] from hp) (by simp)⟩
  have loop : codeAny (model X.prog X.w) X.A (.compLoop (.SetComp el [⟨tv, ie, cs, 0⟩] sc ps) 0 (.ref it) (.ref dd) cx) (compPost (model X.prog X.w) X.A X.xe us qf (.ref dd) t3.heap.objs.size) t4 := by
    refine PpSet.compLoopS_any (fun n s' => ∃ i g', Inv (X.blk t3 g3 sc cx fq) [] (wipe st (ow.map (·.2))) g' s' ∧ tw i s'.heap ∧ (∀ b ∈ fq, g' b = none) ∧ ww i n g') ?_ mm0 ⟨0, g3, J4, u4, nfp, ww0⟩
    rintro n t5 ⟨i, g5, J5, u5, v5, w50⟩
    rcases tur i n g5 w50 with ⟨sto, qq⟩ | ⟨gon, nxt, hnx, stp⟩
    · have td := tr.done (X.blk t3 g3 sc cx fq) rfl rfl rfl kc i [] t5 _ g5 (fun _ _ => False) J5 (stat J5 v5) u5 sto
      refine thnF td fun r t6 ⟨hr, J6⟩ => ?_
      subst hr
      -- back in the def's context
      have J7 : Inv X pn st g5 t6 := J3.call' (ch := fq) J6.os J6.base J6.hok J6.bare fun b hb => ⟨(f3 b hb).1.2.2.2.1, (f3 b hb).1.2.1, (f3 b hb).1.2.2.2.2.1, (f3 b hb).1.2.2.2.2.2⟩
      have nC : g5 t3.heap.objs.size = none := by
        have z : g5 cx.locals = none := J6.free
        rw [cL] at z
        exact z
      obtain ⟨mm, hn, _⟩ := J6.loc
      have hn : t6.heap.Ns cx.locals mm := hn
      rw [cL] at hn
      exact kR dd t3.heap.objs.size t6 mm g5 J7 qq hn (J3.fpOk (Nat.le_refl _) nC)
    · have ti := tr.item (X.blk t3 g3 sc cx fq) rfl rfl rfl kc i [] t5 _ g5 (fun _ _ => False) J5 (stat J5 v5) u5 gon
      refine thnF ti fun r t6 ⟨u, hr, h6⟩ => ?_
      subst hr
      refine thnF h6 fun _ t7 ⟨xx, g7, J7, e7, z7, u7, v7⟩ => ?_
      have J7' := J7.pinned (stat J7 v7) (tr.obj _ _ u7)
      refine thnF (pg.run _ t7 _ g7 xx u _ J7' e7 (stp xx g7 z7)) fun _ t8 ⟨st8, g8, J8, kw8, qq8⟩ => ?_
      refine thnF (pt.run _ t8 st8 g8 _ J8 qq8) fun b t9 ⟨g9, J9, qq9⟩ => ?_
      -- the turn's end
      have fi : ∀ {s' : Shared} {g' : Hp}, Inv (X.blk t3 g3 sc cx fq) ([] ++ pinsAt fq t7.heap) st8 g' s' → nxt g' → ∃ mm, mm < n ∧ ∃ i g', Inv (X.blk t3 g3 sc cx fq) [] (wipe st (ow.map (·.2))) g' s' ∧ tw i s'.heap ∧ (∀ b ∈ fq, g' b = none) ∧ ww i mm g' := fun {s' g'} J' nx => by
        obtain ⟨m', lm, w0'⟩ := hnx g' nx
        have pq' : ∀ b ∈ fq, ∀ o, t7.heap.get? b = some o → s'.heap.get? b = some o ∧ g' b = none := fun b hb o e =>
          let z := J'.pin (b, o) (List.mem_append_right _ (List.mem_append_right _ (mem_pinsAt hb e)))
          ⟨z.1, z.2.1⟩
        have hl : (wipe st (ow.map (·.2))).length = st8.length := by rw [← kw8, wipe_length]
        refine ⟨m', lm, i + 1, g', (J'.unpinned (pins := [])).weak hl (fun j v e => ?_), tr.keep _ _ _ u7 fun b hb o e => (pq' b hb o e).1, fun b hb => ?_, w0'⟩
        · rw [← kw8] at e
          exact (wipe_some e).1
        · obtain ⟨o, e, _⟩ := tr.obj _ _ u7 b hb
          exact (pq' b hb o e).2
      cases b with
      | false =>
        simp only [Bool.false_eq_true, if_false] at qq9 ⊢
        exact fi J9 qq9
      | true =>
        simp only [if_true] at qq9 ⊢
        refine thnF (pe.run _ t9 st8 g9 _ J9 qq9) fun z t10 ⟨yv, g10, J10, r10, cb, S0, n0, ey, hD10, hz10, nx⟩ => ?_
        subst ey
        obtain ⟨tk, rfl⟩ : ∃ tk, z = Value.int cb tk := r10
        exact addI_ok (X := X.blk t3 g3 sc cx fq) J10 hD10 hz10 fun t11 J11 => fi J11 nx
  exact PpSet.codeAny_compStart_set loop (tr.self X.A 0 _ _ _ u4 loop)
theorem pe_sci {el tv ie : Expr} {cs : List Expr} {sc : Scope} {ow : List (PySem.Str × Nat)} {ps : Pos} {ri : TI} {rg : TG} {rt : TT} {re : TE} (kc : X.calm = true) (kN : X.N.Nodup) (ki : PI X tv ie ri) (bo : BlkOk X.N X.env.scope sc ow)
    (kg : ∀ (s : Shared) (hp : Hp) (cc : Addr) (cl : List (PySem.Str × Addr)) (fq : List Addr), PG (X.blk s hp sc (compEnvC sc cl cc X.env) fq) tv rg) (kt : ∀ (s : Shared) (hp : Hp) (cc : Addr) (cl : List (PySem.Str × Addr)) (fq : List Addr), PTs (X.blk s hp sc (compEnvC sc cl cc X.env) fq) cs rt)
    (ke : ∀ (s : Shared) (hp : Hp) (cc : Addr) (cl : List (PySem.Str × Addr)) (fq : List Addr), PE (X.blk s hp sc (compEnvC sc cl cc X.env) fq) el re) (ks : ∀ x, foldedSetIterable ie X.env x = pure x) :
    PE X (.SetComp el [⟨tv, ie, cs, 0⟩] sc ps) (tSci X.w ri rg rt re (ow.map (·.2))) := by
  refine ⟨fun pn s st hp qk J0 h => ?_⟩
  rw [PpSet.eval_SetComp]
  refine sci_core kc kN J0 ki bo kg kt ke ks h fun dd cc s' m g' J' q hn f => ⟨m, hn, fun h2 sb => ?_⟩
  obtain ⟨f0, f1, f2, f3, f4, f5⟩ := f
  exact ⟨.ref dd, g', J'.turned (t' := s'.toks) (fun b o hb e => (sb.2 b hb).trans e) f0 f1 f3 f4 f5, rfl, q⟩
end
/-! ### in the own language -/
theorem set_ne_code {w : World} {p q : Addr} {M : Int → Bool} {n : Nat} {c : Str} : HO.ext (fun h => SetR w h q M n) ≠ LamX.CodeO p c := by
  intro e
  unfold LamX.CodeO at e
  injection e with e
  let ob : Obj := { cls := .none, data := .fields #[.none, .str c 0] }
  let h : Heap := { objs := Array.replicate (p + q + 1) ob }
  have g : ∀ a : Nat, a ≤ p + q → h.get? a = some ob := fun a ha => by
    have : a < p + q + 1 := Nat.lt_succ_of_le ha
    simp [Heap.get?, h, ob, this]
  have k : (fun h : Heap => SetR w h q M n) h := by
    rw [e]
    exact ⟨ob, _, 0, g p (Nat.le_add_right p q), rfl, rfl⟩
  obtain ⟨o, es, ep, t, g1, _, g2, _⟩ := k
  rw [g q (Nat.le_add_left q p)] at g1
  cases g1
  cases g2
theorem RS.touchE {A : Ad} {m : List Addr} {S : Sto} {H : Hp} (r : RS A m S H) {w : World} {p q : Addr} {M : Int → Bool} {n : Nat} (o : HO) (hp : H p = some (SetO w q M n)) (np : p ∉ m) : Mon m H m (upd H p o) ∧ RS A m S (upd H p o) := by
  unfold SetO at hp
  have x : Mon m H m (upd H p o) := ⟨fun _ _ h => h, fun a ys h => (upd_ne (fun e => by rw [e, hp] at h; cases h)).trans h, fun a ob ys h => (upd_ne (fun e => by rw [e, hp] at h; cases h)).trans h, fun a c n h => ⟨n, (upd_ne (fun e => by subst e; rw [hp] at h; exact set_ne_code (Option.some.inj h))).trans h⟩⟩
  have ee : ∀ a ∈ m, upd H p o a = H a := fun a h => upd_ne (fun e => np (e ▸ h))
  refine ⟨x, r.len, r.nd, fun a h => by rw [ee a h]; exact r.chg a h, fun i ob a e1 e2 => (r.obj i ob a e1 e2).mon x (ee a (List.mem_of_getElem? e2))⟩
theorem onceI_snoc (ns : List Int) (c : Int) : (onceI (ns ++ [c])).length = if c ∈ ns then (onceI ns).length else (onceI ns).length + 1 := by
  by_cases h : c ∈ ns
  · rw [if_pos h]
    refine ((List.perm_ext_iff_of_nodup (onceI_nodup _) (onceI_nodup _)).mpr fun a => ?_).length_eq
    rw [onceI_mem, onceI_mem]
    simp only [List.mem_append, List.mem_singleton]
    exact ⟨fun z => z.elim id fun e => e ▸ h, .inl⟩
  · rw [if_neg h]
    have p : (onceI (ns ++ [c])).Perm (c :: onceI ns) := (List.perm_ext_iff_of_nodup (onceI_nodup _) (List.nodup_cons.mpr ⟨fun z => h (onceI_mem.mp z), onceI_nodup _⟩)).mpr fun a => by
      rw [onceI_mem, List.mem_cons, onceI_mem]
      simp only [List.mem_append, List.mem_singleton]
      exact Or.comm
    rw [p.length_eq]
    rfl
theorem onceI_grow (ns : List Int) : ∀ ks : List Int, (onceI ns).length ≤ (onceI (ns ++ ks)).length
  | [] => by rw [List.append_nil] <;> exact Nat.le_refl _
  | k :: ks => by
    have h := onceI_grow (ns ++ [k]) ks
    rw [List.append_assoc] at h
    refine Nat.le_trans ?_ h
    rw [onceI_snoc]
    split
    · exact Nat.le_refl _
    · exact Nat.le_succ _
termination_by ks => ks.length
theorem compR_pre {v : ItV} {turn : D → Sto → R (List D)} : ∀ {xs : List D} {acc ys : List D} {S S' : Sto}, compR xs v turn acc S = .ok ys S' → ∃ t, ys = acc ++ t
  | [], acc, ys, S, S', h => by
    simp only [compR] at h
    split at h
    · cases h
      exact ⟨[], by simp⟩
    · cases h
  | x :: xs, acc, ys, S, S', h => by
    simp only [compR] at h
    split at h
    · cases q : turn x S with
      | ok zs S1 =>
        rw [q] at h
        simp only [R.calm_ok, R.bind_ok] at h
        split at h
        · obtain ⟨t, e⟩ := compR_pre h
          exact ⟨zs ++ t, by rw [e, List.append_assoc]⟩
        · cases h
      | stuck => rw [q] at h; cases h
      | exc _ _ _ => rw [q] at h; cases h
    · cases h
theorem compR_calm {v : ItV} {turn : D → Sto → R (List D)} {c : Nat} {fs : List (List Nat × D)} : ∀ {xs : List D} {acc : List D} {S S' : Sto}, compR xs v turn acc S ≠ .exc c fs S'
  | [], acc, S, S', h => by
    simp only [compR] at h
    split at h <;> cases h
  | x :: xs, acc, S, S', h => by
    simp only [compR] at h
    split at h
    · cases q : turn x S with
      | ok zs S1 =>
        rw [q] at h
        simp only [R.calm_ok, R.bind_ok] at h
        split at h
        · exact compR_calm h
        · cases h
      | stuck => rw [q] at h; cases h
      | exc _ _ _ => rw [q] at h; cases h
    · cases h
theorem allInt_app : ∀ {xs ys : List D} {ns : List Int}, allInt (xs ++ ys) = some ns → ∃ n1 n2, ns = n1 ++ n2 ∧ allInt xs = some n1 ∧ allInt ys = some n2
  | [], ys, ns, h => ⟨[], ns, rfl, rfl, h⟩
  | .int i :: xs, ys, ns, h => by
    simp only [List.cons_append, allInt] at h
    obtain ⟨ks, h1, rfl⟩ := Option.map_eq_some_iff.mp h
    obtain ⟨n1, n2, rfl, h2, h3⟩ := allInt_app h1
    exact ⟨i :: n1, n2, rfl, by simp [allInt, h2], h3⟩
  | .non :: _, _, _, h => by cases h
  | .bl _ :: _, _, _, h => by cases h
  | .str _ :: _, _, _, h => by cases h
  | .tup _ :: _, _, _, h => by cases h
  | .scr _ :: _, _, _, h => by cases h
  | .ob _ :: _, _, _, h => by cases h
  | .fn _ :: _, _, _, h => by cases h
section
variable {A : Ad} {W : WX} {X : Cx} {tg iter : Expr} {pos p : Pos}
/-- what is still to come says of what there is -/
theorem sc_facts {E : XK} {m : List Addr} {H : Hp} {Q : V → Hp → Prop} {xs acc : List D} {v : ItV} {turn : D → Sto → R (List D)} {S : Sto} (h : Post A (rL A) E m H ((compR xs v turn acc S).bind fun ys S2 => ofOpt (setSortD ys) S2) Q) : ∃ ns, allInt acc = some ns ∧ (onceI ns).length < 64 := by
  cases q : compR xs v turn acc S with
  | stuck => rw [q] at h; exact h.elim
  | exc c fs S' => exact absurd q compR_calm
  | ok ys S2 =>
    rw [q] at h
    simp only [R.bind_ok, setSortD] at h
    obtain ⟨t, rfl⟩ := compR_pre q
    cases q2 : allInt (acc ++ t) with
    | none => rw [q2] at h; exact h.elim
    | some ns =>
      obtain ⟨n1, n2, rfl, h1, _⟩ := allInt_app q2
      rw [q2] at h
      refine ⟨n1, h1, ?_⟩
      simp only [Option.bind_some] at h
      split at h
      · rename_i hl
        exact Nat.lt_of_le_of_lt (onceI_grow n1 n2) hl
      · exact h.elim
theorem sc_read {w : World} {own : List (Str × Nat)} {g : G} {fit : Env → Sto → R ItV} {fT : Env → Sto → R Bool} {fE : Env → Sto → R D} (hsub : ∀ i ∈ g.slots, i ∈ own.map (·.2)) {σ : L2.St} {H : Hp} {Q : V → Hp → Prop}
    (h : tR A (rL A) W (fun ρ S => (fit ρ S).bind fun v S1 => (compR v.items v (turn1 g (own.map (·.2)) fT fE ρ) [] S1).bind fun xs S2 => ofOpt (setSortD xs) S2) σ H Q) : tSci w (tR A (rI A) W fit) (tGo A g) (tR A rB WF fT) (tR A (rE A) WF fE) (own.map (·.2)) σ H (fun x H1 => rSortedSet w [x] H1 Q) := by
  obtain ⟨m, ρ, S, rs, re, p⟩ := h
  refine ⟨m, ρ, S, rs, re, p.bind0 fun v S1 m1 H1 J x1 rs1 ⟨G0, Y, wk, hI0⟩ p1 => fun D hD => ?_⟩
  generalize hvs : own.map (·.2) = vs at *
  have nD1 : D ∉ m1 := fun z => rs1.there D z hD
  have hI := hI0 (fun _ => False) fun _ f => f.elim
  have sc_stays : ∀ {i : Nat} {acc : List PL.D} {S' : Sto}, Post A (rL A) (fun c d H' => W c d σ H') m H ((compR (v.items.drop i) v (turn1 g vs fT fE ρ) acc S').bind fun xs S2 => ofOpt (setSortD xs) S2) Q → v.stays S' = true := fun p2 => compR_stays fun z => by rw [z] at p2; exact p2
  refine gen_it wk (fun i H' => ∃ m' S' acc ns, Ext m1 H1 m' H' ∧ RS A m' S' H' ∧ allInt acc = some ns ∧ H' D = some (SetO w D (fun j => decide (j ∈ ns)) (onceI ns).length) ∧ D ∉ m' ∧ Post A (rL A) (fun c d H' => W c d σ H') m H ((compR (v.items.drop i) v (turn1 g vs fT fE ρ) acc S').bind fun xs S2 => ofOpt (setSortD xs) S2) Q) ?_ ?_ ?_ ?_
  · obtain ⟨x2, rs2⟩ := rs1.lay (SetO w D (fun _ => false) 0) hD
    exact ⟨m1, S1, [], [], x2, rs2, rfl, by rw [upd_same]; congr 2, nD1, p1⟩
  · rintro i H' hi ⟨m', S', acc, ns, x2, rs2, ea, hl, nD, p2⟩
    exact hI.1 m' S' H' (x2.toB _) rs2 (sc_stays p2)
  · rintro i x H' H2 hi ⟨m', S', acc, ns, x2, rs2, ea, hl, nD, p2⟩ hy
    have hd : v.items.drop i = v.items[i] :: v.items.drop (i + 1) := List.drop_eq_getElem_cons hi
    have st := sc_stays p2
    rw [hd] at p2
    simp only [compR, st, if_true] at p2
    obtain ⟨x3, rs3, rx⟩ := hI.2 i H' x H2 m' S' v.items[i] (x2.toB _) rs2 (List.getElem?_eq_getElem hi) st hy
    cases hρ : asgG g v.items[i] (wipeE ρ vs) with
    | none =>
      rw [turn1_none S' hρ] at p2
      exact p2.elim
    | some ρ1 =>
      rw [turn1_some S' hρ] at p2
      refine ⟨m', wipeE ρ vs, S', v.items[i], ρ1, rs3, ((((re.mono rs x1).mono rs1 x2).mono rs2 x3).wipe vs), rx, hρ, fun σ' re' sb => ⟨?_, m', ρ1, S', rs3, re', ?_⟩⟩
      · rw [sb.wipe hsub, wipe_wipe]
      have hl2 : H2 D = some (SetO w D (fun j => decide (j ∈ ns)) (onceI ns).length) := x3.keep _ _ hl nD
      simp only [R.calm_bind, R.bind_assoc, R.calm_calm] at p2
      refine p2.bindC fun b S4 m4 H4 b' eq x4 rs4 rb p4 => ?_
      obtain rfl : b' = b := rb
      have nD4 : D ∉ m4 := x4.out hl2 nD
      have hl4 : H4 D = some (SetO w D (fun j => decide (j ∈ ns)) (onceI ns).length) := x4.keep _ _ hl2 nD
      have xx : Ext m1 H1 m4 H4 := (x2.trans x3).trans x4
      cases b' with
      | false =>
        simp only [Bool.false_eq_true, if_false, R.calm_ok, R.bind_ok, List.append_nil] at p4 ⊢
        split at p4
        · exact ⟨m4, S4, acc, ns, xx, rs4, ea, hl4, nD4, p4⟩
        · exact p4.elim
      | true =>
        simp only [if_true, R.calm_bind, R.bind_assoc, R.calm_calm] at p4 ⊢
        refine ⟨m4, ρ1, S4, rs4, re'.mono rs3 x4, ?_⟩
        refine p4.bindC fun y S5 m5 H5 u eq5 x5 rs5 ru p5 => ?_
        simp only [R.calm_ok, R.bind_ok] at p5
        split at p5
        · obtain ⟨nt, e1, e2⟩ := sc_facts p5
          obtain ⟨n1, n2, rfl, e3, e4⟩ := allInt_app e1
          obtain rfl : n1 = ns := by rw [ea] at e3; exact (Option.some.inj e3).symm
          have hl5 : H5 D = some (SetO w D (fun j => decide (j ∈ n1)) (onceI n1).length) := x5.keep _ _ hl4 nD4
          have nD5 : D ∉ m5 := x5.out hl4 nD4
          cases y with
          | int c =>
            obtain rfl : n2 = [c] := by simpa [allInt] using e4.symm
            have hb : (onceI n1).length + 1 < scanBound := by
              have h1 := Nat.lt_of_le_of_lt (onceI_grow n1 [c]) e2
              unfold scanBound
              omega
            refine ⟨c, _, _, ru, hl5, hb, ?_⟩
            have hx0 : H1 D = none := hD
            have mo := rs5.touchE (SetO w D (fun j => decide (j ∈ n1) || decide (j = c)) (if decide (c ∈ n1) = true then (onceI n1).length else (onceI n1).length + 1)) hl5 nD5
            refine ⟨m5, S5, acc ++ [.int c], n1 ++ [c], (xx.trans x5).touch _ hD nD1, mo.2, e1, ?_, nD5, p5⟩
            rw [upd_same, onceI_snoc]
            congr 2
            · funext j
              simp
            · simp
          | _ => cases e4
        · exact p5.elim
  · rintro H' ⟨m', S', acc, ns, x2, rs2, ea, hl, nD, p2⟩
    rw [List.drop_length] at p2
    have st : v.stays S' = true := compR_stays fun z => by rw [z] at p2; exact p2
    simp only [compR, st, if_true, R.bind_ok, setSortD, ea, Option.bind_some] at p2
    split at p2
    · rename_i h64
      refine ⟨D, _, _, rfl, hl, h64, fun ks l hso hmem hlen hl0 => ?_⟩
      have e : ks = sortI (onceI ns) := sorted_uniq (((List.perm_ext_iff_of_nodup (hso.imp fun h => Int.ne_of_lt h) (onceI_nodup ns)).mpr fun a => by rw [hmem a, onceI_mem, decide_eq_true_eq]).trans (sortI_perm _).symm) (hso.imp fun h => Int.le_of_lt h) (sortI_sorted _)
      subst e
      obtain ⟨x3, rs3⟩ := rs2.lay (.lst ((sortI (onceI ns)).map V.int)) hl0
      exact p2 m' _ (.ref l) ((x1.trans x2).trans x3) rs3 ⟨l, _, rfl, upd_same, (x1.trans x2).none hl0, fun z => rs2.there l z hl0, RVs.ints _⟩
    · exact p2.elim
theorem sl_sortSC {p2 : Pos} {elt : Expr} {ifs : List Expr} {scope : Scope} {own : List (Str × Nat)} {g : G} {fit : Env → Sto → R ItV} {fT : Env → Sto → R Bool} {fE : Env → Sto → R D} (hg0 : Gl X "sorted") (hm : X.mg "sorted" = none) (hst : starEach [.SetComp elt [⟨tg, iter, ifs, 0⟩] scope p2] X.env = [(false, eval (.SetComp elt [⟨tg, iter, ifs, 0⟩] scope p2) X.env)])
    (hc : X.calm = true) (hN : X.N.Nodup) (hi : SI A W X tg iter fit) (ok : BlkOk X.N X.env.scope scope own)
    (hg : ∀ (s : Shared) (H : Hp) (C : Addr) (cl : List (Str × Addr)) (fp : List Addr), PG (X.blk s H scope (compEnvC scope cl C X.env) fp) tg (tGo A g))
    (ht : ∀ (s : Shared) (H : Hp) (C : Addr) (cl : List (Str × Addr)) (fp : List Addr), PTs (X.blk s H scope (compEnvC scope cl C X.env) fp) ifs (tR A rB WF fT))
    (he : ∀ (s : Shared) (H : Hp) (C : Addr) (cl : List (Str × Addr)) (fp : List Addr), SE A WF (X.blk s H scope (compEnvC scope cl C X.env) fp) elt fE)
    (hs : ∀ x, foldedSetIterable iter X.env x = pure x) (hsub : ∀ i ∈ g.slots, i ∈ own.map (·.2)) :
    SL A W X (.Call (.Name "sorted" p) [.SetComp elt [⟨tg, iter, ifs, 0⟩] scope p2] [] pos) (fun ρ S => (fit ρ S).bind fun v S1 => (compR v.items v (turn1 g (own.map (·.2)) fT fE ρ) [] S1).bind fun xs S2 => ofOpt (setSortD xs) S2) :=
  (pe_callB (cr_sortedSet hc) hg0 hm (by rfl) (pa_cons (pe_sci hc hN hi ok hg ht he hs) pa_nil hst) (by decide) (by decide) hst rfl).imp fun σ H Q h => sc_read hsub h
end
end PL

set_option Elab.async false
set_option linter.all false
set_option maxRecDepth 100000
set_option maxHeartbeats 1000000
/-! PLR: more rules: a sign in a text, + and reversal of lists, range by steps, raise, try. -/
namespace PL
open PySem PySem.Spec PyProof.Rows L2
section
variable {A : Ad} {W : WX} {X : Cx} {e a b c o tg : Expr} {es : List Expr} {pos pos' p apos cpos : Pos} {fe fa fb fc fo : Env → Sto → R D} {fes fl fl2 : Env → Sto → R (List D)}
/-! ### a sign in a text -/
theorem inSg_ok : CmS A (fun x y H Q => ∃ (c : Nat) (z : Str), x = .str ⟨#[c]⟩ ∧ y = .str z ∧ Q (.bl (decide (c ∈ z.cps.toList))) H) InSg := by
  intro m S H d e x y k Q rs rd re h q
  unfold InSg at h
  split at h
  · rename_i c t
    cases h
    refine ⟨c, S' t, rd, re, ?_⟩
    have : decide (c ∈ (S' t).cps.toList) = decide (c ∈ t) := by
      show decide (c ∈ t.toArray.toList) = _
      simp
    rw [this]
    exact q
  · cases h
theorem notSg_ok : CmS A (fun x y H Q => ∃ (c : Nat) (z : Str), x = .str ⟨#[c]⟩ ∧ y = .str z ∧ Q (.bl (!decide (c ∈ z.cps.toList))) H) (fun x y => (InSg x y).map (!·)) := by
  intro m S H d e x y k Q rs rd re h q
  obtain ⟨k', h2, rfl⟩ := Option.map_eq_some_iff.mp h
  clear h
  unfold InSg at h2
  split at h2
  · rename_i c t
    cases h2
    refine ⟨c, S' t, rd, re, ?_⟩
    have : decide (c ∈ (S' t).cps.toList) = decide (c ∈ t) := by
      show decide (c ∈ t.toArray.toList) = _
      simp
    rw [this]
    exact q
  · cases h2
/-! ### lists -/
theorem sl_cat (ha : SL A W X a fl) (hb : SL A W X b fl2) : SL A W X (.BinOp a .Add b pos) (fun ρ S => (fl ρ S).bind fun xs S1 => (fl2 ρ S1).bind fun ys S2 => if xs.length + ys.length ≤ 10000000 then .ok (xs ++ ys) S2 else .stuck) := (pe_op op_cat ha hb).imp fun σ H Q ⟨m, ρ, S, rs, re, p⟩ => by
  refine ⟨m, ρ, S, rs, re, p.bind0 fun xs S1 m1 H1 v x1 rs1 rv1 p1 => ?_⟩
  obtain ⟨l, vs, rfl, h1, h2, h3, h4⟩ := rv1
  have p1' := Post.shift anL p1 x1
  have nl : ∀ {m2 H2}, Ext m1 H1 m2 H2 → H2 l = some (.lst vs) := fun x2 => x2.keep _ _ h1 h3
  refine ⟨m1, ρ, S1, rs1, re.mono rs x1, ?_⟩
  refine Post.bind0 p1' fun ys S2 m2 H2 w x2 rs2 rv2 p2 => ?_
  obtain ⟨l2, ws, rfl, k1, k2, k3, k4⟩ := rv2
  split at p2
  · rename_i hl
    have g := RVs.mono rs1 x2 h4
    refine ⟨l, l2, vs, ws, rfl, rfl, nl x2, k1, by rw [g.length, k4.length]; exact Nat.le_trans hl (Nat.le_of_lt line10), fun q hq => ?_⟩
    obtain ⟨x3, rs3⟩ := rs2.lay (.lst (vs ++ ws)) hq
    exact p2 m2 _ (.ref q) (x2.trans x3) rs3 ⟨q, _, rfl, upd_same, x2.none hq, fun z => rs2.there q z hq, (g.append k4).mono rs2 x3⟩
  · exact p2.elim
theorem sl_catE (ha : SE A W X a fa) (hb : SL A W X b fl) : SL A W X (.BinOp a .Add b pos) (fun ρ S => (fa ρ S).bind fun x S1 => (fl ρ S1).bind fun ys S2 => match x with
    | .ob i => match lstAt S2 i with
      | some xs => if xs.length + ys.length ≤ 10000000 then .ok (xs ++ ys) S2 else .stuck
      | none => .stuck
    | _ => .stuck) := (pe_op op_cat ha hb).imp fun σ H Q ⟨m, ρ, S, rs, re, p⟩ => by
  refine ⟨m, ρ, S, rs, re, p.bind0 fun x S1 m1 H1 v x1 rs1 rv1 p1 => ?_⟩
  refine ⟨m1, ρ, S1, rs1, re.mono rs x1, ?_⟩
  refine Post.bind0 (Post.shift anL p1 x1) fun ys S2 m2 H2 w x2 rs2 rv2 p2 => ?_
  obtain ⟨l2, ws, rfl, k1, k2, k3, k4⟩ := rv2
  cases x with
  | ob i =>
    obtain ⟨l, hi, rfl⟩ := rv1
    dsimp only at p2
    split at p2
    · rename_i xs el
      split at p2
      · rename_i hl
        obtain ⟨vs, g1, g⟩ := lstAt_ok rs2 (x2.get hi) el
        refine ⟨l, l2, vs, ws, rfl, rfl, g1, k1, by rw [g.length, k4.length]; exact Nat.le_trans hl (Nat.le_of_lt line10), fun q hq => ?_⟩
        obtain ⟨x3, rs3⟩ := rs2.lay (.lst (vs ++ ws)) hq
        exact p2 m2 _ (.ref q) (x2.trans x3) rs3 ⟨q, _, rfl, upd_same, x2.none hq, fun z => rs2.there q z hq, (g.append k4).mono rs2 x3⟩
      · exact p2.elim
    · exact p2.elim
  | _ => exact p2.elim
theorem RVs.reverse {m : List Addr} {H : Hp} : ∀ {ds : List D} {vs : List V}, RVs A m H ds vs → RVs A m H ds.reverse vs.reverse
  | [], _, h => by rw [show _ = [] from h]; rfl
  | d :: ds, _, ⟨v, us, e, h1, h2⟩ => by
    rw [e, List.reverse_cons, List.reverse_cons]
    exact RVs.append (RVs.reverse h2) (RVs.one h1)
theorem sl_rev {k : Nat} {p1 p2 p3 : Pos} (he : SE A W X e fe) : SL A W X (.Subscript e (.Slice none none (some (.UnaryOp .USub (.Constant (.int 1) k p1) p2)) p3) pos) (fun ρ S => (fe ρ S).bind fun x S1 => match x with
    | .ob i => match lstAt S1 i with
      | some xs => .ok xs.reverse S1
      | none => .stuck
    | _ => .stuck) := (pe_revL he).imp fun σ H Q ⟨m, ρ, S, rs, re, p⟩ => by
  refine ⟨m, ρ, S, rs, re, p.bind0 fun x S1 m1 H1 v x1 rs1 rv1 p1 => ?_⟩
  cases x with
  | ob i =>
    obtain ⟨l, hi, rfl⟩ := rv1
    dsimp only at p1
    split at p1
    · rename_i xs el
      obtain ⟨vs, g1, g⟩ := lstAt_ok rs1 hi el
      refine ⟨l, vs, rfl, .of g1, fun q hq => ?_⟩
      obtain ⟨x2, rs2⟩ := rs1.lay (.lst vs.reverse) hq
      exact p1 m1 _ (.ref q) (x1.trans x2) rs2 ⟨q, _, rfl, upd_same, x1.none hq, fun z => rs1.there q z hq, g.reverse.mono rs1 x2⟩
    · exact p1.elim
  | _ => exact p1.elim
/-! ### range by steps -/
theorem si_rng3 (hg : Gl X "range") (hm : X.mg "range" = none) (ha : SE A W X a fa) (hb : SE A W X b fb) (hc : SE A W X c fc) 
    (hs1 : starEach [a, b, c] X.env = (false, eval a X.env) :: starEach [b, c] X.env) (hs2 : starEach [b, c] X.env = (false, eval b X.env) :: starEach [c] X.env) (hs3 : starEach [c] X.env = [(false, eval c X.env)]) (hpl : (backTo pos (starEach [b, c] X.env)).any (·.1) = false) :
    SI A W X tg (.Call (.Name "range" p) [a, b, c] [] pos) (fun ρ S => (fa ρ S).bind fun x S1 => (fb ρ S1).bind fun y S2 => (fc ρ S2).bind fun z S3 => match x, y, z with
      | .int i, .int j, .int k => if decide (k ≠ 0 ∧ k.natAbs < 1073741824) && Builtin.Range.small i j k then .ok { items := rngD i (Builtin.Range.rangeSize i j k).toNat k } S3 else .stuck
      | _, _, _ => .stuck) := (pi_range3 hg hm (pa_cons ha (pa_cons hb (pa_cons hc pa_nil hs3) hs2) hs1) hs1 hpl).imp fun σ H Q ⟨m, ρ, S, rs, re, p⟩ => by
  refine ⟨m, ρ, S, rs, re, p.bind anI fun x S1 m1 H1 v x1 rs1 rv1 p1 => ?_⟩
  refine ⟨m1, ρ, S1, rs1, re.mono rs x1, p1.bind anI fun y S2 m2 H2 u x2 rs2 rv2 p2 => ?_⟩
  refine ⟨m2, ρ, S2, rs2, (re.mono rs x1).mono rs1 x2, p2.bind anI fun z S3 m3 H3 w x3 rs3 rv3 p3 => ?_⟩
  split at p3
  · rename_i i j k
    split at p3
    · rename_i hk
      rw [Bool.and_eq_true, decide_eq_true_eq] at hk
      exact ⟨i, j, k, _, by rw [show v = V.int i from rv1, show u = V.int j from rv2, show w = V.int k from rv3], ⟨hk.1.1, hk.1.2, hk.2, PyProof.Rows.rangeSize_toNat i j k⟩, p3.now rs3 (rI_rngC rs3)⟩
    · exact p3.elim
  · exact p3.elim
end
/-! ### exceptions -/
/-- a class whose instances may be made with a text and raised -/
def MkC (K : PySem.W.Frag) (C : Addr) : Prop := (∃ (B newId initId : String) (bmB : List Value), ExcBaseFacts B newId initId bmB ∧ PySem.W.excIn K C bmB newId = true) ∧ PySem.W.keepIn K (.ref C) = true ∧ PySem.W.subIn K (.ref C) (.type "BaseException") = some true ∧ PySem.W.typeIn K (.ref C) = some (.type "type")
section
variable {A : Ad} {W : WX} {X : Cx} {pos p p2 pos2 np pos' : Pos}
theorem ss_raise {x m : Str} {j : Nat} {c : Nat} (hc : X.calm = true) (tk : Takes X W) (hg : Gl X x) (hm : X.mg x = some (.ref (A.ca c))) (k : MkC X.K (A.ca c)) (hdb : (x == ("__debug__" : Str)) = false) :
    SS A W X (.Raise (some (.Call (.Name x p) [.Constant (.str m) j p2] [] pos)) none pos2) (fun ρ S => .exc c [] ρ S) := by
  obtain ⟨⟨B, newId, initId, bmB, F, q⟩, k1, k2, k3⟩ := k
  refine (ps_raise hc tk (pmk_own F q hm k1 (raises_own k2 k3) hg hdb)).imp fun D σ H ⟨m, ρ, S, rs, re, p⟩ => ?_
  exact p m H σ none rs.ext rs re (.inl ⟨rfl, rfl⟩)
/-- try: .. except x as n: return isinstance(n, y) -/
theorem ss_tryIs {x y n : Str} {c i d0 : Nat} {isx : Nat → Nat → Option Bool} {body : List Stmt} {f : Env → Sto → F} {q1 q2 q3 q4 rp : Pos} (hs : X.stack = X.env :: X.outer) (hf : X.env.frame = some X.env.locals) (hN : X.N.Nodup) (hi : X.N[i]? = some n) (hln : X.env.kindOf n = some .local)
    (hgx : Gl X x) (hmx : X.mg x = some (.ref (A.ca c))) (hdx : (x == ("__debug__" : Str)) = false) (hgy : Gl X y) (hmy : X.mg y = some (.ref (A.ca d0))) (hdy : (y == ("__debug__" : Str)) = false) (hdn : (n == ("__debug__" : Str)) = false ∧ (n == ("__classdict__" : Str)) = false) (hgi : Gl X "isinstance") (hmi : X.mg "isinstance" = none) (tk : Takes X W)
    (hisx : ∀ c' b m, isx c' m = some b → PySem.W.exmOne X.K (.ref (A.ca c')) (.ref (A.ca m)) = some b ∧ PySem.W.kitOne X.K (.ref (A.ca c')) (.ref (A.ca m)) = some b ∧ ExcC X.K (A.ca c'))
    (hb : ∀ (W : WX) (pn : List (Addr × Obj)) (xe : Value → Shared → Prop), Takes (X.tr pn xe) W → PassesOwn (model X.prog X.w) X.A X.env xe → SSs A W (X.tr pn xe) body f) :
    SS A W X (.Try body [.ExceptHandler (some (.Name x np)) (some n) [.Return (some (.Call (.Name "isinstance" q1) [.Name n q2, .Name y q3] [] q4)) rp] pos'] [] [] pos) (fun ρ S => match f ρ S with
      | .exc d fs ρ1 S1 => match fs, isx d c with
        | [], some true => match isx d d0 with
          | some r => if i < ρ1.length then .ret (.bl r) S1 else .stuck
          | none => .stuck
        | _, some false => .exc d fs ρ1 S1
        | _, _ => .stuck
      | f => f) := by
  -- the suite: its reading is chosen by the class
  let ts : Addr → Value → Option Addr → TS := fun a cls d D σ H => ∃ D0 b, cls = .ref D0 ∧ d = none ∧ ExcC X.K D0 ∧ PySem.W.kitOne X.K (.ref D0) (.ref (A.ca d0)) = some b ∧ σ[i]? = some (some (.ref a)) ∧ D.rt (.bl b) H
  refine (ps_try_as (ts := ts) (tb := fun W => tF A W f) hs hf hN hi hln ⟨hgx, hdx, .inl hmx⟩ tk (fun W pn xe tk hp => hb W pn xe tk hp) fun a oe cls d pn hz hfd => ?_).imp fun D σ H ⟨m, ρ, S, rs, re, p⟩ => ?_
  · refine ⟨fun pins s σ H D I ⟨D0, b, e1, e2, hC, hk, hσ, hq⟩ => ?_⟩
    subst e1
    subst e2
    have vis : Vis (X.suite a ((a, oe) :: pn)).env.scope n := .inl hln
    have hc := pe_callB (X := X.suite a ((a, oe) :: pn)) (pos := q4) (p := q1) (call_isE (X := X) (pn := pn) hC hz hfd) (show Gl _ "isinstance" from hgi) (show _ = none from hmi) (by rfl) (pa_cons (pe_var (X := X.suite a ((a, oe) :: pn)) (pos := q2) hi vis hdn.1 hdn.2) (pa_cons (pe_glob (X := X.suite a ((a, oe) :: pn)) (pos := q3) (v := .ref (A.ca d0)) hgy hmy rfl hdy) pa_nil rfl) rfl) (by decide) (by decide) rfl rfl
    exact (pss_one (ps_ret (pos := rp) hc)).run pins s σ H D I ⟨_, hσ, .ref (A.ca d0), .ref (A.ca d0), b, rfl, fun u r => r, hk, hq⟩
  · show tF A _ f D σ H
    refine ⟨m, ρ, S, rs, re, ?_⟩
    dsimp only at p
    cases q : f ρ S with
    | stuck => rw [q] at p; exact p
    | nx ρ1 S1 => rw [q] at p; exact p
    | brk ρ1 S1 => rw [q] at p; exact p
    | cnt ρ1 S1 => rw [q] at p; exact p
    | ret d1 S1 => rw [q] at p; exact p
    | exc d1 fs ρ1 S1 =>
      rw [q] at p
      dsimp only at p
      intro m' H' σ' d x' rs' re' rx
      split at p
      · rename_i h1
        split at p
        · rename_i r h2
          obtain ⟨g1, _, gC⟩ := hisx _ _ _ h1
          obtain ⟨_, g2, _⟩ := hisx _ _ _ h2
          refine ⟨true, g1, fun _ a ha => ?_, fun z => Bool.noConfusion z⟩
          have hd : d = none := by
            rcases rx with ⟨_, e⟩ | ⟨ne, _⟩
            · exact e
            · exact absurd rfl ne
          split at p
          · rename_i il
            exact ⟨_, r, rfl, hd, gC, g2, List.getElem?_set_self (by rw [← re'.1]; exact il), p m' H' (.bl r) x' rs' rfl⟩
          · exact p.elim
        · exact p.elim
      · rename_i h1
        obtain ⟨g1, _, _⟩ := hisx _ _ _ h1
        exact ⟨false, g1, fun z => Bool.noConfusion z, fun _ => p m' H' σ' d x' rs' re' rx⟩
      · exact p.elim
end
end PL

set_option Elab.async false
set_option linter.all false
set_option maxRecDepth 100000
set_option maxHeartbeats 1000000
/-! PLo: instances: their fields, methods, their making; new dicts. -/
namespace PL
open PySem PySem.Spec PyProof.Rows L2
section
variable {A : Ad} {m m' : List Addr} {S : Sto} {H H' : Hp}
theorem S'_ne {f g : List Nat} (h : f ≠ g) : S' f ≠ S' g := fun e => h (S'_inj e)
theorem rfs_look {f : List Nat} : ∀ {fs : List (List Nat × D)} {vs : List (Str × V)}, RFs A m H fs vs → (lookFs f fs = none ∧ vs.lookup (S' f) = none) ∨ ∃ d v, lookFs f fs = some d ∧ vs.lookup (S' f) = some v ∧ RV A m H d v
  | [], _, h => by
    rw [show _ = [] from h]
    exact .inl ⟨rfl, rfl⟩
  | (g, d) :: r, _, h => by
    obtain ⟨v, us, rfl, h1, h2⟩ := h
    by_cases e : g = f
    · subst e
      exact .inr ⟨d, v, by simp [lookFs], by simp [List.lookup], h1⟩
    · have ne : (S' f == S' g) = false := beq_eq_false_iff_ne.mpr (S'_ne (Ne.symm e))
      rcases rfs_look (f := f) h2 with ⟨q1, q2⟩ | ⟨d', v', q1, q2, q3⟩
      · exact .inl ⟨by simp [lookFs, e, q1], by simp [List.lookup, ne, q2]⟩
      · exact .inr ⟨d', v', by simp [lookFs, e, q1], by simp [List.lookup, ne, q2], q3⟩
theorem rfs_put {f : List Nat} {d : D} {v : V} (rv : RV A m H d v) : ∀ {fs : List (List Nat × D)} {vs : List (Str × V)}, RFs A m H fs vs → RFs A m H (putFs f d fs) (putF (S' f) v vs)
  | [], _, h => by
    rw [show _ = [] from h]
    exact ⟨v, [], rfl, rv, rfl⟩
  | (g, x) :: r, _, h => by
    obtain ⟨u, us, rfl, h1, h2⟩ := h
    by_cases e : g = f
    · subst e
      simp only [putFs, putF, if_pos]
      exact ⟨v, us, rfl, rv, h2⟩
    · simp only [putFs, putF, if_neg e, if_neg (S'_ne e)]
      exact ⟨u, _, rfl, h1, rfs_put rv h2⟩
theorem RFs.length : ∀ {fs : List (List Nat × D)} {vs : List (Str × V)}, RFs A m H fs vs → vs.length = fs.length
  | [], _, h => by rw [show _ = [] from h]; rfl
  | _ :: _, _, h => by
    obtain ⟨_, us, rfl, _, h2⟩ := h
    simp [RFs.length h2]
/-- the instance at a number -/
theorem insAt_ok (r : RS A m S H) {i : Nat} {a : Addr} {c : Nat} {fs : List (List Nat × D)} (hi : m[i]? = some a) (e : insAt S i = some (c, fs)) : A.okc c ∧ ∃ dx vs, H a = some (.ins (A.ca c) dx vs) ∧ RFs A m H fs vs := by
  simp only [insAt] at e
  split at e
  · rename_i c' fs' h
    cases e
    exact r.obj i _ a h hi
  · cases e
end
section
variable {A : Ad} {W : WX} {X : Cx} {e o value : Expr} {es : List Expr} {f : Str} {pos pos' p apos : Pos} {fe fo : Env → Sto → R D} {fes : Env → Sto → R (List D)}
/-- o.f -/
def fldR (f : Str) (x : D) (S : Sto) : R D := match x with
    | .ob i => match insAt S i with
      | some (_, fs) => ofOpt (lookFs f.cps.toList fs) S
      | none => .stuck
    | _ => .stuck
theorem se_fld (hc : ∀ c, A.okc c → Cls X.K (A.ca c) ∧ NoAttr X.K (A.ca c) f) (ho : SE A W X o fo) (hb : attributeBase o f X.env (eval o X.env) = eval o X.env) : SE A W X (.Attribute o f pos) (fun ρ S => (fo ρ S).bind (fldR f)) := (pe_fld ho hb).imp fun σ H Q ⟨m, ρ, S, rs, re, p⟩ => by
  refine ⟨m, ρ, S, rs, re, p.bind anE fun x S1 m1 H1 v x1 rs1 rv1 p1 => ?_⟩
  unfold fldR at p1
  split at p1
  · rename_i i
    obtain ⟨a, hi, rfl⟩ := rv1
    split at p1
    · rename_i c fs e1
      obtain ⟨ok, dx, vs, h1, h2⟩ := insAt_ok rs1 hi e1
      obtain ⟨k1, k2⟩ := hc c ok
      rcases rfs_look (f := f.cps.toList) h2 with ⟨q1, _⟩ | ⟨d, v, q1, q2, q3⟩
      · rw [q1] at p1
        exact p1.elim
      · rw [q1] at p1
        rw [S'_tl] at q2
        exact ⟨a, _, dx, vs, v, rfl, h1, k1, k2, q2, Post.now p1 rs1 q3⟩
    · exact p1.elim
  · exact p1.elim
/-- o.f = e -/
theorem ss_fst (hc : ∀ c, A.okc c → Cls X.K (A.ca c) ∧ NoAttr X.K (A.ca c) f) (ho : SE A W X o fo) (he : SE A W X value fe) (hs : swapsWith value (some (.Attribute o f pos')) pos.line X.env = pure false) :
    SS A W X (.Assign [.Attribute o f pos'] value pos) (fun ρ S => (fe ρ S).toF ρ fun v S1 => (fo ρ S1).toF ρ fun x S2 => match x with
    | .ob i => match insAt S2 i with
      | some (c, fs) => if fs.length < 100 then .nx ρ (S2.set i (.ins c (putFs f.cps.toList v fs))) else .stuck
      | none => .stuck
    | _ => .stuck) := (ps_fld ho he hs).imp fun D σ H ⟨m, ρ, S, rs, re, p⟩ => by
  refine ⟨m, ρ, S, rs, re, p.toF rs re fun v S1 m1 H1 w _ x1 rs1 rv1 p1 => ?_⟩
  refine ⟨m1, ρ, S1, rs1, re.mono rs x1, p1.toF rs1 (re.mono rs x1) fun x S2 m2 H2 y _ x2 rs2 rv2 p2 => ?_⟩
  split at p2
  · rename_i i
    obtain ⟨a, hi, rfl⟩ := rv2
    split at p2
    · rename_i c fs e1
      obtain ⟨ok, dx, vs, h1, h2⟩ := insAt_ok rs2 hi e1
      obtain ⟨k1, k2⟩ := hc c ok
      split at p2
      · rename_i hl
        obtain ⟨x3, rs3⟩ := rs2.write (ob := .ins c (putFs f.cps.toList v fs)) (o := .ins (A.ca c) dx (putF f w vs)) hi (fun _ _ z => by rw [h1] at z; cases z) trivial fun x3 => ⟨ok, dx, _, upd_same, by
          have := (rfs_put (f := f.cps.toList) (rv1.mono rs1 x2) h2).mono rs2 x3
          rw [S'_tl] at this
          exact this⟩
        exact ⟨a, _, dx, vs, rfl, h1, k1, k2, by rw [h2.length]; omega, p2 m2 _ σ x3 rs3 (((re.mono rs x1).mono rs1 x2).mono rs2 x3)⟩
      · exact p2.elim
    · exact p2.elim
  · exact p2.elim
/-! ### methods -/
theorem meth_form {o : Expr} {m : Str} {apos pos : Pos} {es : List Expr} {env : PySem.Env} (hbase : attributeBase o m env (eval o env) = eval o env)
    (hfew : ((backTo pos (starEach es env)).all (fun x => !x.1) && (backToKw pos (keywordEach [] env)).all (fun x => x.1.isSome) && decide (es.length + ([] : List Keyword).length + (if ([] : List Keyword).isEmpty then 0 else 1) < 30)) = true) (hline : (apos.endLine == pos.line) = true) :
    eval (.Call (.Attribute o m apos) es [] pos) env = (do
      let ov ← eval o env
      standAt apos.atName
      let (f, first) ← holding [ov] (getMethod ov m (do return (← importBound o env).getD true))
      callWith pos f first (backTo pos (starEach es env)) (backToKw pos (keywordEach [] env))) := by
  rw [arm_eval_Call, hbase]
  have hform : methodCallForm (es.length + ([] : List Keyword).length) (backTo pos (starEach es env)) (backToKw pos (keywordEach [] env)) = true := hfew
  unfold methodCall calleeOf methodCallPos
  simp only [hform, hline, if_true, Bool.not_true, Bool.or_true, pure_bind]
/-- what is known of a def that is called -/
def FnAt (A : Ad) (X : Cx) (f : Addr) (g : List D → Sto → R D) : Prop := ∃ (fd : FuncData) (ps : List Str) (k : Nat), FnOk X.prog X.w X.K X.mg X.base (L2.CX X.prog X.w) k f fd ps (spF A ps.length g) ∧ Room k X.A ∧ Binds X.K fd ps [] ∧ ∀ ds S, g ds S ≠ .stuck → ds.length = ps.length
/-- o.m(..) -/
def methR (T : Tab) (m : Str) (fes : Env → Sto → R (List D)) (ρ : Env) (x : D) (S1 : Sto) : R D := match x with
    | .ob i => match insAt S1 i with
      | some (c, fs) => if (lookFs m.cps.toList fs).isSome then .stuck else match T.meth c m with
        | some f => (fes ρ S1).bind fun ds S2 => T.cf f (.ob i :: ds) S2
        | none => .stuck
      | none => .stuck
    | _ => .stuck
variable {T : Tab} {mt : Str}
theorem methR_at {x : D} {S1 : Sto} {ρ : Env} {m : List Addr} {H : Hp} {v : V} {Q : V → Hp → Prop} {E : XK} (rs : RS A m S1 H) (rv : RV A m H x v) (p : Post A (rE A) E m H (methR T mt fes ρ x S1) Q) :
    ∃ i c f a dx vs, x = .ob i ∧ v = .ref a ∧ m[i]? = some a ∧ A.okc c ∧ H a = some (.ins (A.ca c) dx vs) ∧ vs.lookup mt = none ∧ T.meth c mt = some f ∧ Post A (rE A) E m H ((fes ρ S1).bind fun ds S2 => T.cf f (.ob i :: ds) S2) Q := by
  cases x with
  | ob i =>
    obtain ⟨a, hi, rfl⟩ := rv
    cases e1 : insAt S1 i with
    | none => simp only [methR, e1] at p; exact p.elim
    | some cf =>
      obtain ⟨c, fs⟩ := cf
      simp only [methR, e1] at p
      obtain ⟨ok, dx, vs, h1, h2⟩ := insAt_ok rs hi e1
      cases hn : (lookFs mt.cps.toList fs).isSome with
      | true => simp only [hn, if_true] at p; exact p.elim
      | false =>
        simp only [hn, if_false, Bool.false_eq_true] at p
        cases hf : T.meth c mt with
        | none => simp only [hf] at p; exact p.elim
        | some f =>
          simp only [hf] at p
          refine ⟨i, c, f, a, dx, vs, rfl, rfl, hi, ok, h1, ?_, hf, p⟩
          rcases rfs_look (f := mt.cps.toList) h2 with ⟨_, q⟩ | ⟨d, v, q, _⟩
          · rw [S'_tl] at q; exact q
          · rw [q] at hn; cases hn
  | _ => exact p.elim
theorem se_meth (tk : Takes X W) (hM : ∀ c f, T.meth c mt = some f → A.okc c → Cls X.K (A.ca c) ∧ Meth X.K (A.ca c) mt (A.fa f) ∧ FnAt A X (A.fa f) (T.cf f)) (ho : SE A W X o fo) (ha : SA A W X (e :: es) fes) (hbase : attributeBase o mt X.env (eval o X.env) = eval o X.env)
    (hfew : ((backTo pos (starEach (e :: es) X.env)).all (fun x => !x.1) && (backToKw pos (keywordEach [] X.env)).all (fun x => x.1.isSome) && decide ((e :: es).length + ([] : List Keyword).length + (if ([] : List Keyword).isEmpty then 0 else 1) < 30)) = true) (hline : (apos.endLine == pos.line) = true)
    (hst : starEach (e :: es) X.env = (false, eval e X.env) :: starEach es X.env) (hpl : (backTo pos (starEach es X.env)).any (·.1) = false) :
    SE A W X (.Call (.Attribute o mt apos) (e :: es) [] pos) (fun ρ S => (fo ρ S).bind (methR T mt fes ρ)) := by
  refine ⟨fun pins s σ H Q I ⟨m, ρ, S, rs, re, p⟩ => ?_⟩
  refine PySem.W.methodCall_KW (thn (ho.run pins s σ H (fun v H1 => ∃ i c f a dx vs m1 S1, RS A m1 S1 H1 ∧ REnv A m1 H1 ρ σ ∧ v = .ref a ∧ m1[i]? = some a ∧ A.okc c ∧ H1 a = some (.ins (A.ca c) dx vs) ∧ vs.lookup mt = none ∧ T.meth c mt = some f ∧ Post A (rE A) (fun c d H' => W c d σ H') m1 H1 ((fes ρ S1).bind fun ds S2 => T.cf f (.ob i :: ds) S2) Q) I ⟨m, ρ, S, rs, re, p.bind anE fun x S1 m1 H1 v x1 rs1 rv1 p1 => ?_⟩) fun u s1 ⟨v, H1, I1, rv, i, c, f, a, dx, vs, m1, S1, rs1, re1, ev, hi, ok, ha1, hl, hf, p1⟩ => ?_) (meth_form hbase hfew hline)
  · obtain ⟨i, c, f, a, dx, vs, rfl, ev, hi, ok, h1, hl, hf, p2⟩ := methR_at rs1 rv1 p1
    exact ⟨i, c, f, a, dx, vs, m1, S1, rs1, re.mono rs x1, ev, hi, ok, h1, hl, hf, p2⟩
  · subst ev
    obtain rfl : u = Value.ref a := rv
    obtain ⟨c1, hm, fd, ps, k, F, hr, hb, hlen⟩ := hM c f hf ok
    refine getmeth_ok I1 ha1 c1 hm hl ?_
    refine PySem.W.callWith_K (first := [.ref a]) (h₀ := X.base) I.ok.mod.kin hm.kp (thn (ha.run pos pins s1 σ H1 (fun vs H2 => spF A ps.length (T.cf f) (.ref a :: vs) H2 Q (WE W σ)) I1 ⟨m1, ρ, S1, rs1, re1, p1.bind anE fun ds S2 m2 H2 ws x2 rs2 rv2 p2 => ?_⟩) fun us s2 ⟨vs', H2, I2, r, q2⟩ => ⟨I2.kIn, ?_⟩) hst hpl
    · refine ⟨?_, m2, .ob i :: ds, S2, rs2, ⟨_, _, rfl, ⟨a, x2.get hi, rfl⟩, rv2⟩, p2⟩
      have := hlen (.ob i :: ds) S2 (fun z => by rw [z] at p2; exact p2)
      rw [List.length_cons] at this ⊢
      rw [rv2.length]
      exact this
    · exact run_fnS (E := WE W) (us := .ref a :: us) (vs := .ref a :: vs') F hr hb (passAt tk σ) I2 (.cons rfl r) q2
theorem se_meth0 (tk : Takes X W) (hM : ∀ c f, T.meth c mt = some f → A.okc c → Cls X.K (A.ca c) ∧ Meth X.K (A.ca c) mt (A.fa f) ∧ FnAt A X (A.fa f) (T.cf f)) (ho : SE A W X o fo) (hbase : attributeBase o mt X.env (eval o X.env) = eval o X.env) (hline : (apos.endLine == pos.line) = true) :
    SE A W X (.Call (.Attribute o mt apos) [] [] pos) (fun ρ S => (fo ρ S).bind (methR T mt (fun _ S => .ok [] S) ρ)) := by
  refine ⟨fun pins s σ H Q I ⟨m, ρ, S, rs, re, p⟩ => ?_⟩
  refine PySem.W.methodCall_KW (thn (ho.run pins s σ H (fun v H1 => ∃ i c f a dx vs m1 S1, RS A m1 S1 H1 ∧ v = .ref a ∧ m1[i]? = some a ∧ A.okc c ∧ H1 a = some (.ins (A.ca c) dx vs) ∧ vs.lookup mt = none ∧ T.meth c mt = some f ∧ Post A (rE A) (fun c d H' => W c d σ H') m1 H1 (T.cf f [.ob i] S1) Q) I ⟨m, ρ, S, rs, re, p.bind anE fun x S1 m1 H1 v x1 rs1 rv1 p1 => ?_⟩) fun u s1 ⟨v, H1, I1, rv, i, c, f, a, dx, vs, m1, S1, rs1, ev, hi, ok, ha1, hl, hf, p1⟩ => ?_) (meth_form hbase (by rfl) hline)
  · obtain ⟨i, c, f, a, dx, vs, rfl, ev, hi, ok, h1, hl, hf, p2⟩ := methR_at rs1 rv1 p1
    exact ⟨i, c, f, a, dx, vs, m1, S1, rs1, ev, hi, ok, h1, hl, hf, p2⟩
  · subst ev
    obtain rfl : u = Value.ref a := rv
    obtain ⟨c1, hm, fd, ps, k, F, hr, hb, hlen⟩ := hM c f hf ok
    refine getmeth_ok I1 ha1 c1 hm hl ?_
    refine PySem.W.callWith_K0 (first := [.ref a]) I1.kIn hm.kp (run_fnS (E := WE W) (us := [.ref a]) (vs := [.ref a]) F hr hb (passAt tk σ) I1 (.cons rfl .nil) ⟨?_, m1, [.ob i], S1, rs1, RVs.one ⟨a, hi, rfl⟩, p1⟩)
    exact hlen [.ob i] S1 (fun z => by rw [z] at p1; exact p1)
/-! ### making -/
theorem run_makeS {k : Nat} {f C : Addr} {fd : FuncData} {ps : List Str} {sp : Sp} {E : XK} {pins : List (Addr × Obj)} {σ : L2.St} {H : Hp} {s : Shared} {Q : VK} {us : List Value} {vs : List V} (M : Mk X.K C f) (F : FnOk X.prog X.w X.K X.mg X.base (L2.CX X.prog X.w) k f fd ps sp) (hr : Room (k + 1) X.A) (hb : Binds X.K fd ps [])
    (hx : PassesAt (L2.CX X.prog X.w) X σ E) (I : Inv X pins σ H s) (r : Vals vs us)
    (h : ∀ x dx, H x = none → H dx = none → dx ≠ x → sp (.ref x :: vs) (upd (upd H dx (.own x)) x (.ins C dx [])) (fun v H2 => v = .non ∧ Q (.ref x) H2) E) :
    wpAny (model X.prog X.w) X.A (call (.ref C) us) (EP X pins σ Q) X.xe s := by
  have hq := h (s.heap.objs.size + 1) s.heap.objs.size (I.hok.fresh (Nat.le_succ _)) (I.hok.fresh (Nat.le_refl _)) (Nat.ne_of_lt (Nat.lt_succ_self _))
  have I2 := Inv.made (C := C) I
  have r2 : Vals (V.ref (s.heap.objs.size + 1) :: vs) (Value.ref (s.heap.objs.size + 1) :: us) := .cons rfl r
  have hl : (Value.ref (s.heap.objs.size + 1) :: us ++ []).length = ps.length := by
    have e := r2.length
    rw [F.len _ _ _ _ hq] at e
    rw [List.append_nil]
    exact e.symm
  have b := hb _ (Value.ref (s.heap.objs.size + 1) :: us) I2.kIn hl
  rw [List.append_nil] at b
  refine wpAny_call (make_map (f := f) I.kIn M.makes M.init (beq_iff_eq.mp M.fn) (codeAny_mono (F.run _ X.stack _ _ ⟨Value.ref (s.heap.objs.size + 1) :: us, []⟩ (Value.ref (s.heap.objs.size + 1) :: us) _ _ E (hr.make C us [])
    (I2.env0.make C us []) b r2 hq) fun r s' hq' => ?_))
  cases r with
  | error e => exact hx pins _ _ e s' I2 hq'
  | ok fl =>
    cases fl with
    | ret u =>
      obtain ⟨v, H', I3, rv, ev, q3⟩ := I2.after hq'
      subst ev
      exact ⟨rv, ⟨V.ref (s.heap.objs.size + 1), H', I3, rfl, q3⟩⟩
    | next => exact False.elim hq'
    | brk => exact False.elim hq'
    | cont => exact False.elim hq'
/-- C(..) -/
def newR (g : List D → Sto → R D) (c : Nat) (ds : List D) (S1 : Sto) : R D := (g (.ob S1.length :: ds) (S1 ++ [.ins c []])).bind fun r S2 => match r with
      | .non => .ok (.ob S1.length) S2
      | _ => .stuck
def MkAt (A : Ad) (X : Cx) (c : Nat) (f : Addr) (g : List D → Sto → R D) : Prop := A.okc c ∧ Mk X.K (A.ca c) f ∧ ∃ (fd : FuncData) (ps : List Str) (k : Nat), FnOk X.prog X.w X.K X.mg X.base (L2.CX X.prog X.w) k f fd ps (spF A ps.length g) ∧ Room (k + 1) X.A ∧ Binds X.K fd ps [] ∧ ∀ ds S, g ds S ≠ .stuck → ds.length = ps.length
theorem new_sp {c : Nat} {f : Addr} {g : List D → Sto → R D} {ps : List Str} (ok : A.okc c) (hlen : ∀ ds S, g ds S ≠ .stuck → ds.length = ps.length) {m : List Addr} {S : Sto} {H : Hp} {ds : List D} {vs : List V} {E : XK} {Q : VK} (rs : RS A m S H) (rv : RVs A m H ds vs) (p : Post A (rE A) E m H (newR g c ds S) Q) :
    ∀ x dx, H x = none → H dx = none → dx ≠ x → spF A ps.length g (.ref x :: vs) (upd (upd H dx (.own x)) x (.ins (A.ca c) dx [])) (fun v H2 => v = .non ∧ Q (.ref x) H2) E := by
  intro x dx nx ndx nex
  obtain ⟨x1, rs1⟩ := rs.lay (.own x) ndx
  have nx1 : upd H dx (.own x) x = none := by rw [upd_ne (Ne.symm nex)]; exact nx
  obtain ⟨x2, rs2⟩ := rs1.push (o := .ins (A.ca c) dx []) (ob := .ins c []) nx1 trivial (fun q z => by unfold LamX.CodeO at z; cases z) fun _ => ⟨ok, dx, [], upd_same, rfl⟩
  have x12 := x1.trans x2
  have p2 := p.shift anE x12
  unfold newR at p2
  have hx : (m ++ [x])[S.length]? = some x := by
    rw [← rs.len, List.getElem?_append_right (Nat.le_refl _), Nat.sub_self]
    rfl
  refine ⟨?_, _, .ob S.length :: ds, _, rs2, ⟨_, _, rfl, ⟨x, hx, rfl⟩, rv.mono rs x12⟩, ?_⟩
  · have := hlen (.ob S.length :: ds) (S ++ [.ins c []]) (fun z => by rw [z] at p2; exact p2)
    rw [List.length_cons] at this ⊢
    rw [rv.length]
    exact this
  · refine p2.bind anE fun d S3 m3 H3 v x3 rs3 rv3 p3 => ?_
    split at p3
    · exact ⟨rv3, Post.now p3 rs3 ⟨x, x3.get hx, rfl⟩⟩
    · exact p3.elim
theorem se_new {x : Str} {c : Nat} {f : Addr} {g : List D → Sto → R D} (tk : Takes X W) (M : MkAt A X c f g) (hg : Gl X x) (hm : X.mg x = some (.ref (A.ca c))) (ha : SA A W X (e :: es) fes) (hdb : (x == ("__debug__" : Str)) = false)
    (he : starEach (e :: es) X.env = (false, eval e X.env) :: starEach es X.env) (hpl : (backTo pos (starEach es X.env)).any (·.1) = false) :
    SE A W X (.Call (.Name x p) (e :: es) [] pos) (fun ρ S => (fes ρ S).bind (newR g c)) := by
  obtain ⟨ok, Mk', fd, ps, k, F, hr, hb, hlen⟩ := M
  refine ⟨fun pins s σ H Q I ⟨m, ρ, S, rs, re, p⟩ => ?_⟩
  refine wpAny_Call_Name_kw (ld_glob I hg hm ?_ hdb)
  refine PySem.W.callWith_K (h₀ := X.base) I.ok.mod.kin Mk'.kp (thn (ha.run pos pins s σ H (fun vs H1 => ∀ x dx, H1 x = none → H1 dx = none → dx ≠ x → spF A ps.length g (.ref x :: vs) (upd (upd H1 dx (.own x)) x (.ins (A.ca c) dx [])) (fun v H2 => v = .non ∧ Q (.ref x) H2) (WE W σ)) I ⟨m, ρ, S, rs, re, p.bind anE fun ds S1 m1 H1 vs x1 rs1 rv1 p1 => ?_⟩) fun us s1 ⟨vs, H1, I1, r, q⟩ => ⟨I1.kIn, ?_⟩) he hpl
  · exact new_sp (f := f) ok hlen rs1 rv1 p1
  · exact run_makeS Mk' F hr hb (passAt tk σ) I1 r q
theorem se_new0 {x : Str} {c : Nat} {f : Addr} {g : List D → Sto → R D} (tk : Takes X W) (M : MkAt A X c f g) (hg : Gl X x) (hm : X.mg x = some (.ref (A.ca c))) (hdb : (x == ("__debug__" : Str)) = false) :
    SE A W X (.Call (.Name x p) [] [] pos) (fun ρ S => newR g c [] S) := by
  obtain ⟨ok, Mk', fd, ps, k, F, hr, hb, hlen⟩ := M
  refine ⟨fun pins s σ H Q I ⟨m, ρ, S, rs, re, p⟩ => ?_⟩
  refine wpAny_Call_Name_kw (ld_glob I hg hm ?_ hdb)
  exact PySem.W.callWith_K0 I.kIn Mk'.kp (run_makeS (us := []) Mk' F hr hb (passAt tk σ) I .nil (new_sp (f := f) (ds := []) (vs := []) ok hlen rs rfl p))
theorem se_call0 {x : Str} {f : Addr} {g : List D → Sto → R D} (tk : Takes X W) (F : FnAt A X f g) (hg : Gl X x) (hm : X.mg x = some (.ref f)) (hk : PySem.W.keepIn X.K (.ref f) = true) (hdb : (x == ("__debug__" : Str)) = false) :
    SE A W X (.Call (.Name x p) [] [] pos) (fun ρ S => g [] S) := by
  obtain ⟨fd, ps, k, F, hr, hb, hlen⟩ := F
  refine ⟨fun pins s σ H Q I ⟨m, ρ, S, rs, re, p⟩ => ?_⟩
  refine wpAny_Call_Name_kw (ld_glob I hg hm ?_ hdb)
  refine PySem.W.callWith_K0 (first := []) I.kIn hk (run_fnS (E := WE W) (us := []) (vs := []) F hr hb (passAt tk σ) I .nil ⟨?_, m, [], S, rs, rfl, p⟩)
  exact hlen [] S (fun z => by simp only [z] at p; exact p.elim)
end
end PL

set_option Elab.async false
set_option linter.all false
set_option maxRecDepth 100000
set_option maxHeartbeats 1000000
/-! PLi: in and not in, upon texts, tuples, lists and dicts; chained comparisons. -/
namespace PL
open PySem PySem.Spec PyProof.Rows L2 SeqAt
section
variable {A : Ad} {W : WX} {X : Cx} {e a b c o tg : Expr} {es : List Expr} {pos pos' p apos cpos : Pos} {fe fa fb fc fo : Env → Sto → R D} {fes fl fl2 : Env → Sto → R (List D)}
def rInT (K : PySem.W.Frag) : R2 := fun x y H Q => ∃ d ds, Dp K H x d ∧ Dp K H y (.tuple ds) ∧ SeqAt.shaped d = true ∧ SeqAt.shaped (.list ds) = true ∧ Q (.bl (ds.any fun z => PyData.eqv z d)) H
def rNotInT (K : PySem.W.Frag) : R2 := fun x y H Q => ∃ d ds, Dp K H x d ∧ Dp K H y (.tuple ds) ∧ SeqAt.shaped d = true ∧ SeqAt.shaped (.list ds) = true ∧ Q (.bl (!ds.any fun z => PyData.eqv z d)) H
theorem op_inT (hu : X.A.units + 65 < cLine) : OpR X (compareOp .In) (rInT X.K) := by
  intro pins s σ H x y v u Q I rx ry h
  obtain ⟨d, ds, hd, he, sd, se, q⟩ := h
  obtain ⟨as, r1⟩ := Dp.reads I d x v hd rx
  obtain ⟨bs, r2⟩ := Dp.reads I (.tuple ds) y u he ry
  exact SeqAt.in_tuple_reads r2 r1 (SeqAt.canLay_of_shaped se) (SeqAt.canLay_of_shaped sd) (room_in_shaped sd hu) ⟨.bl _, H, I, rfl, q⟩
theorem op_notInT (hu : X.A.units + 65 < cLine) : OpR X (compareOp .NotIn) (rNotInT X.K) := by
  intro pins s σ H x y v u Q I rx ry h
  obtain ⟨d, ds, hd, he, sd, se, q⟩ := h
  obtain ⟨as, r1⟩ := Dp.reads I d x v hd rx
  obtain ⟨bs, r2⟩ := Dp.reads I (.tuple ds) y u he ry
  exact SeqAt.notIn_tuple_reads r2 r1 (SeqAt.canLay_of_shaped se) (SeqAt.canLay_of_shaped sd) (room_in_shaped sd hu) ⟨.bl _, H, I, rfl, q⟩
theorem op_inK (hu : X.A.units + 16 < cLine) : OpR X (compareOp .In) (fun x y H Q => ∃ a o, y = .ref a ∧ DLook X H a x o ∧ Q (.bl o.isSome) H) := by
  intro pins s σ H x y v u Q I rx ry h
  obtain ⟨a, o, rfl, g, q⟩ := h
  obtain rfl : u = Value.ref a := ry
  exact look_in hu I g rx fun s' I' => ⟨.bl _, H, I', rfl, q⟩
theorem op_notInK (hu : X.A.units + 16 < cLine) : OpR X (compareOp .NotIn) (fun x y H Q => ∃ a o, y = .ref a ∧ DLook X H a x o ∧ Q (.bl (!o.isSome)) H) := by
  intro pins s σ H x y v u Q I rx ry h
  obtain ⟨a, o, rfl, g, q⟩ := h
  obtain rfl : u = Value.ref a := ry
  exact look_notIn hu I g rx fun s' I' => ⟨.bl _, H, I', rfl, q⟩
/-- a comparison's rule, that asks the store -/
def CmSS (A : Ad) (r : R2) (g : Sto → D → D → Option Bool) : Prop := ∀ m S H d e x y k (Q : VK), RS A m S H → RV A m H d x → RV A m H e y → g S d e = some k → Q (.bl k) H → r x y H Q
theorem lst_dp (hK : A.K = X.K) {m : List Addr} {S : Sto} {H : Hp} {i : Nat} {ys : List D} {ds : List PyData} {y : V} (rs : RS A m S H) (rv : RV A m H (.ob i) y) (e : lstAt S i = some ys) (h : D.pys ys = some ds) : Dp X.K H y (.list ds) := by
  obtain ⟨a, hi, rfl⟩ := rv
  unfold lstAt at e
  split at e
  · rename_i xs e'
    cases e
    obtain ⟨vs, h1, h2⟩ := rs.obj i _ a e' hi
    exact .lst (.inl (.inl h1)) (pys_ok hK h2 h)
  · cases e
theorem inD_ok {d : D} {ys : List D} {k : Bool} (h : inD d ys = some k) : ∃ p ds, d.py = some p ∧ D.pys ys = some ds ∧ SeqAt.shaped p = true ∧ SeqAt.shaped (.list ds) = true ∧ (ds.any fun z => PyData.eqv z p) = k := by
  unfold inD at h
  split at h
  · rename_i p ds e1 e2
    split at h
    · rename_i sh
      rw [Bool.and_eq_true] at sh
      cases h
      exact ⟨p, ds, e1, e2, sh.1, sh.2, rfl⟩
    · cases h
  · cases h
theorem in_ok (hK : A.K = X.K) (hP : A.pr = X.prog) (hw : A.w = X.w) (hu : X.A.units + 65 < cLine) : ∃ r, OpR X (compareOp .In) r ∧ CmSS A r inSt := by
  refine ⟨_, ((op_in_sign.or (op_inD hu)).or (op_inT hu)).or (op_inK (by omega)), ?_⟩
  intro m S H d e x y k Q rs rd re h q
  unfold inSt at h
  split at h
  · exact .inl (.inl (.inl (inSg_ok m S H d _ x y k Q rs rd re h q)))
  · obtain ⟨p, ds, e1, e2, s1, s2, rfl⟩ := inD_ok h
    obtain ⟨a, us, rfl, t, r⟩ := re
    exact .inl (.inr ⟨p, ds, py_ok hK rd e1, .tup (hK ▸ t.sqt) (pys_ok hK r e2), s1, s2, q⟩)
  · rename_i i
    split at h
    · rename_i b kvs ed
      split at h
      · rename_i ok
        cases h
        obtain ⟨a, hi, rfl⟩ := re
        rcases dget_ok hK hP hw rs hi ed rd ok with ⟨q1, q2⟩ | ⟨z, v, q1, q2, _⟩
        · rw [q1] at q; exact .inr ⟨a, _, rfl, q2, q⟩
        · rw [q1] at q; exact .inr ⟨a, _, rfl, q2, q⟩
      · cases h
    · split at h
      · rename_i ys el
        obtain ⟨p, ds, e1, e2, s1, s2, rfl⟩ := inD_ok h
        exact .inl (.inl (.inr ⟨p, ds, py_ok hK rd e1, lst_dp hK rs re el e2, s1, s2, q⟩))
      · cases h
  · cases h
theorem notIn_ok (hK : A.K = X.K) (hP : A.pr = X.prog) (hw : A.w = X.w) (hu : X.A.units + 65 < cLine) : ∃ r, OpR X (compareOp .NotIn) r ∧ CmSS A r (fun S x y => (inSt S x y).map (!·)) := by
  refine ⟨_, ((op_notIn_sign.or (op_notInD hu)).or (op_notInT hu)).or (op_notInK (by omega)), ?_⟩
  intro m S H d e x y k0 Q rs rd re h q
  obtain ⟨k, h1, rfl⟩ := Option.map_eq_some_iff.mp h
  clear h
  have h : inSt S d e = some k := h1
  clear h1
  unfold inSt at h
  split at h
  · exact .inl (.inl (.inl (notSg_ok m S H d _ x y (!k) Q rs rd re (by show (InSg _ _).map _ = _; rw [h]; rfl) q)))
  · obtain ⟨p, ds, e1, e2, s1, s2, rfl⟩ := inD_ok h
    obtain ⟨a, us, rfl, t, r⟩ := re
    exact .inl (.inr ⟨p, ds, py_ok hK rd e1, .tup (hK ▸ t.sqt) (pys_ok hK r e2), s1, s2, q⟩)
  · rename_i i
    split at h
    · rename_i b kvs ed
      split at h
      · rename_i ok
        cases h
        obtain ⟨a, hi, rfl⟩ := re
        rcases dget_ok hK hP hw rs hi ed rd ok with ⟨q1, q2⟩ | ⟨z, v, q1, q2, _⟩
        · rw [q1] at q; exact .inr ⟨a, _, rfl, q2, q⟩
        · rw [q1] at q; exact .inr ⟨a, _, rfl, q2, q⟩
      · cases h
    · split at h
      · rename_i ys el
        obtain ⟨p, ds, e1, e2, s1, s2, rfl⟩ := inD_ok h
        exact .inl (.inl (.inr ⟨p, ds, py_ok hK rd e1, lst_dp hK rs re el e2, s1, s2, q⟩))
      · cases h
  · cases h
theorem se_cmpS {op : CmpOp} {r : R2} {g : Sto → D → D → Option Bool} (ho : OpR X (compareOp op) r) (hr : CmSS A r g) (hm : behindInMarks op b = false) (ha : SE A W X a fa) (hb : SE A W X b fb) :
    SE A W X (.Compare a [op] [b] pos) (fun ρ S => (fa ρ S).bind fun x S1 => (fb ρ S1).bind fun y S2 => (ofOpt (g S2 x y) S2).bind fun k S2 => .ok (.bl k) S2) := (pe_cmpR ho ha hb hm).imp fun σ H Q ⟨m, ρ, S, rs, re, p⟩ => by
  refine ⟨m, ρ, S, rs, re, p.bind anE fun d S1 m1 H1 v x1 rs1 rv1 p1 => ?_⟩
  refine ⟨m1, ρ, S1, rs1, re.mono rs x1, p1.bind anE fun e S2 m2 H2 u x2 rs2 rv2 p2 => ?_⟩
  cases q : g S2 d e with
  | none => rw [q] at p2; exact p2.elim
  | some z => rw [q] at p2; exact hr m2 S2 H2 d e v u z Q rs2 (RV.mono rs1 x2 rv1) rv2 q (p2.now rs2 rfl)
theorem sb_cmpS {op : CmpOp} {r : R2} {g : Sto → D → D → Option Bool} (ho : OpR X (compareOp op) r) (hr : CmSS A r g) (hm : behindInMarks op b = false) (ha : SE A W X a fa) (hb : SE A W X b fb) :
    SB A W X (.Compare a [op] [b] pos) (tru fun ρ S => (fa ρ S).bind fun x S1 => (fb ρ S1).bind fun y S2 => (ofOpt (g S2 x y) S2).bind fun k S2 => .ok (.bl k) S2) := (pt_cmpR ho ha hb hm).imp fun σ H Q ⟨m, ρ, S, rs, re, p⟩ => by
  simp only [tru, R.bind_assoc] at p
  refine ⟨m, ρ, S, rs, re, p.bind anB fun d S1 m1 H1 v x1 rs1 rv1 p1 => ?_⟩
  refine ⟨m1, ρ, S1, rs1, re.mono rs x1, p1.bind anB fun e S2 m2 H2 u x2 rs2 rv2 p2 => ?_⟩
  cases q : g S2 d e with
  | none => rw [q] at p2; exact p2.elim
  | some z =>
    rw [q] at p2
    exact hr m2 S2 H2 d e v u z _ rs2 (RV.mono rs1 x2 rv1) rv2 q ⟨z, rfl, p2.now rs2 rfl⟩
/-! ### a op1 b op2 c -/
def chnR (o1 o2 : CmpOp) (fa fb fc : Env → Sto → R D) (ρ : Env) (S : Sto) : R D := (fa ρ S).bind fun x S1 => (fb ρ S1).bind fun y S2 => (ofOpt (cmpD o1 x y) S2).bind fun k S2 =>
      if k then (fc ρ S2).bind fun z S3 => (ofOpt (cmpD o2 y z) S3).bind fun b S3 => .ok (.bl b) S3 else .ok (.bl false) S2
theorem se_chn (hK : A.K = X.K) (hu : X.A.units + 64 < cLine) (o1 o2 : CmpOp) (ha : SE A W X a fa) (hb : SE A W X b fb) (hc : SE A W X c fc) (hm : lastMarks [o1, o2] [b, c] = false) : SE A W X (.Compare a [o1, o2] [b, c] pos) (chnR o1 o2 fa fb fc) := by
  obtain ⟨r1, k1, q1⟩ := cmp_ok (A := A) hK hu o1
  obtain ⟨r2, k2, q2⟩ := cmp_ok (A := A) hK hu o2
  refine (pe_chain k1 k2 ha hb hc hm).imp fun σ H Q ⟨m, ρ, S, rs, re, p⟩ => ?_
  unfold chnR at p
  refine ⟨m, ρ, S, rs, re, p.bind anE fun d S1 m1 H1 v x1 rs1 rv1 p1 => ?_⟩
  refine ⟨m1, ρ, S1, rs1, re.mono rs x1, p1.bind anE fun e S2 m2 H2 u x2 rs2 rv2 p2 => ?_⟩
  cases q : cmpD o1 d e with
  | none => rw [q] at p2; exact p2.elim
  | some k =>
    rw [q] at p2
    refine q1 m2 S2 H2 d e v u k _ rs2 (RV.mono rs1 x2 rv1) rv2 q ⟨k, rfl, ?_⟩
    cases k with
    | false =>
      rw [if_neg (by decide)]
      exact Post.now p2 rs2 rfl
    | true =>
      rw [if_pos rfl]
      refine ⟨m2, ρ, S2, rs2, (re.mono rs x1).mono rs1 x2, Post.bind anE p2 fun z S3 m3 H3 w' x3 rs3 rv3 p3 => ?_⟩
      cases q' : cmpD o2 e z with
      | none => rw [q'] at p3; exact p3.elim
      | some k => rw [q'] at p3; exact q2 m3 S3 H3 e z u w' k Q rs3 (RV.mono rs2 x3 rv2) rv3 q' (p3.now rs3 rfl)
theorem sb_chn (hK : A.K = X.K) (hu : X.A.units + 64 < cLine) (o1 o2 : CmpOp) (ha : SE A W X a fa) (hb : SE A W X b fb) (hc : SE A W X c fc) (hm : lastMarks [o1, o2] [b, c] = false) : SB A W X (.Compare a [o1, o2] [b, c] pos) (tru (chnR o1 o2 fa fb fc)) := by
  obtain ⟨r1, k1, q1⟩ := cmp_ok (A := A) hK hu o1
  obtain ⟨r2, k2, q2⟩ := cmp_ok (A := A) hK hu o2
  refine (pt_chain k1 k2 ha hb hc hm).imp fun σ H Q ⟨m, ρ, S, rs, re, p⟩ => ?_
  simp only [tru, chnR, R.bind_assoc] at p
  refine ⟨m, ρ, S, rs, re, p.bind anB fun d S1 m1 H1 v x1 rs1 rv1 p1 => ?_⟩
  refine ⟨m1, ρ, S1, rs1, re.mono rs x1, p1.bind anB fun e S2 m2 H2 u x2 rs2 rv2 p2 => ?_⟩
  cases q : cmpD o1 d e with
  | none => rw [q] at p2; exact p2.elim
  | some k =>
    rw [q] at p2
    refine q1 m2 S2 H2 d e v u k _ rs2 (RV.mono rs1 x2 rv1) rv2 q ⟨k, rfl, ?_⟩
    cases k with
    | false =>
      rw [if_neg (by decide)]
      exact ⟨false, rfl, Post.now p2 rs2 rfl⟩
    | true =>
      rw [if_pos rfl]
      simp only [ofOpt_some, R.bind_ok, if_true, R.bind_assoc] at p2
      refine ⟨m2, ρ, S2, rs2, (re.mono rs x1).mono rs1 x2, Post.bind anB p2 fun z S3 m3 H3 w' x3 rs3 rv3 p3 => ?_⟩
      cases q' : cmpD o2 e z with
      | none => rw [q'] at p3; exact p3.elim
      | some k => rw [q'] at p3; exact q2 m3 S3 H3 e z u w' k _ rs3 (RV.mono rs2 x3 rv2) rv3 q' ⟨k, rfl, p3.now rs3 rfl⟩
end
end PL

set_option Elab.async false
set_option linter.all false
set_option maxRecDepth 100000
set_option maxHeartbeats 1000000
/-! PLq: new dicts. -/
namespace PL
open PySem PySem.Spec PyProof.Rows L2
section
variable {α β γ δ : Type} {A : Ad} {rel : Rel α β} {rel2 : Rel γ δ} {E : XK} {m m1 : List Addr} {H H1 : Hp} {r : R α} {S : Sto}
theorem Post.bindY {f : α → Sto → R γ} {R' : β → Hp → Prop} {Q2 : δ → Hp → Prop} (p : Post A rel2 E m H (r.bind f) Q2) (x : Ext m H m1 H1)
    (k : ∀ a S2 m2 H2 b, Ext m1 H1 m2 H2 → RS A m2 S2 H2 → rel H1 m2 H2 a b → Post A rel2 E m H (f a S2) Q2 → R' b H2) : Post A rel E m1 H1 r R' := by
  cases r with
  | stuck => exact p
  | ok a S' => exact fun m' H' b e rs rl => k a S' m' H' b e rs rl p
  | exc c fs S' => exact fun m' H' d e rs rx => p m' H' d (x.trans e) rs rx
theorem RS.touchG (r : RS A m S H) {p : Addr} {o0 : HO} (o : HO) (hp : H p = some o0) (n1 : ∀ xs, o0 ≠ .tup xs) (n2 : ∀ ob xs, o0 ≠ .frz ob (.lst xs)) (n3 : ∀ q, o0 ≠ LamX.CodeO p q) (np : p ∉ m) : Mon m H m (upd H p o) ∧ RS A m S (upd H p o) := by
  have x : Mon m H m (upd H p o) := ⟨fun _ _ h => h, fun a ys h => by
    rw [upd_ne (fun e => by rw [e, hp] at h; exact n1 _ (Option.some.inj h))]; exact h, fun a ob ys h => by
    rw [upd_ne (fun e => by rw [e, hp] at h; exact n2 _ _ (Option.some.inj h))]; exact h, fun a q n h => ⟨n, by
    rw [upd_ne (fun e => by subst e; rw [hp] at h; exact n3 _ (Option.some.inj h))]; exact h⟩⟩
  have ee : ∀ a ∈ m, upd H p o a = H a := fun a h => upd_ne (fun e => np (e ▸ h))
  refine ⟨x, r.len, r.nd, fun a h => ?_, fun i ob a e1 e2 => ?_⟩
  · rw [ee a h]; exact r.chg a h
  · exact (r.obj i ob a e1 e2).mon x (ee a (List.mem_of_getElem? e2))
end
section
variable {A : Ad} {W : WX} {X : Cx} {a b : Expr} {pos : Pos} {fa fb : Env → Sto → R D}
theorem da_empty {P : Program} {w : World} {H : Hp} (h : Heap) (hb : sysModules < h.objs.size) : ObjOk P w H (h.push { cls := .type "dict", data := .dict #[] }) h.objs.size (.ext (DAt P w h.objs.size [])) := by
  have g : (h.push { cls := .type "dict", data := .dict #[] }).get? h.objs.size = some { cls := .type "dict", data := .dict #[] } := Heap.get?_push_size _ rfl
  refine ⟨⟨Nat.zero_le _, beq_eq_false_iff_ne.mpr (Ne.symm (Nat.ne_of_lt hb)), _, #[], 0, g, ⟨rfl, rfl, rfl⟩, rfl, rfl, List.nodup_nil⟩, ⟨_, g⟩, fun h1 h2 hp k => ?_⟩
  obtain ⟨p1, p2, o, es, ep, q1, q2⟩ := hp
  exact ⟨p1, p2, o, es, ep, k _ q1, q2⟩
theorem pe_dnewN : PE X (.Dict [] [] pos) (fun _ H Q => ∀ p, H p = none → Q (.ref p) (upd H p (.ext (DAt X.prog X.w p [])))) := ⟨fun pins s σ H Q I h =>
  wpAny_Dict_empty ⟨.ref s.heap.objs.size, _, I.laid (a := s.heap.objs.size) (o := .ext (DAt X.prog X.w s.heap.objs.size [])) (t' := s.toks) (fun _ _ q => Heap.get?_push_of_some _ q) (Nat.le_refl _) (da_empty s.heap I.big), rfl, h _ (I.hok.fresh (Nat.le_refl _))⟩⟩
theorem se_dnew (hP : A.pr = X.prog) (hw : A.w = X.w) (t : Bool) : SE A W X (.Dict [] [] pos) (fun _ S => pushO S (mkDct t [])) := by
  cases t with
  | false =>
    refine pe_dnewK.imp fun σ H Q ⟨m, ρ, S, rs, re, p⟩ q hq => ?_
    obtain ⟨x, rs1⟩ := rs.push (o := .dK []) (ob := .dK []) hq trivial (fun q z => by unfold LamX.CodeO at z; cases z) fun _ => ⟨[], upd_same, rfl⟩
    refine p _ _ (.ref q) x rs1 ⟨q, ?_, rfl⟩
    rw [← rs.len, List.getElem?_append_right (Nat.le_refl _), Nat.sub_self]
    rfl
  | true =>
    refine pe_dnewN.imp fun σ H Q ⟨m, ρ, S, rs, re, p⟩ q hq => ?_
    obtain ⟨x, rs1⟩ := rs.push (o := .ext (DAt X.prog X.w q [])) (ob := .dT []) hq trivial (fun q z => da_ne_code z) fun _ => ⟨[], by rw [hP, hw]; exact upd_same, rfl⟩
    refine p _ _ (.ref q) x rs1 ⟨q, ?_, rfl⟩
    rw [← rs.len, List.getElem?_append_right (Nat.le_refl _), Nat.sub_self]
    rfl
/-- {k: v} with a nested key -/
theorem pe_dispN {tk tv : TE} (hu : X.A.units + 16 < cLine) (hk : PE X a tk) (hv : PE X b tv) :
    PE X (.Dict [some a] [b] pos) (fun σ H Q => ∀ p, H p = none → tk σ (upd H p (.ext (DAt X.prog X.w p []))) fun x H1 => tv σ H1 fun y H2 => H2 p = some (.ext (DAt X.prog X.w p [])) ∧ ∃ k c, x = .ref c ∧ NV X.K H2 k (.ref c) ∧ k.depth ≤ 8 ∧ ∀ z, RelV y z → Q (.ref p) (upd H2 p (.ext (DAt X.prog X.w p [(k, c, z)])))) := by
  refine ⟨fun pins s σ H Q I h => ?_⟩
  have hn := I.hok.fresh (Nat.le_refl s.heap.objs.size)
  have I1 := I.laid (a := s.heap.objs.size) (o := .ext (DAt X.prog X.w s.heap.objs.size [])) (h' := s.heap.push { cls := .type "dict", data := .dict #[] }) (t' := s.toks) (fun _ _ q => Heap.get?_push_of_some _ q) (Nat.le_refl _) (da_empty s.heap I.big)
  have q := h _ hn
  rw [arm_eval_Dict, show (evalEachOpt [some a] X.env).zip ((evalEach [b] X.env).map fun v => do let x ← v; standAt pos; pure x) = (pairTrees [some a] [b] X.env pos).map fun p => (some p.1, p.2) from rfl, dictDisplay_pairs (pairTrees [some a] [b] X.env pos) (by simp [pairTrees]) (by simp [pairTrees])]
  refine wpAny_bind (wpAny_standAt (wpAny_bind (wpAny_subDictH (knd := nestedKind X.prog X.w) (by show X.A.units + 8 < cLine; omega) (by simp [pairTrees]) ?_)))
  refine pairTrees_cons_walk (thn (hk.run pins _ σ _ _ I1 q) fun u s2 ⟨x, H1, I2, rx, q2⟩ => thn (hv.run pins s2 σ H1 _ I2 q2) fun w2 s3 ⟨y, H2, I3, ry, q3⟩ => pairTrees_nil_walk ?_)
  obtain ⟨e, k, c, rfl, nk, dk, q4⟩ := q3
  obtain rfl : u = Value.ref c := rx
  have nd : NDict X.K X.prog X.w H2 s.heap.objs.size [] := ⟨e, fun x hx => nomatch hx⟩
  obtain ⟨g1, g2, g3⟩ := nd.of I3
  refine ⟨[(k, c, w2)], ⟨rfl, rfl, ⟨nv_is I3 nk rfl, dk⟩, trivial⟩, g1, fun h' tk hm hs => wpAny_pure ?_⟩
  exact ⟨.ref s.heap.objs.size, _, n_write I3 nd (ys := [(k, c, w2)]) (by rw [sizeLine_eq]; simp) hm hs, rfl, q4 w2 ry⟩
theorem se_dnew1 (hK : A.K = X.K) (hP : A.pr = X.prog) (hw : A.w = X.w) (hu : X.A.units + 16 < cLine) (t : Bool) (ha : SE A W X a fa) (hb : SE A W X b fb) :
    SE A W X (.Dict [some a] [b] pos) (fun ρ S => (fa ρ S).bind fun x S1 => (fb ρ S1).bind fun y S2 => if okKey t x then pushO S2 (mkDct t [(x, y)]) else .stuck) := by
  cases t with
  | false =>
    refine (pe_disp (pps_cons ha hb pps_nil) rfl rfl (by simp) (by simp)).imp fun σ H Q ⟨m, ρ, S, rs, re, p⟩ q hq => ?_
    obtain ⟨x0, rs0⟩ := rs.lay (.dK []) hq
    have nq : q ∉ m := fun z => rs.there q z hq
    refine ⟨m, ρ, S, rs0, re.mono rs x0, Post.bindY p x0 fun d S1 m1 H1 v x1 rs1 rv1 p1 => ?_⟩
    refine ⟨m1, ρ, S1, rs1, (re.mono rs x0).mono rs0 x1, Post.bindY p1 (x0.trans x1) fun e S2 m2 H2 u x2 rs2 rv2 p2 => ?_⟩
    have k1 := x1.keep q _ upd_same nq
    have n1 := x1.out upd_same nq
    have k2 := x2.keep q _ k1 n1
    have n2 := x2.out k1 n1
    refine ⟨k2, ?_⟩
    split at p2
    · rename_i ok
      have rv1' := rv1.mono rs1 x2
      obtain ⟨k, hk, rfl⟩ := keyK_kOf rv1' ok
      refine ⟨[(k, u)], rfl, by simp, ?_⟩
      obtain ⟨mo, rs3⟩ := rs2.touchG (.dK [(k, u)]) k2 (fun _ z => by cases z) (fun _ _ z => by cases z) (fun q z => by unfold LamX.CodeO at z; cases z) n2
      have x3 := ((x0.trans x1).trans x2).touch (.dK [(k, u)]) hq nq
      have rs4 := rs3.adopt (ob := .dK [(d, e)]) upd_same n2 trivial (RO.grow (fun q z => by rw [upd_same] at z; have z := Option.some.inj z; unfold LamX.CodeO at z; cases z) ⟨[(k, u)], upd_same, ⟨k, u, [], rfl, hk, rv2.mon mo, rfl⟩⟩) (RO.grow (fun q z => by rw [upd_same] at z; have z := Option.some.inj z; unfold LamX.CodeO at z; cases z))
      refine p2 _ _ (.ref q) (x3.more hq) rs4 ⟨q, ?_, rfl⟩
      rw [← rs2.len, List.getElem?_append_right (Nat.le_refl _), Nat.sub_self]
      rfl
    · exact p2.elim
  | true =>
    refine (pe_dispN hu ha hb).imp fun σ H Q ⟨m, ρ, S, rs, re, p⟩ q hq => ?_
    obtain ⟨x0, rs0⟩ := rs.lay (.ext (DAt X.prog X.w q [])) hq
    have nq : q ∉ m := fun z => rs.there q z hq
    refine ⟨m, ρ, S, rs0, re.mono rs x0, Post.bindY p x0 fun d S1 m1 H1 v x1 rs1 rv1 p1 => ?_⟩
    refine ⟨m1, ρ, S1, rs1, (re.mono rs x0).mono rs0 x1, Post.bindY p1 (x0.trans x1) fun e S2 m2 H2 u x2 rs2 rv2 p2 => ?_⟩
    have k1 := x1.keep q _ upd_same nq
    have n1 := x1.out upd_same nq
    have k2 := x2.keep q _ k1 n1
    have n2 := x2.out k1 n1
    refine ⟨k2, ?_⟩
    split at p2
    · rename_i ok
      have rv1' := rv1.mono rs1 x2
      obtain ⟨ds, k, rfl, hk, hd⟩ := okKey_t ok
      have hn := rv1'.nv hk
      obtain ⟨c, us, rfl, t, r⟩ := id rv1'
      refine ⟨k, c, rfl, by rw [← hK]; exact hn, hd, fun z rz => ?_⟩
      obtain ⟨mo, rs3⟩ := rs2.touchG (.ext (DAt X.prog X.w q [(k, c, z)])) k2 (fun _ z => by cases z) (fun _ _ z => by cases z) (fun q z => da_ne_code z) n2
      have x3 := ((x0.trans x1).trans x2).touch (.ext (DAt X.prog X.w q [(k, c, z)])) hq nq
      have rs4 := rs3.adopt (ob := .dT [(.tup ds, e)]) upd_same n2 trivial (RO.grow (fun q y => by rw [upd_same] at y; exact da_ne_code (Option.some.inj y)) ⟨[(k, c, z)], by rw [hP, hw]; exact upd_same, ⟨k, c, z, u, [], rfl, hk, hd, rv1'.mon mo, rz, rv2.mon mo, rfl⟩⟩) (RO.grow fun q y => by rw [upd_same] at y; exact da_ne_code (Option.some.inj y))
      refine p2 _ _ (.ref q) (x3.more hq) rs4 ⟨q, ?_, rfl⟩
      rw [← rs2.len, List.getElem?_append_right (Nat.le_refl _), Nat.sub_self]
      rfl
    · exact p2.elim
end
end PL

set_option Elab.async false
set_option linter.all false
set_option maxRecDepth 100000
set_option maxHeartbeats 1000000
/-! PLr: enumerate upon lists and tuples. -/
namespace PL
open PySem PySem.Spec PyProof.Rows L2
section
theorem meets_enum1 {v : Value} {o : Obj} {H : Heap → Prop} (B : Begins v o H) :
    Meets (Builtin.«enumerate.__new__» ⟨[.type "enumerate", v], []⟩) (fun _ R s => H s.heap ∧
      R (.ok (.ret (.ref (s.heap.push o).objs.size))) { s with heap := (s.heap.push o).push { cls := .type "enumerate", data := .fields #[.none, .bool false, .ref s.heap.objs.size, rawInt 0, .none, .none] } }) :=
  .of_wp fun prog w A R s h => by
    obtain ⟨hp, g, d, tk, os⟩ := s; obtain ⟨h1, h⟩ := h
    have hsub := sub_enumerate
    have q1 : ∀ {A' : Around} {E : Value → Shared → Prop} {Q : Value → Shared → Prop}, Q (.ref hp.objs.size) ⟨hp.push o, g, d, tk, os⟩ → wpAny (model prog w) A' (pyIter v) Q E ⟨hp, g, d, tk, os⟩ :=
      fun q => B.iter prog w _ _ ⟨hp, g, d, tk, os⟩ _ h1 q
    wp_walk using q1
    refine wpAny_stack_any fun st => wpAny_pure ?_
    split
    · rename_i c _ _ _ _ _
      cases (c == Value.type "enumerate")
      · wp_walk using q1
        exact ⟨_, rfl, h⟩
      · wp_walk using q1
        exact ⟨_, rfl, h⟩
    · wp_walk using q1
      exact ⟨_, rfl, h⟩
variable {prog : Program} {w : World} {A : Around} {E : Value → Shared → Prop} {s : Shared}
theorem enum_at {v : Value} {o : Obj} {H : Heap → Prop} {Q : Value → Shared → Prop} (B : Begins v o H) (h1 : H s.heap)
    (h : ∀ h', IsEnum h' (s.heap.objs.size + 1) s.heap.objs.size 0 .none → h'.get? s.heap.objs.size = some o → h'.objs.size = s.heap.objs.size + 2 →
      (∀ b o, s.heap.get? b = some o → h'.get? b = some o) → Q (.ref (s.heap.objs.size + 1)) { s with heap := h' }) :
    wpAny (model prog w) A (call (.type "enumerate") [v]) Q E s := by
  refine callType_new F.called_enumerate (by decide) (F.typeCall_enumerate_1 _) (F.newCall_enumerate_1 _) (fun obj => F.args_object_init_2 obj _) F.entry_enumerate_new
    (meets_enum1 B) ⟨h1, ?_⟩
  have hz : (s.heap.push o).objs.size = s.heap.objs.size + 1 := Heap.size_push ..
  show _ ∧ _
  rw [hz]
  have he : IsEnum ((s.heap.push o).push { cls := .type "enumerate", data := .fields #[.none, .bool false, .ref s.heap.objs.size, rawInt 0, .none, .none] }) (s.heap.objs.size + 1) s.heap.objs.size 0 .none := by
    have := Heap.get?_push_size (s.heap.push o) (o := { cls := .type "enumerate", data := .fields #[.none, .bool false, .ref s.heap.objs.size, rawInt 0, .none, .none] }) rfl
    rw [hz] at this; exact this
  refine ⟨⟨_, he, rfl⟩, h _ he (Heap.get?_push_of_some _ (Heap.get?_push_size _ B.free)) (by rw [Heap.size_push, hz]) fun b o x => Heap.get?_push_of_some _ (Heap.get?_push_of_some _ x)⟩
end
/-- the tuple at a, each item in a new pair -/
def IteT (K : PySem.W.Frag) (a : Addr) : L2.It :=
  ⟨fun i H => ∃ (xs : List V) (x : V), SqT K H a xs ∧ xs[i]? = some x, fun i H v H' => ∃ T x, v = .ref T ∧ H T = none ∧ H' = upd H T (.tup [.int (i : Nat), x]) ∧ ∀ xs, SqT K H a xs → xs[i]? = some x, fun i H => ∃ xs : List V, SqT K H a xs ∧ xs.length = i⟩
theorem turn_enumT {P : Program} {w : World} {K : PySem.W.Frag} {elts : List Expr} {kk : Nat} {tpos : Pos} (a e it : Addr) :
    Turn P w K (.Tuple elts kk tpos) (IteT K a) [e, it] e (fun i h => (∃ old, IsEnum h e it ((i : Nat) : Int) old) ∧ h.IsTupleIter it a i ∧ e ≠ it ∧ a ≠ it ∧ a ≠ e) where
  mem := by simp
  obj := fun i h st b hb => by
    obtain ⟨⟨old, he⟩, ⟨o, ho, hc, hd⟩, _⟩ := st
    have e' : b = e ∨ b = it := by simpa using hb
    rcases e' with z | z
    · rw [z]; exact ⟨_, he, fun v q => nomatch q⟩
    · rw [z]; exact ⟨o, ho, fun v q => by rw [hd] at q; cases q⟩
  keep := fun i h h' st k => let ⟨⟨old, he⟩, hi, hne⟩ := st; ⟨⟨old, k e (by simp) _ he⟩, hi.at fun o q => k it (by simp) o q, hne⟩
  item := by
    intro X hP hw hK hc i pins s σ H E I hf st hg
    subst hP hw hK
    obtain ⟨⟨old, he⟩, hit, hne, na, nae⟩ := st
    obtain ⟨xs, x, hq, hx⟩ := hg
    obtain ⟨its, rv, p, hz⟩ := I.tuple hq
    have hel : e < s.heap.objs.size := Heap.lt_size he
    have hil : it < s.heap.objs.size := by obtain ⟨_, q, _⟩ := hit; exact Heap.lt_size q
    have hlt : i < its.toArray.size := by
      have := rv.length
      have h2 := (List.getElem?_eq_some_iff.mp hx).1
      simp
      omega
    have D := Draws.tuple (prog := X.prog) (w := X.w) (A := X.A.in1) (I.ok.hd hc) it a na its.toArray
    refine wpAny_pyNext_enum_itemD D he (⟨hit, p⟩ : s.heap.IsTupleIter it a i ∧ s.heap.IsTuple a its.toArray) hlt hne (by simp [hne, Ne.symm nae]) fun u h' tk hP ho hst hT hsz hk => ?_
    obtain ⟨u', hu, ru⟩ := rv.get hx
    have hu2 : u = u' := by
      have : its[i]? = some u := by simpa using hP
      rw [this] at hu
      exact Option.some.inj hu
    subst hu2
    refine ⟨_, rfl, wpAny_letOwnedTupleGo_enum (s := { s with heap := h', toks := tk + 1 }) ho fun h'' he' sb => ?_⟩
    have hT2 : h''.get? s.heap.objs.size = some { cls := .type "tuple", data := .seq #[.int i tk, u] } := (sb.2 _ (Nat.ne_of_gt hel)).trans hT
    have new : ObjOk X.prog X.w (upd H s.heap.objs.size (.tup [.int (i : Nat), x])) h'' s.heap.objs.size (.tup [.int (i : Nat), x]) :=
      ⟨by show 2 ≤ sizeLine; decide, [.int i tk, u], .cons ⟨_, rfl⟩ (.cons ru .nil), ⟨_, hT2, rfl, _, rfl⟩⟩
    have I1 : Inv X pins σ (upd H s.heap.objs.size (.tup [.int (i : Nat), x])) { s with heap := h'', toks := tk + 1 } :=
      I.turnedNew (ch := [e, it]) (fun b ob hb q => (sb.2 b (fun z => hb (by simp [z]))).trans (hk b ob (fun z => hb (by simp [z])) (fun z => hb (by simp [z])) q)) hf (Nat.le_refl _) new
    refine ⟨.ref s.heap.objs.size, _, I1, rfl, ⟨_, x, rfl, I.hok.fresh (Nat.le_refl _), rfl, fun ys hy => by rw [I.tuple_inj hy hq]; exact hx⟩, ⟨⟨u, ?_⟩, hst.1.at fun o q => (sb.2 it (Ne.symm hne)).trans q, hne, na, nae⟩, fun b hb => ?_⟩
    · have e1 : ((i + 1 : Nat) : Int) = (i : Int) + 1 := by omega
      rw [e1]; exact he'
    · have hb' : b < s.heap.objs.size := by
        have e' : b = e ∨ b = it := by simpa using hb
        rcases e' with z | z
        · rw [z]; exact hel
        · rw [z]; exact hil
      rw [upd_ne (Nat.ne_of_lt hb')]
      exact (hf b hb).1
  done := by
    intro X hP hw hK hc i pins s σ H E I hf st hg
    subst hP hw hK
    obtain ⟨⟨old, he⟩, hit, hne, na, nae⟩ := st
    obtain ⟨xs, hq, hx⟩ := hg
    obtain ⟨its, rv, p, hz⟩ := I.tuple hq
    obtain ⟨f0, f1, f2, f3, f4, f5⟩ := hf it (by simp)
    have D := Draws.tuple (prog := X.prog) (w := X.w) (A := X.A.in1) (I.ok.hd hc) it a na its.toArray
    have en : its.toArray.size = i := by
      have := rv.length
      simp
      omega
    refine wpAny_pyNext_enum_endD D he (by rw [en]; exact ⟨hit, p⟩) fun h' eb => ⟨rfl, I.turned (t' := s.toks) (fun b o hb q => eb b o hb q) f0 f1 f3 f4 f5⟩
  self := fun A i s Q E st h => let ⟨⟨_, he⟩, _⟩ := st; wpAny_pyIter_enum he h
def iEnumT (K : PySem.W.Frag) (ta : TA) : TI := fun σ H R => ta σ H fun vs H1 => ∃ a xs, vs = [.ref a] ∧ SqT K H1 a xs ∧ R (IteT K a) H1
theorem pi_enumT {X : Cx} {e : Expr} {ta : TA} {p pos tpos : Pos} {elts : List Expr} {kk : Nat} (hg : Gl X "enumerate") (hm : X.mg "enumerate" = none) (ha : PA X [e] ta) (hs : starEach [e] X.env = [(false, eval e X.env)]) :
    PI X (.Tuple elts kk tpos) (.Call (.Name "enumerate" p) [e] [] pos) (iEnumT X.K ta) := by
  refine ⟨fun pins s σ H R I h => ?_⟩
  refine Call_ (ld_blt I hg hm boot_enumerate (PyProof.Rows.callWith_type1 (thn (ha.run pos pins s σ H _ I h) fun us s1 ⟨vs, H1, I1, r1, q1⟩ => ?_) hs rfl))
  obtain ⟨a, xs, ex, hq, q⟩ := q1
  subst ex
  cases r1 with
  | cons r rr =>
    cases rr
    cases r
    obtain ⟨its, rv, p', hz⟩ := I1.tuple hq
    have al : a < s1.heap.objs.size := by obtain ⟨o, ho, _⟩ := p'; exact Heap.lt_size ho
    refine enum_at (begins_tuple a its.toArray) p' fun h' he hit hsz hk => wpAny_pyIter_enum he ?_
    have I2 : Inv X pins σ H1 { s1 with heap := h' } := I1.kept (t' := s1.toks) hk
    refine ⟨s1.heap.objs.size + 1, [s1.heap.objs.size + 1, s1.heap.objs.size], _, _, H1, rfl, I2, turn_enumT a (s1.heap.objs.size + 1) s1.heap.objs.size, ⟨⟨.none, he⟩, ⟨_, hit, rfl, rfl⟩, Nat.succ_ne_self _, Nat.ne_of_lt al, Nat.ne_of_lt (Nat.lt_succ_of_lt al)⟩, fun b hb => ?_, q⟩
    have e' : b = s1.heap.objs.size + 1 ∨ b = s1.heap.objs.size := by simpa using hb
    have hle : s1.heap.objs.size ≤ b := by
      rcases e' with z | z
      · rw [z]; exact Nat.le_add_right _ _
      · rw [z]; exact Nat.le_refl _
    exact I1.fpOk hle (I1.hok.fresh hle)
end PL

set_option Elab.async false
set_option linter.all false
set_option maxRecDepth 100000
set_option maxHeartbeats 1000000
/-! PLr2: for i, x in enumerate(e). -/
namespace PL
open PySem PySem.Spec PyProof.Rows L2
section
variable {A : Ad} {W : WX} {X : Cx} {a : Expr} {elts : List Expr} {kk : Nat} {tpos pos p : Pos} {fa : Env → Sto → R D}
theorem enumD_get : ∀ {xs : List D} {n i : Nat}, (enumD n xs)[i]? = (xs[i]?).map fun x => .tup [.int ((n + i : Nat) : Int), x]
  | [], _, _ => by simp [enumD]
  | x :: xs, n, 0 => by simp [enumD]
  | x :: xs, n, i + 1 => by
    simp only [enumD, List.getElem?_cons_succ]
    rw [enumD_get]
    congr 1
    funext y
    have : n + 1 + i = n + (i + 1) := by omega
    rw [this]
theorem enumD_len : ∀ {xs : List D} {n : Nat}, (enumD n xs).length = xs.length
  | [], _ => rfl
  | x :: xs, n => by simp [enumD, enumD_len]
/-- a pair that is laid anew -/
theorem pair_ok {m1 : List Addr} {S1 : Sto} {H1 : Hp} {T : Addr} {v : V} {d : D} {i : Nat} (rs1 : RS A m1 S1 H1) (hT : H1 T = none) (rv : RV A m1 H1 d v) :
    Ext m1 H1 m1 (upd H1 T (.tup [.int (i : Nat), v])) ∧ RS A m1 S1 (upd H1 T (.tup [.int (i : Nat), v])) ∧ RV A m1 (upd H1 T (.tup [.int (i : Nat), v])) (.tup [.int (i : Nat), d]) (.ref T) := by
  obtain ⟨x, rs⟩ := rs1.lay (.tup [.int (i : Nat), v]) hT
  exact ⟨x, rs, T, _, rfl, .inl upd_same, _, _, rfl, rfl, _, _, rfl, rv.mono rs1 x, rfl⟩
theorem rI_enumT (hK : A.K = X.K) {m : List Addr} {S : Sto} {H H0 : Hp} {b : Addr} {xs : List D} {vs : List V} (rs : RS A m S H) (t : TupAt A H b vs) (r : RVs A m H xs vs) : rI A H0 m H { items := enumD 0 xs } (IteT X.K b) := by
  refine ⟨fun H => SqT X.K H b vs, fun i H v H' => ∃ T x, v = .ref T ∧ H T = none ∧ H' = upd H T (.tup [.int (i : Nat), x]) ∧ vs[i]? = some x, ⟨fun i H hi q => ?_, fun H q => ⟨vs, q, by rw [enumD_len, r.length]⟩, fun i H x H' _ q y => ?_⟩, fun F hF => ⟨fun m1 S1 H1 x1 rs1 _ => hK ▸ ((x1.mon rs fun a f => (hF a f).2).tupAt t).sqt, fun j H1 x H2 m1 S1 d x1 rs1 hd _ y => ?_⟩⟩
  · have hi : i < vs.length := by rw [enumD_len, ← r.length] at hi; exact hi
    exact ⟨vs, vs[i], q, by simp [hi]⟩
  · obtain ⟨T, v, h1, h2, h3, h4⟩ := y
    exact ⟨T, v, h1, h2, h3, h4 vs q⟩
  · obtain ⟨T, v, rfl, h2, rfl, h4⟩ := y
    rw [enumD_get] at hd
    obtain ⟨d', hd', rfl⟩ := Option.map_eq_some_iff.mp hd
    obtain ⟨v', e1, e2⟩ := r.get hd'
    rw [h4] at e1
    cases e1
    rw [Nat.zero_add]
    exact pair_ok rs1 h2 (e2.mon (x1.mon rs fun a f => (hF a f).2))
theorem rI_enumL (hK : A.K = X.K) {m : List Addr} {S : Sto} {H H0 : Hp} {i : Nat} {b : Addr} {xs : List D} (rs : RS A m S H) (hi : m[i]? = some b) (e : lstAt S i = some xs) : rI A H0 m H { items := enumD 0 xs, watch := [(i, xs)] } (Ite X.K b) := by
  have live : ∀ {m1 S1 H1}, Mon m H m1 H1 → RS A m1 S1 H1 → ItV.stays { items := enumD 0 xs, watch := [(i, xs)] } S1 = true → ∃ us, SqL X.K H1 b us ∧ RVs A m1 H1 xs us := fun {m1 S1 H1} x1 rs1 st => by
    have st : lstAt S1 i = some xs := by simpa [ItV.stays] using st
    obtain ⟨us, q1, q2⟩ := lstAt_ok rs1 (x1.get _ _ hi) st
    exact ⟨us, .of q1, q2⟩
  refine ⟨fun H => ∃ us, SqL X.K H b us ∧ us.length = xs.length, fun i H v H' => ∃ T x, v = .ref T ∧ H T = none ∧ H' = upd H T (.tup [.int (i : Nat), x]) ∧ ∀ us, SqL X.K H b us → us[i]? = some x,
    ⟨fun i H hi ⟨us, q, l⟩ => ⟨us, us[i]'(by rw [enumD_len] at hi; omega), q, by rw [enumD_len] at hi; simp [l, hi]⟩, fun H ⟨us, q, l⟩ => ⟨us, q, by rw [enumD_len]; omega⟩, fun i H x H' _ _ y => y⟩, fun F hF => ⟨fun m1 S1 H1 x1 rs1 st => ?_, fun j H1 x H2 m1 S1 d x1 rs1 hd st y => ?_⟩⟩
  · obtain ⟨us, q1, q2⟩ := live (x1.mon rs fun a f => (hF a f).2) rs1 st
    exact ⟨us, q1, q2.length⟩
  · obtain ⟨us, q1, q2⟩ := live (x1.mon rs fun a f => (hF a f).2) rs1 st
    obtain ⟨T, v, rfl, h2, rfl, h4⟩ := y
    rw [enumD_get] at hd
    obtain ⟨d', hd', rfl⟩ := Option.map_eq_some_iff.mp hd
    obtain ⟨v', e1, e2⟩ := q2.get hd'
    rw [h4 us q1] at e1
    cases e1
    rw [Nat.zero_add]
    exact pair_ok rs1 h2 e2
theorem si_enm (hK : A.K = X.K) (hg : Gl X "enumerate") (hm : X.mg "enumerate" = none) (h : SE A W X a fa) (hs : starEach [a] X.env = [(false, eval a X.env)]) : SI A W X (.Tuple elts kk tpos) (.Call (.Name "enumerate" p) [a] [] pos) (fun ρ S => (fa ρ S).bind fun x S1 => match x with
    | .tup xs => .ok { items := enumD 0 xs } S1
    | .ob i => match lstAt S1 i with
      | some xs => .ok { items := enumD 0 xs, watch := [(i, xs)] } S1
      | none => .stuck
    | _ => .stuck) := by
  refine PI.pick fun σ H Q ⟨m, ρ, S, rs, re, p⟩ => ?_
  dsimp only at p
  cases hf : fa ρ S with
  | stuck => rw [hf] at p; exact p.elim
  | exc c fs S1 =>
    refine ⟨_, pi_enum hg hm (pa_cons h pa_nil hs) hs, m, ρ, S, rs, re, ?_⟩
    rw [hf] at p ⊢
    exact p
  | ok x S1 =>
    cases x with
    | tup xs =>
      refine ⟨_, pi_enumT hg hm (pa_cons h pa_nil hs) hs, m, ρ, S, rs, re, p.bind' anI fun d S1 m1 H1 v eq x1 rs1 rv1 p1 => ?_⟩
      rw [hf] at eq
      cases eq
      obtain ⟨a, vs, rfl, t, r⟩ := rv1
      exact ⟨a, vs, rfl, hK ▸ t.sqt, p1.now rs1 (rI_enumT hK rs1 t r)⟩
    | ob i =>
      refine ⟨_, pi_enum hg hm (pa_cons h pa_nil hs) hs, m, ρ, S, rs, re, p.bind' anI fun d S1 m1 H1 v eq x1 rs1 rv1 p1 => ?_⟩
      rw [hf] at eq
      cases eq
      obtain ⟨a, hi, rfl⟩ := rv1
      dsimp only at p1
      split at p1
      · rename_i xs el
        obtain ⟨vs, h1, h2⟩ := lstAt_ok rs1 hi el
        exact ⟨a, vs, rfl, .of h1, p1.now rs1 (rI_enumL hK rs1 hi el)⟩
      · exact p1.elim
    | _ => rw [hf] at p; exact p.elim
end
end PL

set_option Elab.async false
set_option linter.all false
set_option maxRecDepth 100000
set_option maxHeartbeats 1000000
/-! PL12: what holds of the syntax; the static context; the check of expressions. -/
namespace PL
open PySem PySem.Spec PyProof.Rows L2
/-! ### the syntax -/
def noStar : Expr → Bool
  | .Starred _ _ => false
  | _ => true
def noSlice : Expr → Bool
  | .Slice _ _ _ _ => false
  | _ => true
def noSet : Expr → Bool
  | .Set _ _ _ => false
  | _ => true
def noComp : Expr → Bool
  | .ListComp _ _ _ _ => false
  | .SetComp _ _ _ _ => false
  | .DictComp _ _ _ _ _ => false
  | _ => true
def noCall : Expr → Bool
  | .Call _ as _ _ => !as.isEmpty
  | _ => true
def isName : Expr → Bool
  | .Name _ _ => true
  | _ => false
def noTup : Expr → Bool
  | .Tuple _ _ _ => false
  | _ => true
section
variable {env : PySem.Env} {a b e : Expr} {es : List Expr}
theorem star_cons (h : noStar e = true) : starEach (e :: es) env = (false, eval e env) :: starEach es env := by
  cases e <;> first | rfl | cases h
theorem star_map : ∀ {es : List Expr}, es.all noStar = true → starEach es env = es.map fun e => (false, eval e env)
  | [], _ => rfl
  | e :: es, h => by
    rw [List.all_cons, Bool.and_eq_true] at h
    rw [star_cons h.1, star_map h.2]
    rfl
theorem star_back {pos : Pos} (h : es.all noStar = true) : (backTo pos (starEach es env)).any (·.1) = false := by
  rw [star_map h]
  unfold backTo
  rw [List.any_eq_false]
  intro x hx
  obtain ⟨y, hy, rfl⟩ := List.mem_map.mp hx
  obtain ⟨z, _, rfl⟩ := List.mem_map.mp hy
  exact Bool.false_ne_true
theorem star_few {cpos : Pos} (h : (e :: es).all noStar = true) (hl : es.length < 28) : ((backTo cpos (starEach (e :: es) env)).all (fun x => !x.1) && (backToKw cpos (keywordEach [] env)).all (fun x => x.1.isSome)
      && decide ((e :: es).length + ([] : List Keyword).length + (if ([] : List Keyword).isEmpty then 0 else 1) < 30)) = true := by
  have h1 : (backTo cpos (starEach (e :: es) env)).all (fun x => !x.1) = true := by
    rw [star_map h]
    unfold backTo
    rw [List.all_eq_true]
    intro x hx
    obtain ⟨y, hy, rfl⟩ := List.mem_map.mp hx
    obtain ⟨z, _, rfl⟩ := List.mem_map.mp hy
    rfl
  rw [h1]
  have h2 : (backToKw cpos (keywordEach [] env)).all (fun x => x.1.isSome) = true := rfl
  rw [h2, Bool.true_and, Bool.true_and, decide_eq_true_eq, List.length_cons]
  have e0 : (if ([] : List Keyword).isEmpty = true then 0 else 1) = 0 := rfl
  have e1 : ([] : List Keyword).length = 0 := rfl
  rw [e0, e1]
  omega
theorem plainIx (h : noSlice b = true) : PlainIx b := by
  intro o i
  cases b <;> first | rfl | cases h
theorem asg_cons (h : noStar e = true) : assignEach (e :: es) env = (false, assign e env) :: assignEach es env := by
  cases e <;> first | rfl | cases h
theorem sw_none {l : Nat} {t : Option Expr} (h : noComp e = true) : swapsWith e t l env = pure false := by
  cases e <;> first | rfl | cases h
theorem sw_sole {l : Nat} (h : noComp e = true) : swapsWithSole [a] e l env = pure false := sw_none h
theorem stores_none (h : (noTup e || isName a) = true) : swappedStores [a] e env = pure none := by
  rw [Bool.or_eq_true] at h
  rcases h with h | h
  · cases e <;> first | (cases a <;> rfl) | cases h
  · cases a <;> first | rfl | cases h
theorem folded (h : noSet e = true) (x : Value) : foldedSetIterable e env x = pure x := by
  cases e <;> first | rfl | cases h
theorem base_ok {n : Str} {t : Sem Value} (h : noCall e = true) : attributeBase e n env t = t := by
  cases e with
  | Call f as ks p =>
    cases as with
    | nil => cases h
    | cons a as => cases f <;> rfl
  | _ => rfl
theorem no_marks {op : CmpOp} (h : noSet b = true) : behindInMarks op b = false := by
  cases b <;> first | rfl | cases h
theorem true_plain (h : (match e with | .UnaryOp .Not _ _ | .BoolOp _ _ _ | .IfExp _ _ _ _ | .Compare _ _ _ _ => false | _ => true) = true) (whole : Sem Value) : isTrue e env whole = (do let v ← whole; standAt e.pos; holding [v] (truthy v)) := by
  cases e <;> first
    | rfl
    | cases h
    | (rename_i op _ _; cases op <;> first | rfl | cases h)
end
end PL

set_option Elab.async false
set_option linter.all false
set_option maxRecDepth 100000
set_option maxHeartbeats 1000000
/-! PLw: a walk over a dict, which is locked meanwhile. -/
namespace PL
open PySem PySem.Spec PyProof.Rows L2
/-- what is known of a locked dict: its pairs -/
def Lk (P : Program) (w : World) (d : Addr) (o : Obj) (u : HO) (prs : List (V × V)) : Prop := ∀ (X : Cx) (pins : List (Addr × Obj)) (σ : L2.St) (H : Hp) (s : Shared), X.prog = P → X.w = w → Inv X pins σ H s → H d = some (.frz o u) →
  (d == sysModules) = false ∧ s.heap.get? d = some o ∧ o.ExactDict ∧ ∃ (es : Array DictEntry) (ep : Nat), o.data = .dict es ep ∧ es.size = prs.length ∧ ∀ (i : Nat) (k v : V), prs[i]? = some (k, v) → ∃ en, es[i]? = some en ∧ RelV k en.key ∧ RelV v en.val
theorem lk_da {P : Program} {w : World} {d : Addr} {o : Obj} {xs : List (NestedKey × Addr × Value)} {prs : List (V × V)} (hl : prs.length = xs.length) (hr : ∀ (i : Nat) (x : NestedKey × Addr × Value), xs[i]? = some x → ∃ v, prs[i]? = some (.ref x.2.1, v) ∧ RelV v x.2.2) :
    Lk P w d o (.ext (DAt P w d xs)) prs := by
  intro X pins σ H s hP hw I h
  obtain ⟨hd, ⟨_, hs, o', es, ep, g1, g2, g3, g4, _⟩, _, _⟩ := I.hok d _ h
  rw [hd] at g1
  cases g1
  refine ⟨hs, hd, g2, es, ep, g3, by rw [hl]; exact size_of_entries g4, fun i k v e => ?_⟩
  have hi : i < xs.length := by rw [← hl]; exact (List.getElem?_eq_some_iff.mp e).1
  have hx : xs[i]? = some xs[i] := List.getElem?_eq_getElem hi
  obtain ⟨v', e1, e2⟩ := hr i _ hx
  rw [e] at e1
  cases e1
  have q := entry_at g4 i
  rw [hx] at q
  exact ⟨_, q, rfl, e2⟩
/-- the values -/
def ItdN (d : Addr) (o : Obj) (u : HO) (prs : List (V × V)) : L2.It :=
  ⟨fun i H => H d = some (.frz o u) ∧ i < prs.length, fun i H x H' => H' = H ∧ ∃ k, prs[i]? = some (k, x), fun i H => H d = some (.frz o u) ∧ prs.length ≤ i⟩
/-- the pairs, each a new tuple -/
def ItiN (d : Addr) (o : Obj) (u : HO) (prs : List (V × V)) : L2.It :=
  ⟨fun i H => H d = some (.frz o u) ∧ i < prs.length, fun i H x H' => ∃ T k v, prs[i]? = some (k, v) ∧ x = .ref T ∧ H T = none ∧ H' = upd H T (.tup [k, v]), fun i H => H d = some (.frz o u) ∧ prs.length ≤ i⟩
section
variable {P : Program} {w : World} {K : PySem.W.Frag} {tg : Expr} {d : Addr} {o : Obj} {u : HO} {es : Array DictEntry} {ep : Nat} {prs : List (V × V)}
theorem turn_valsN (it : Addr) (L : Lk P w d o u prs) (hod : o.data = .dict es ep) : Turn P w K tg (ItdN d o u prs) [it] it (fun i h => h.get? it = some (DVw.valOb d i prs.length ep)) where
  mem := by simp
  obj := fun i h st b hb => by
    have e : b = it := by simpa using hb
    subst e
    exact ⟨_, st, fun v z => nomatch z⟩
  keep := fun i h h' st k => k it (by simp) _ st
  item := by
    intro X hP hw hK hc i pins s σ H E I hf st hg
    obtain ⟨hd, hi⟩ := hg
    obtain ⟨f0, f1, f2, f3, f4, f5⟩ := hf it (by simp)
    obtain ⟨hs, hgd, hx, es', ep', hdt, hsz, hen⟩ := L X pins σ H s hP hw I hd
    subst hP hw hK
    obtain ⟨rfl, rfl⟩ := dict_ep hod hdt
    obtain ⟨⟨k, v⟩, hkv⟩ : ∃ p, prs[i]? = some p := ⟨prs[i], List.getElem?_eq_getElem hi⟩
    obtain ⟨en, he, rk, rv⟩ := hen i k v hkv
    refine DVw.val_item st hgd hdt hsz he fun h' st' sb => ?_
    have I1 : Inv X pins σ H { s with heap := h' } := I.turned (t' := s.toks) (fun b ob hb e => (sb.2 b hb).trans e) f0 f1 f3 f4 f5
    exact ⟨en.val, rfl, go_of (s := { s with heap := h' }) st' rfl rfl (by decide) ⟨v, H, I1, rv, ⟨rfl, k, hkv⟩, st', fun b hb => (hf b hb).1⟩⟩
  done := by
    intro X hP hw hK hc i pins s σ H E I hf st hg
    obtain ⟨hd, hi⟩ := hg
    obtain ⟨f0, f1, f2, f3, f4, f5⟩ := hf it (by simp)
    obtain ⟨hs, hgd, hx, es', ep', hdt, hsz, hen⟩ := L X pins σ H s hP hw I hd
    subst hP hw hK
    obtain ⟨rfl, rfl⟩ := dict_ep hod hdt
    exact DVw.val_end (I.ok.hd hc) st hgd hdt hsz (Array.getElem?_eq_none (by omega)) fun h' eb => ⟨rfl, I.turned (t' := s.toks) (fun b ob hb e => eb b ob hb e) f0 f1 f3 f4 f5⟩
  self := fun A i s Q E st h => wpAny_pyIter_valiter (i := i) (n := prs.length) (ep := ep) (d := d) ⟨_, st, rfl, rfl⟩ h
theorem turn_itemsN {elts : List Expr} {kk : Nat} {tpos : Pos} (it : Addr) (L : Lk P w d o u prs) (hod : o.data = .dict es ep) :
    Turn P w K (.Tuple elts kk tpos) (ItiN d o u prs) [it] it (fun i h => ∃ ok ov, IsItemIter h it d i prs.length ep ok ov) where
  mem := by simp
  obj := fun i h st b hb => by
    have e : b = it := by simpa using hb
    subst e
    obtain ⟨ok, ov, e⟩ := st
    exact ⟨_, e, fun v z => nomatch z⟩
  keep := fun i h h' st k => let ⟨ok, ov, e⟩ := st; ⟨ok, ov, k it (by simp) _ e⟩
  item := by
    intro X hP hw hK hc i pins s σ H E I hf st hg
    obtain ⟨hd, hi⟩ := hg
    obtain ⟨hs, hgd, hx, es', ep', hdt, hsz, hen⟩ := L X pins σ H s hP hw I hd
    subst hP hw hK
    obtain ⟨rfl, rfl⟩ := dict_ep hod hdt
    obtain ⟨⟨k, v⟩, hkv⟩ : ∃ p, prs[i]? = some p := ⟨prs[i], List.getElem?_eq_getElem hi⟩
    obtain ⟨en, he, rk, rv⟩ := hen i k v hkv
    obtain ⟨ok, ov, st⟩ := st
    have hlt : it < s.heap.objs.size := Heap.lt_size st
    refine DVw.itm_item st hgd hdt hsz he fun h' ho hT hz hk => ?_
    refine ⟨_, rfl, wpAny_letOwnedTupleGo_items (s := { s with heap := h' }) ho fun h'' he' sb => ?_⟩
    have hT2 : h''.get? s.heap.objs.size = some { cls := .type "tuple", data := .seq #[en.key, en.val] } := (sb.2 _ (Nat.ne_of_gt hlt)).trans hT
    have new : ObjOk X.prog X.w (upd H s.heap.objs.size (.tup [k, v])) h'' s.heap.objs.size (.tup [k, v]) :=
      ⟨by show 2 ≤ sizeLine; decide, [en.key, en.val], .cons rk (.cons rv .nil), ⟨_, hT2, rfl, _, rfl⟩⟩
    have I1 : Inv X pins σ (upd H s.heap.objs.size (.tup [k, v])) { s with heap := h'' } :=
      I.turnedNew (t' := s.toks) (ch := [it]) (fun b ob hb e => (sb.2 b (by simpa using hb)).trans (hk b ob (by simpa using hb) e)) hf (Nat.le_refl _) new
    refine ⟨.ref s.heap.objs.size, _, I1, rfl, ⟨_, k, v, hkv, rfl, I.hok.fresh (Nat.le_refl _), rfl⟩, ⟨en.key, en.val, he'⟩, fun b hb => ?_⟩
    have e : b = it := by simpa using hb
    rw [e, upd_ne (Nat.ne_of_lt hlt)]
    exact (hf it (by simp)).1
  done := by
    intro X hP hw hK hc i pins s σ H E I hf st hg
    obtain ⟨hd, hi⟩ := hg
    obtain ⟨f0, f1, f2, f3, f4, f5⟩ := hf it (by simp)
    obtain ⟨hs, hgd, hx, es', ep', hdt, hsz, hen⟩ := L X pins σ H s hP hw I hd
    subst hP hw hK
    obtain ⟨rfl, rfl⟩ := dict_ep hod hdt
    obtain ⟨ok, ov, st⟩ := st
    exact DVw.itm_end (I.ok.hd hc) st hgd hdt hsz (Array.getElem?_eq_none (by omega)) fun h' eb => ⟨rfl, I.turned (t' := s.toks) (fun b ob hb e => eb b ob hb e) f0 f1 f3 f4 f5⟩
  self := fun A i s Q E st h => let ⟨_, _, e⟩ := st; PySem.W.kcp_self e h
end
section
variable {prog : Program} {w : World}
theorem meetsVals {d : Addr} {es : Array DictEntry} {ep : Nat} (hd : (d == sysModules) = false) :
    MeetsIn prog w (Builtin.«dict.values» ⟨[.ref d], []⟩) (fun _ R s => DT.Raw s.heap d es ep ∧
      R (.ok (.ret (.ref s.heap.objs.size))) { s with heap := s.heap.push { cls := .type "dict_values", data := .fields #[.ref d] } }) :=
  .of_wp fun A R s ⟨hm, h⟩ => by
    unfold Builtin.«dict.values»
    refine wpAny_bind ?_
    unfold Builtin.Dict.noArgs
    refine wpAny_bind (wpAny_notOrdered_dict hm.typeIs ?_)
    show wpAny _ _ (pure d) _ _ s
    refine wpAny_pure ?_
    show wpAny _ _ (Builtin.Dict.showsAll d >>= _) _ _ s
    unfold Builtin.Dict.showsAll
    rw [if_neg (by rw [hd]; exact Bool.false_ne_true)]
    refine wpAny_bind (wpAny_pure ?_)
    exact wpAny_bind (wpAny_newObj_type (wpAny_pure ⟨_, rfl, h⟩))
end
section
variable {X : Cx} {tg e : Expr} {te : TE} {apos cpos : Pos}
def iValsN (X : Cx) (te : TE) : TI := fun σ H R => te σ H fun x H1 => ∃ d o u prs, x = .ref d ∧ H1 d = some (.frz o u) ∧ Lk X.prog X.w d o u prs ∧ R (ItdN d o u prs) H1
def iItemsN (X : Cx) (te : TE) : TI := fun σ H R => te σ H fun x H1 => ∃ d o u prs, x = .ref d ∧ H1 d = some (.frz o u) ∧ Lk X.prog X.w d o u prs ∧ R (ItiN d o u prs) H1
theorem pi_valsN (he : PE X e te) (hbase : attributeBase e "values" X.env (eval e X.env) = eval e X.env) (hline : (apos.endLine == cpos.line) = true) : PI X tg (.Call (.Attribute e "values" apos) [] [] cpos) (iValsN X te) := by
  refine ⟨fun pins s σ H R I h => ?_⟩
  refine wpAny_Call_method (T := "dict") (id := "dict.values") hbase rfl hline F.plainAttrs_dict F.slot_dict_values F.type_dict_values (thn (he.run pins s σ H _ I h) fun u s1 ⟨x, H1, I1, rx, d, o, u', prs, ex, hd, L, q⟩ => ?_)
  subst ex
  obtain rfl : u = Value.ref d := rx
  obtain ⟨hs, hgd, hx, es, ep, hdt, hsz, hen⟩ := L X pins σ H1 s1 rfl rfl I1 hd
  have raw : DT.Raw s1.heap d es ep := ⟨o, hgd, hx, hdt⟩
  refine ⟨raw.typeIs, fun b q => by cases q; exact ⟨o, hgd, hx.2.1⟩, ?_⟩
  have I2 : Inv X pins σ H1 { s1 with heap := s1.heap.push { cls := .type "dict_values", data := .fields #[.ref d] } } := I1.kept (t' := s1.toks) fun b ob q => Heap.get?_push_of_some _ q
  have fin : wpAny (model X.prog X.w) X.A (pyIter (.ref s1.heap.objs.size)) (PIE X pins σ tg R) X.xe { s1 with heap := s1.heap.push { cls := .type "dict_values", data := .fields #[.ref d] } } := by
    refine DSub.iter_vals (a := d) (ob := o) (es := es) (ep := ep) (Heap.get?_push_size _ rfl) (Heap.get?_push_of_some _ hgd) hdt (pi_one (tk := s1.toks) I2 _ (turn_valsN _ L hdt) ?_ q)
    rw [hsz]
    exact Heap.get?_push_size _ rfl
  show wpAny _ _ (callWith cpos (.builtin "dict.values") [.ref d] [] []) _ X.xe s1
  exact method_meetsIn F.slot_dict_values F.entry_dict_values rfl (PySem.evalArgs_none ⟨rfl, raw.typeIs, F.args_dict_values_1 _, _, meetsVals (es := es) (ep := ep) hs, ⟨raw, fin⟩⟩)
theorem pi_itemsN {elts : List Expr} {kk : Nat} {tpos : Pos} (he : PE X e te) (hbase : attributeBase e "items" X.env (eval e X.env) = eval e X.env) (hline : (apos.endLine == cpos.line) = true) :
    PI X (.Tuple elts kk tpos) (.Call (.Attribute e "items" apos) [] [] cpos) (iItemsN X te) := by
  refine ⟨fun pins s σ H R I h => ?_⟩
  refine wpAny_Call_method (T := "dict") (id := "dict.items") hbase rfl hline F.plainAttrs_dict F.slot_dict_items F.type_dict_items (thn (he.run pins s σ H _ I h) fun u s1 ⟨x, H1, I1, rx, d, o, u', prs, ex, hd, L, q⟩ => ?_)
  subst ex
  obtain rfl : u = Value.ref d := rx
  obtain ⟨hs, hgd, hx, es, ep, hdt, hsz, hen⟩ := L X pins σ H1 s1 rfl rfl I1 hd
  have raw : DT.Raw s1.heap d es ep := ⟨o, hgd, hx, hdt⟩
  refine ⟨raw.typeIs, fun b q => by cases q; exact ⟨o, hgd, hx.2.1⟩, ?_⟩
  have I2 : Inv X pins σ H1 { s1 with heap := s1.heap.push { cls := .type "dict_items", data := .fields #[.ref d] } } := I1.kept (t' := s1.toks) fun b ob q => Heap.get?_push_of_some _ q
  have fin : wpAny (model X.prog X.w) X.A (pyIter (.ref s1.heap.objs.size)) (PIE X pins σ (.Tuple elts kk tpos) R) X.xe { s1 with heap := s1.heap.push { cls := .type "dict_items", data := .fields #[.ref d] } } := by
    refine DSub.iter_itms (a := d) (ob := o) (es := es) (ep := ep) (Heap.get?_push_size _ rfl) (Heap.get?_push_of_some _ hgd) hdt (pi_one (tk := s1.toks) I2 _ (turn_itemsN _ L hdt) ⟨.none, .none, ?_⟩ q)
    rw [hsz]
    exact Heap.get?_push_size _ rfl
  show wpAny _ _ (callWith cpos (.builtin "dict.items") [.ref d] [] []) _ X.xe s1
  exact method_meetsIn F.slot_dict_items F.entry_dict_items rfl (PySem.evalArgs_none ⟨rfl, raw.typeIs, F.args_dict_items_1 _, _, DT.meetsItems (es := es) (ep := ep) hs, ⟨raw, fin⟩⟩)
end
end PL

set_option Elab.async false
set_option linter.all false
set_option maxRecDepth 100000
set_option maxHeartbeats 1000000
/-! PLv: for .. in d.items(), d.values(). -/
namespace PL
open PySem PySem.Spec PyProof.Rows L2
section
variable {A : Ad} {W : WX} {X : Cx} {D : Ends} {m m1 : List Addr} {H H0 H1 : Hp} {ρ : Env} {σ : L2.St} {S S1 : Sto} {tg iter : Expr} {ss : List Stmt} {g : G} {f : Env → Sto → F} {pos cpos apos p : Pos}
/-- the reading of a loop -/
theorem for_read {v : ItV} {J : L2.It} (ri : rI A H0 m1 H1 v J) (rs1 : RS A m1 S1 H1) (re : REnv A m1 H1 ρ σ) (p1 : PF A W D m1 H1 (forR v.items v (bodyR g f) ρ S1)) :
    ∃ W' : Nat → Nat → L2.St → Hp → Prop, (∃ m, W' 0 m σ H1) ∧ ∀ i m σ H, W' i m σ H →
      (J.stop i H ∧ D.nx σ H) ∨ (J.go i H ∧ ∃ N : L2.St → Hp → Prop, (∀ σ' H', N σ' H' → ∃ m', m' < m ∧ W' (i + 1) m' σ' H') ∧ ∀ x H', J.yld i H x H' → tGo A g x σ H' fun σ2 H2 => tF A W f { D with nx := N, ct := N, bk := D.nx } σ2 H2) := by
  obtain ⟨G0, Y, wk, hI0⟩ := ri
  have hI := hI0 (fun _ => False) fun _ f => f.elim
  refine ⟨fun i k σ' H' => k = v.items.length - i ∧ i ≤ v.items.length ∧ ∃ m' ρ' S', Ext m1 H1 m' H' ∧ RS A m' S' H' ∧ REnv A m' H' ρ' σ' ∧ PF A W D m' H' (forR (v.items.drop i) v (bodyR g f) ρ' S'),
    ⟨_, rfl, Nat.zero_le _, m1, ρ, S1, rs1.ext, rs1, re, p1⟩, ?_⟩
  rintro i k σ2 H2 ⟨rfl, hi, m2, ρ2, S2, x2, rs2, re2, p2⟩
  have st : v.stays S2 = true := forR_stays fun z => by rw [z] at p2; exact p2
  have gd := hI.1 m2 S2 H2 (x2.toB _) rs2 st
  rcases Nat.lt_or_eq_of_le hi with lt | rfl
  · have hd : v.items.drop i = v.items[i] :: v.items.drop (i + 1) := List.drop_eq_getElem_cons lt
    rw [hd] at p2
    simp only [forR, st, if_true] at p2
    refine .inr ⟨wk.goes i H2 lt gd, fun σ' H' => ∃ m' ρ' S', Ext m1 H1 m' H' ∧ RS A m' S' H' ∧ REnv A m' H' ρ' σ' ∧ PF A W D m' H' (forR (v.items.drop (i + 1)) v (bodyR g f) ρ' S'), fun σ' H' w => ⟨_, by omega, rfl, lt, w⟩, fun x H3 hy => ?_⟩
    obtain ⟨x3, rs3, rx⟩ := hI.2 i H2 x H3 m2 S2 v.items[i] (x2.toB _) rs2 (List.getElem?_eq_getElem lt) st (wk.yields i H2 x H3 lt gd hy)
    cases hρ : asgG g v.items[i] ρ2 with
    | none =>
      simp only [bodyR, hρ] at p2
      exact p2.elim
    | some ρ3 =>
      simp only [bodyR, hρ] at p2
      refine ⟨m2, ρ2, S2, v.items[i], ρ3, rs3, re2.mono rs2 x3, rx, hρ, fun σ3 re3 _ => ⟨m2, ρ3, S2, rs3, re3, ?_⟩⟩
      have p3 := PF.shift p2 x3
      cases q : f ρ3 S2 with
      | stuck => rw [q] at p3; exact p3
      | nx ρ4 S4 => rw [q] at p3; exact fun m4 H4 σ4 x4 rs4 re4 => ⟨m4, ρ4, S4, (x2.trans x3).trans x4, rs4, re4, PF.shift p3 x4⟩
      | cnt ρ4 S4 => rw [q] at p3; exact fun m4 H4 σ4 x4 rs4 re4 => ⟨m4, ρ4, S4, (x2.trans x3).trans x4, rs4, re4, PF.shift p3 x4⟩
      | brk ρ4 S4 => rw [q] at p3; exact p3
      | ret d S4 => rw [q] at p3; exact p3
      | exc c fs ρ4 S4 => rw [q] at p3; exact p3
  · refine .inl ⟨wk.stops H2 gd, ?_⟩
    rw [List.drop_length] at p2
    simp only [forR, st, if_true] at p2
    exact p2 m2 H2 σ2 rs2.ext rs2 re2
theorem RS.unlock {i : Nat} {a : Addr} {od : Obj} {u : HO} {ob : O} (r : RS A m S H) (hi : m[i]? = some a) (h : H a = some (.frz od u)) (n2 : ∀ xs, u ≠ .lst xs) (mo : MutO u) (hn : Mon m H m (upd H a u) → RO A m (upd H a u) a ob) : Mon m H m (upd H a u) ∧ RS A m (S.set i ob) (upd H a u) := by
  have am := List.mem_of_getElem? hi
  have x : Mon m H m (upd H a u) := ⟨fun _ _ h => h, fun b ys e => by
    rw [upd_ne (fun z => by rw [z, h] at e; cases e)]; exact e, fun b ob ys e => by
    rw [upd_ne (fun z => by rw [z, h] at e; cases e; exact n2 _ rfl)]; exact e, fun b q n e => ⟨n, by
    rw [upd_ne (fun z => n (by rw [z]; exact am))]; exact e⟩⟩
  refine ⟨x, by simp [r.len], r.nd, fun b hb => ?_, fun j o2 b e1 e2 => ?_⟩
  · by_cases e : b = a
    · subst e; exact ⟨u, upd_same, mo⟩
    · rw [upd_ne e]; exact r.chg b hb
  · by_cases e : j = i
    · subst e
      rw [hi] at e2
      cases e2
      have hl : j < S.length := by rw [← r.len]; exact (List.getElem?_eq_some_iff.mp hi).1
      rw [List.getElem?_set_self hl] at e1
      cases e1
      exact hn x
    · rw [List.getElem?_set_ne (Ne.symm e)] at e1
      have hb : b ≠ a := fun z => e (((List.getElem?_inj (List.getElem?_eq_some_iff.mp e2).1 r.nd).mp (by rw [e2, hi, z])))
      exact (r.obj j o2 b e1 e2).mon x (upd_ne hb)
/-- the pairs of a dict, as they stand -/
theorem rts_prs : ∀ {kvs : List (PL.D × PL.D)} {xs : List (NestedKey × Addr × Value)}, RTs A m H kvs xs → ∃ prs : List (V × V), prs.length = kvs.length ∧ prs.length = xs.length ∧ (∀ (i : Nat) (x : NestedKey × Addr × Value), xs[i]? = some x → ∃ v, prs[i]? = some (.ref x.2.1, v) ∧ RelV v x.2.2) ∧
    ∀ (i : Nat) (k d : PL.D), kvs[i]? = some (k, d) → ∃ y v, prs[i]? = some (y, v) ∧ RV A m H k y ∧ RV A m H d v
  | [], _, h => by
    rw [show _ = [] from h]
    exact ⟨[], rfl, rfl, fun i x e => by simp at e, fun i k d e => by simp at e⟩
  | (k, d) :: r, _, h => by
    obtain ⟨k', b, u, v, us, rfl, h1, h2, h3, h4, h5, h6⟩ := h
    obtain ⟨prs, e1, e2, e3, e4⟩ := rts_prs h6
    refine ⟨(.ref b, v) :: prs, by simp [e1], by simp [e2], fun i x e => ?_, fun i k d e => ?_⟩
    · cases i with
      | zero => simp only [List.getElem?_cons_zero] at e ⊢; cases e; exact ⟨v, rfl, h4⟩
      | succ i => simp only [List.getElem?_cons_succ] at e ⊢; exact e3 i x e
    · cases i with
      | zero => simp only [List.getElem?_cons_zero] at e ⊢; cases e; exact ⟨_, v, rfl, h3, h5⟩
      | succ i => simp only [List.getElem?_cons_succ] at e ⊢; exact e4 i k d e
/-- what a locked dict hands out -/
theorem rI_lock {its : Bool} {a : Addr} {od : Obj} {u : HO} {prs : List (V × V)} {kvs : List (PL.D × PL.D)} (rs : RS A m S H) (am : a ∈ m) (h : H a = some (.frz od u)) (hl : prs.length = kvs.length)
    (hr : ∀ (i : Nat) (k d : PL.D), kvs[i]? = some (k, d) → ∃ y v, prs[i]? = some (y, v) ∧ RV A m H k y ∧ RV A m H d v) : rI A H0 m H { items := walkD its kvs } (if its then ItiN a od u prs else ItdN a od u prs) := by
  have wl : (walkD its kvs).length = prs.length := by cases its <;> simp [walkD, hl]
  cases its with
  | false =>
    refine ⟨fun H => H a = some (.frz od u), fun i H x H' => H' = H ∧ ∃ k, prs[i]? = some (k, x), ⟨fun i H hi q => ⟨q, by rw [← wl]; exact hi⟩, fun H q => ⟨q, by rw [← wl]; exact Nat.le_refl _⟩, fun i H x H' _ _ y => y⟩, fun F hF => ⟨fun m1 S1 H1 x1 rs1 _ => x1.frz a od u am h, fun j H1 x H2 m1 S1 d x1 rs1 hd _ y => ?_⟩⟩
    obtain ⟨rfl, k, hk⟩ := y
    have hd : (kvs.map (·.2))[j]? = some d := hd
    rw [List.getElem?_map] at hd
    obtain ⟨⟨k', d'⟩, h1, rfl⟩ := Option.map_eq_some_iff.mp hd
    obtain ⟨y, v, e1, e2, e3⟩ := hr j k' d' h1
    rw [hk] at e1
    cases e1
    exact ⟨rs1.ext, rs1, e3.mon (x1.mon rs fun a f => (hF a f).2)⟩
  | true =>
    refine ⟨fun H => H a = some (.frz od u), fun i H x H' => ∃ T k v, prs[i]? = some (k, v) ∧ x = .ref T ∧ H T = none ∧ H' = upd H T (.tup [k, v]), ⟨fun i H hi q => ⟨q, by rw [← wl]; exact hi⟩, fun H q => ⟨q, by rw [← wl]; exact Nat.le_refl _⟩, fun i H x H' _ _ y => y⟩, fun F hF => ⟨fun m1 S1 H1 x1 rs1 _ => x1.frz a od u am h, fun j H1 x H2 m1 S1 d x1 rs1 hd _ y => ?_⟩⟩
    obtain ⟨T, k, v, hk, rfl, hT, rfl⟩ := y
    have hd : (kvs.map fun p => PL.D.tup [p.1, p.2])[j]? = some d := hd
    rw [List.getElem?_map] at hd
    obtain ⟨⟨k', d'⟩, h1, rfl⟩ := Option.map_eq_some_iff.mp hd
    obtain ⟨y, v', e1, e2, e3⟩ := hr j k' d' h1
    rw [hk] at e1
    cases e1
    have mo := x1.mon rs fun a f => (hF a f).2
    obtain ⟨x2, rs2⟩ := rs1.lay (.tup [k, v]) hT
    exact ⟨x2, rs2, T, _, rfl, .inl upd_same, _, _, rfl, (e2.mon mo).mono rs1 x2, _, _, rfl, (e3.mon mo).mono rs1 x2, rfl⟩
theorem _root_.L2.PS.pick {st : Stmt} {t' : TS} (h : ∀ D σ H, t' D σ H → ∃ t, PS X st t ∧ t D σ H) : PS X st t' := ⟨fun pins s σ H D I q => let ⟨_, p, q'⟩ := h D σ H q; p.run pins s σ H D I q'⟩
/-- the name of the method -/
def wdName (its : Bool) : Str := if its then "items" else "values"
theorem ss_forD {its : Bool} {j : Nat} {x : Str} (hP : A.pr = X.prog) (hw : A.w = X.w) (hp : PassesOwn (model X.prog X.w) X.A X.env X.xe) (hc : X.calm = true) (hN : X.N[j]? = some x) (hv : Vis X.env.scope x) (hd : (x == ("__debug__" : Str)) = false) (hcd : (x == ("__classdict__" : Str)) = false)
    (hg : PG X tg (tGo A g)) (hb : SSs A W X ss f) (hline : (apos.endLine == cpos.line) = true) (ht : its = true → ∃ elts kk tpos, tg = .Tuple elts kk tpos) :
    SS A W X (.For tg (.Call (.Attribute (.Name x p) (wdName its) apos) [] [] cpos) ss [] pos) (fun ρ S => match ρ[j]? with
    | some (some (.ob i)) => match S[i]? with
      | some (.dT kvs) => unlockF i (.dT kvs) (forR (walkD its kvs) { items := walkD its kvs } (bodyR g f) ρ (S.set i .gone))
      | _ => .stuck
    | _ => .stuck) := by
  refine PS.pick fun D σ H ⟨m, ρ, S, rs, re, pf⟩ => ?_
  dsimp only at pf
  split at pf
  · rename_i i eρ
    split at pf
    · rename_i kvs eS
      obtain ⟨v, es, a, hi, rfl⟩ := re.2 j _ eρ
      have am := List.mem_of_getElem? hi
      obtain ⟨xs, h1, h2⟩ := rs.obj i _ a eS hi
      rw [hP, hw] at h1
      obtain ⟨prs, l1, l2, q1, q2⟩ := rts_prs h2
      have L : ∀ od, Lk X.prog X.w a od (.ext (DAt X.prog X.w a xs)) prs := fun od => lk_da l2 q1
      have nz : ∀ od u, H a ≠ some (.frz od u) := fun _ _ z => by rw [h1] at z; cases z
      have core : ∀ od, Ext m H m (upd H a (.frz od (.ext (DAt X.prog X.w a xs)))) ∧ ∃ W' : Nat → Nat → L2.St → Hp → Prop, (∃ m, W' 0 m σ (upd H a (.frz od (.ext (DAt X.prog X.w a xs))))) ∧ ∀ i m σ H, W' i m σ H →
          ((if its then ItiN a od (.ext (DAt X.prog X.w a xs)) prs else ItdN a od (.ext (DAt X.prog X.w a xs)) prs).stop i H ∧ (H a = some (.frz od (.ext (DAt X.prog X.w a xs))) ∧ D.nx σ (upd H a (.ext (DAt X.prog X.w a xs))))) ∨ ((if its then ItiN a od (.ext (DAt X.prog X.w a xs)) prs else ItdN a od (.ext (DAt X.prog X.w a xs)) prs).go i H ∧ ∃ N : L2.St → Hp → Prop, (∀ σ' H', N σ' H' → ∃ m', m' < m ∧ W' (i + 1) m' σ' H') ∧ ∀ x H', (if its then ItiN a od (.ext (DAt X.prog X.w a xs)) prs else ItdN a od (.ext (DAt X.prog X.w a xs)) prs).yld i H x H' → tGo A g x σ H' fun σ2 H2 => tF A W f { nx := N, ct := N, bk := fun σ' H' => H' a = some (.frz od (.ext (DAt X.prog X.w a xs))) ∧ D.nx σ' (upd H' a (.ext (DAt X.prog X.w a xs))), rt := fun v H' => H' a = some (.frz od (.ext (DAt X.prog X.w a xs))) ∧ D.rt v (upd H' a (.ext (DAt X.prog X.w a xs))) } σ2 H2) := by
        intro od
        obtain ⟨x1, rs1⟩ := rs.write (ob := .gone) (o := .frz od (.ext (DAt X.prog X.w a xs))) hi nz trivial fun _ => trivial
        refine ⟨x1, ?_⟩
        have mo1 := x1.mon rs
        have ri : rI A H m (upd H a (.frz od (.ext (DAt X.prog X.w a xs)))) { items := walkD its kvs } (if its then ItiN a od (.ext (DAt X.prog X.w a xs)) prs else ItdN a od (.ext (DAt X.prog X.w a xs)) prs) :=
          rI_lock rs1 am upd_same l1 fun i k d e => let ⟨y, v, e1, e2, e3⟩ := q2 i k d e; ⟨y, v, e1, e2.mon mo1, e3.mon mo1⟩
        -- from the locked end to the end behind it
        have back : ∀ {m' : List Addr} {H' : Hp} {S' : Sto}, Ext m (upd H a (.frz od (.ext (DAt X.prog X.w a xs)))) m' H' → RS A m' S' H' → H' a = some (.frz od (.ext (DAt X.prog X.w a xs))) ∧ Ext m H m' (upd H' a (.ext (DAt X.prog X.w a xs))) ∧ Mon m' H' m' (upd H' a (.ext (DAt X.prog X.w a xs))) ∧ RS A m' (S'.set i (.dT kvs)) (upd H' a (.ext (DAt X.prog X.w a xs))) := by
          intro m' H' S' x2 rs2
          have hz := x2.frz a od _ am upd_same
          have hi' := x2.get hi
          have m2 := mo1
          obtain ⟨mo2, rs3⟩ := rs2.unlock (ob := .dT kvs) hi' hz (fun _ z => by cases z) trivial fun mo => ⟨xs, by rw [hP, hw]; exact upd_same, ((h2.mon mo1).mon (x2.mon rs1)).mon mo⟩
          have x12 := x1.trans x2
          refine ⟨hz, ⟨x12.app, fun b o e nb => ?_, fun b hb => ?_, fun b od' u' hb e => ?_⟩, mo2, rs3⟩
          · rw [upd_ne (fun z : b = a => nb (by rw [z]; exact am))]; exact x12.keep b o e nb
          · by_cases z : b = a
            · rw [z, upd_same]; simp
            · rw [upd_ne z]; exact x12.there b hb
          · rw [upd_ne (fun z : b = a => nz od' u' (by rw [← z]; exact e))]; exact x12.frz b od' u' hb e
        refine for_read (D := { nx := fun σ' H' => H' a = some (.frz od (.ext (DAt X.prog X.w a xs))) ∧ D.nx σ' (upd H' a (.ext (DAt X.prog X.w a xs))), rt := fun v H' => H' a = some (.frz od (.ext (DAt X.prog X.w a xs))) ∧ D.rt v (upd H' a (.ext (DAt X.prog X.w a xs))) }) ri rs1 (re.mono rs x1) ?_
        show PF A W _ m _ (forR (walkD its kvs) { items := walkD its kvs } (bodyR g f) ρ (S.set i .gone))
        cases q : forR (walkD its kvs) { items := walkD its kvs } (bodyR g f) ρ (S.set i .gone) with
        | stuck => rw [q] at pf; exact pf
        | nx ρ1 S1 =>
          rw [q] at pf
          simp only [unlockF] at pf
          split at pf
          · intro m' H' σ' x2 rs2 re2
            obtain ⟨b1, b2, b3, b4⟩ := back x2 rs2
            exact ⟨b1, pf m' _ σ' b2 b4 (re2.mon b3)⟩
          · exact pf.elim
        | ret d S1 =>
          rw [q] at pf
          simp only [unlockF] at pf
          split at pf
          · intro m' H' v x2 rs2 rv2
            obtain ⟨b1, b2, b3, b4⟩ := back x2 rs2
            exact ⟨b1, pf m' _ v b2 b4 (rv2.mon b3)⟩
          · exact pf.elim
        | brk ρ1 S1 => rw [q] at pf; exact pf.elim
        | cnt ρ1 S1 => rw [q] at pf; exact pf.elim
        | exc c fs ρ1 S1 => rw [q] at pf; exact pf.elim
      have hfold : ∀ y, foldedSetIterable (.Call (.Attribute (.Name x p) (wdName its) apos) [] [] cpos) X.env y = pure y := fun y => rfl
      cases its with
      | false =>
        refine ⟨_, ps_lock (ps_for hp hc (pi_valsN (pe_var hN hv hd hcd) rfl hline) hg hb hfold), a, _, h1, trivial, fun od => ?_⟩
        obtain ⟨x1, c⟩ := core od
        exact ⟨_, es, a, od, _, prs, rfl, upd_same, L od, c⟩
      | true =>
        obtain ⟨elts, kk, tpos, rfl⟩ := ht rfl
        refine ⟨_, ps_lock (ps_for hp hc (pi_itemsN (pe_var hN hv hd hcd) rfl hline) hg hb hfold), a, _, h1, trivial, fun od => ?_⟩
        obtain ⟨x1, c⟩ := core od
        exact ⟨_, es, a, od, _, prs, rfl, upd_same, L od, c⟩
    · exact pf.elim
  · exact pf.elim
end
end PL

set_option Elab.async false
set_option linter.all false
set_option maxRecDepth 100000
set_option maxHeartbeats 1000000
/-! PLm: min and max of two data, upon the heap. -/
namespace PL
open PySem PySem.Calls PyProof.Rows PySem.W
section
variable {prog : Program} {w : World} {A : Around} {E : Value → Shared → Prop} {s : Shared}
theorem call_min_twoH {a b : Value} {Q : Value → Shared → Prop}
    (h : wpAny (model prog w) A.in1 (pyIter (.ref s.heap.objs.size)) (fun it s₂ => ∃ I fp wr G n P St H bt, it = .ref I ∧ WalksS prog w A.in1 I fp wr G n P St ∧ St 0 s₂ ∧ (∀ b ∈ fp, b < s₂.heap.objs.size) ∧ 0 < n ∧
      (∀ b o, H.get? b = some o → b ∉ wr) ∧ (∀ b o, H.get? b = some o → s₂.heap.get? b = some o) ∧ CmpIn prog w A.in1 .Lt H P bt ∧ ∀ v s', P (argBest bt (n - 1)) v → Moved wr G s₂ s' → Q v s') E
      { s with heap := s.heap.push { cls := .type "tuple", data := .seq #[a, b] } }) :
    wpAny (model prog w) A (call (.builtin "min") [a, b]) Q E s := by
  have hname : (toString "min" ++ toString ".loop" : String) = "min.loop" := by decide
  refine call_function_tree F.kind_min F.plain_min F.entry_min (F.args_min2 _ _) ?_
  show wpAny _ A.in1 (Builtin.Builtins.bindParams "min" ["key", "default"] 0 ⟨[], []⟩ >>= _) _ _ s
  refine wpAny_bind (wpAny_of_eq (show Builtin.Builtins.bindParams "min" ["key", "default"] 0 ⟨[], []⟩ = pure [none, none] from rfl) ?_)
  show wpAny _ A.in1 (newTuple [a, b] >>= _) _ _ s
  refine wpAny_bind (wpAny_newObj_type ?_)
  refine wpAny_bind (wpAny_mono h (fun it s₂ h₂ => ?_) fun _ _ e => e)
  obtain ⟨I, fp, wr, G, n, P, St, H, bt, rfl, W, hst, hfp, hn, hw, hkeep, hcmp, hQ⟩ := h₂
  refine wpAny_bind (wpAny_newObj_type ?_)
  have hSf : s₂.heap.objs.size ∉ fp := fun hm => Nat.lt_irrefl _ (hfp _ hm)
  rw [hname]
  refine wpAny_pure ⟨plainId_quiet F.plain_min_loop _, codeAny_min_loop_firstH W H hw bt hcmp s₂.heap.objs.size hSf (fresh_in hkeep) _ hn (fun b o e => Heap.get?_push_of_some _ (hkeep b o e)) (W.frame 0 s₂ _ s₂.toks hst (Nat.le_refl _) fun b _ o e => Heap.get?_push_of_some _ e) (Heap.get?_push_size _ rfl) fun v s' hP hm => ?_⟩
  exact hQ v s' hP (Moved.drop_new (tk := s₂.toks) hm (Nat.le_refl _))
theorem call_max_twoH {a b : Value} {Q : Value → Shared → Prop}
    (h : wpAny (model prog w) A.in1 (pyIter (.ref s.heap.objs.size)) (fun it s₂ => ∃ I fp wr G n P St H bt, it = .ref I ∧ WalksS prog w A.in1 I fp wr G n P St ∧ St 0 s₂ ∧ (∀ b ∈ fp, b < s₂.heap.objs.size) ∧ 0 < n ∧
      (∀ b o, H.get? b = some o → b ∉ wr) ∧ (∀ b o, H.get? b = some o → s₂.heap.get? b = some o) ∧ CmpIn prog w A.in1 .Gt H P bt ∧ ∀ v s', P (argBest bt (n - 1)) v → Moved wr G s₂ s' → Q v s') E
      { s with heap := s.heap.push { cls := .type "tuple", data := .seq #[a, b] } }) :
    wpAny (model prog w) A (call (.builtin "max") [a, b]) Q E s := by
  have hname : (toString "max" ++ toString ".loop" : String) = "max.loop" := by decide
  refine call_function_tree F.kind_max F.plain_max F.entry_max (F.args_max2 _ _) ?_
  show wpAny _ A.in1 (Builtin.Builtins.bindParams "max" ["key", "default"] 0 ⟨[], []⟩ >>= _) _ _ s
  refine wpAny_bind (wpAny_of_eq (show Builtin.Builtins.bindParams "max" ["key", "default"] 0 ⟨[], []⟩ = pure [none, none] from rfl) ?_)
  show wpAny _ A.in1 (newTuple [a, b] >>= _) _ _ s
  refine wpAny_bind (wpAny_newObj_type ?_)
  refine wpAny_bind (wpAny_mono h (fun it s₂ h₂ => ?_) fun _ _ e => e)
  obtain ⟨I, fp, wr, G, n, P, St, H, bt, rfl, W, hst, hfp, hn, hw, hkeep, hcmp, hQ⟩ := h₂
  refine wpAny_bind (wpAny_newObj_type ?_)
  have hSf : s₂.heap.objs.size ∉ fp := fun hm => Nat.lt_irrefl _ (hfp _ hm)
  rw [hname]
  refine wpAny_pure ⟨plainId_quiet F.plain_max_loop _, codeAny_max_loop_firstH W H hw bt hcmp s₂.heap.objs.size hSf (fresh_in hkeep) _ hn (fun b o e => Heap.get?_push_of_some _ (hkeep b o e)) (W.frame 0 s₂ _ s₂.toks hst (Nat.le_refl _) fun b _ o e => Heap.get?_push_of_some _ e) (Heap.get?_push_size _ rfl) fun v s' hP hm => ?_⟩
  exact hQ v s' hP (Moved.drop_new (tk := s₂.toks) hm (Nat.le_refl _))
/-- min of two alike data -/
theorem min_two_data {a b : Value} {x y : PyData} {as bs : List Addr} {Q : Value → Shared → Prop} (hh : A.handled = none) (ra : Reads s.heap a x as) (rb : Reads s.heap b y bs) (ha : AlikeAll [x, y]) (hu : A.units + 1 + PyData.depthAll [x, y] < cLine)
    (h : ∀ h' tk, (∀ b o, s.heap.get? b = some o → h'.get? b = some o) → Q (if dataLt y x = true then b else a) { s with heap := h', toks := tk }) :
    wpAny (model prog w) A (call (.builtin "min") [a, b]) Q E s := by
  have k0 : ∀ c o, s.heap.get? c = some o → (s.heap.push { cls := .type "tuple", data := .seq #[a, b] }).get? c = some o := fun c o e => Heap.get?_push_of_some _ e
  have hT : (s.heap.push { cls := .type "tuple", data := .seq #[a, b] }).IsTuple s.heap.objs.size #[a, b] := ⟨_, Heap.get?_push_size _ rfl, rfl, 0, rfl⟩
  have hr : ReadsAll (s.heap.push { cls := .type "tuple", data := .seq #[a, b] }) (#[a, b] : Array Value).toList [x, y] (as ++ (bs ++ [])) := .cons (reads_keeps k0 ra) (.cons (reads_keeps k0 rb) .nil)
  refine call_min_twoH (iter_tupleW (A := A.in1) (s := { s with heap := s.heap.push { cls := .type "tuple", data := .seq #[a, b] } }) hh hT fun s₂ e W st hfp hw hk => ?_)
  refine ⟨_, _, _, _, _, _, _, s.heap.push { cls := .type "tuple", data := .seq #[a, b] }, _, rfl, W, st, hfp, by simp, hw, hk, cmpIn_lt (A := A.in1) (s := { s with heap := s.heap.push { cls := .type "tuple", data := .seq #[a, b] } }) hr ha (by show A.units + 1 + _ < _; exact hu), fun v s' hP m => ?_⟩
  obtain ⟨h', tk, rfl, hk'⟩ := moved_old e rfl m
  have := h h' tk fun c o e => hk' c o (k0 c o e)
  have hv : v = if dataLt y x = true then b else a := by
    have hP : (#[a, b] : Array Value)[argBest (fun i j => dataLt ([x, y].getD i .none) ([x, y].getD j .none)) 1]? = some v := hP
    by_cases c : dataLt y x = true
    · have e : argBest (fun i j => dataLt ([x, y].getD i .none) ([x, y].getD j .none)) 1 = 1 := by simp [argBest, c]
      rw [e] at hP
      rw [if_pos c]
      simpa using hP.symm
    · have e : argBest (fun i j => dataLt ([x, y].getD i .none) ([x, y].getD j .none)) 1 = 0 := by simp [argBest, c]
      rw [e] at hP
      rw [if_neg c]
      simpa using hP.symm
  rw [hv]
  exact this
/-- max of two alike data -/
theorem max_two_data {a b : Value} {x y : PyData} {as bs : List Addr} {Q : Value → Shared → Prop} (hh : A.handled = none) (ra : Reads s.heap a x as) (rb : Reads s.heap b y bs) (ha : AlikeAll [x, y]) (hu : A.units + 1 + PyData.depthAll [x, y] < cLine)
    (h : ∀ h' tk, (∀ b o, s.heap.get? b = some o → h'.get? b = some o) → Q (if dataLt x y = true then b else a) { s with heap := h', toks := tk }) :
    wpAny (model prog w) A (call (.builtin "max") [a, b]) Q E s := by
  have k0 : ∀ c o, s.heap.get? c = some o → (s.heap.push { cls := .type "tuple", data := .seq #[a, b] }).get? c = some o := fun c o e => Heap.get?_push_of_some _ e
  have hT : (s.heap.push { cls := .type "tuple", data := .seq #[a, b] }).IsTuple s.heap.objs.size #[a, b] := ⟨_, Heap.get?_push_size _ rfl, rfl, 0, rfl⟩
  have hr : ReadsAll (s.heap.push { cls := .type "tuple", data := .seq #[a, b] }) (#[a, b] : Array Value).toList [x, y] (as ++ (bs ++ [])) := .cons (reads_keeps k0 ra) (.cons (reads_keeps k0 rb) .nil)
  refine call_max_twoH (iter_tupleW (A := A.in1) (s := { s with heap := s.heap.push { cls := .type "tuple", data := .seq #[a, b] } }) hh hT fun s₂ e W st hfp hw hk => ?_)
  refine ⟨_, _, _, _, _, _, _, s.heap.push { cls := .type "tuple", data := .seq #[a, b] }, _, rfl, W, st, hfp, by simp, hw, hk, cmpIn_gt (A := A.in1) (s := { s with heap := s.heap.push { cls := .type "tuple", data := .seq #[a, b] } }) hr ha (by show A.units + 1 + _ < _; exact hu), fun v s' hP m => ?_⟩
  obtain ⟨h', tk, rfl, hk'⟩ := moved_old e rfl m
  have := h h' tk fun c o e => hk' c o (k0 c o e)
  have hv : v = if dataLt x y = true then b else a := by
    have hP : (#[a, b] : Array Value)[argBest (fun i j => dataLt ([x, y].getD j .none) ([x, y].getD i .none)) 1]? = some v := hP
    by_cases c : dataLt x y = true
    · have e : argBest (fun i j => dataLt ([x, y].getD j .none) ([x, y].getD i .none)) 1 = 1 := by simp [argBest, c]
      rw [e] at hP
      rw [if_pos c]
      simpa using hP.symm
    · have e : argBest (fun i j => dataLt ([x, y].getD j .none) ([x, y].getD i .none)) 1 = 0 := by simp [argBest, c]
      rw [e] at hP
      rw [if_neg c]
      simpa using hP.symm
  rw [hv]
  exact this
end
end PL

set_option Elab.async false
set_option linter.all false
set_option maxRecDepth 100000
set_option maxHeartbeats 1000000
/-! PLx: data sorted, the least of data, a list repeated. -/
namespace PL
open PySem PySem.Spec PyProof.Rows L2 PySem.W
theorem d_str_inj {a b : List Nat} (h : (⟨a.toArray⟩ : Str) = ⟨b.toArray⟩) : a = b := by
  injection h with h
  have := congrArg Array.toList h
  simpa using this
mutual
theorem py_inj : ∀ {a b : D} {p : PyData}, a.py = some p → b.py = some p → a = b
  | .non, b, p, h, h' => by
    cases h
    cases b <;> simp only [D.py] at h' <;> first | rfl | cases h' | (obtain ⟨_, _, z⟩ := Option.map_eq_some_iff.mp h'; cases z)
  | .bl x, b, p, h, h' => by
    cases h
    cases b <;> simp only [D.py] at h' <;> first | (cases h'; rfl) | cases h' | (obtain ⟨_, _, z⟩ := Option.map_eq_some_iff.mp h'; cases z)
  | .int x, b, p, h, h' => by
    cases h
    cases b <;> simp only [D.py] at h' <;> first | (cases h'; rfl) | cases h' | (obtain ⟨_, _, z⟩ := Option.map_eq_some_iff.mp h'; cases z)
  | .str x, b, p, h, h' => by
    cases h
    cases b with
    | str y => simp only [D.py] at h'; injection h' with h'; injection h' with h'; rw [d_str_inj h']
    | tup ys => simp only [D.py] at h'; obtain ⟨_, _, z⟩ := Option.map_eq_some_iff.mp h'; cases z
    | _ => simp only [D.py] at h'; cases h'
  | .tup xs, b, p, h, h' => by
    simp only [D.py] at h
    obtain ⟨ds, h1, rfl⟩ := Option.map_eq_some_iff.mp h
    cases b with
    | tup ys =>
      simp only [D.py] at h'
      obtain ⟨ds', h2, e⟩ := Option.map_eq_some_iff.mp h'
      cases e
      rw [pys_inj h1 h2]
    | _ => simp only [D.py] at h'; cases h'
  | .scr _, _, _, h, _ => by cases h
  | .ob _, _, _, h, _ => by cases h
  | .fn _, _, _, h, _ => by cases h
theorem pys_inj : ∀ {a b : List D} {p : List PyData}, D.pys a = some p → D.pys b = some p → a = b
  | [], [], _, _, _ => rfl
  | [], y :: ys, p, h, h' => by
    cases h
    simp only [D.pys] at h'
    split at h' <;> cases h'
  | x :: xs, [], p, h, h' => by
    cases h'
    simp only [D.pys] at h
    split at h <;> cases h
  | x :: xs, y :: ys, p, h, h' => by
    simp only [D.pys] at h h'
    split at h
    · rename_i d ds e1 e2
      split at h'
      · rename_i d' ds' e3 e4
        cases h
        injection h' with h'
        injection h' with k1 k2
        subst k1 k2
        rw [py_inj e1 e3, pys_inj e2 e4]
      · cases h'
    · cases h
end
theorem pys_cons {x : D} {xs : List D} {ds : List PyData} (h : D.pys (x :: xs) = some ds) : ∃ d r, ds = d :: r ∧ x.py = some d ∧ D.pys xs = some r := by
  simp only [D.pys] at h
  split at h
  · rename_i d r e1 e2
    cases h
    exact ⟨d, r, rfl, e1, e2⟩
  · cases h
theorem pys_map : ∀ {xs : List D} {ds : List PyData}, D.pys xs = some ds → ds = xs.map pyOf
  | [], _, h => by cases h; rfl
  | x :: xs, _, h => by
    obtain ⟨d, r, rfl, h1, h2⟩ := pys_cons h
    rw [List.map_cons, ← pys_map h2]
    unfold pyOf
    rw [h1]
    rfl
theorem pys_get : ∀ {xs : List D} {ds : List PyData} {i : Nat} {d : PyData}, D.pys xs = some ds → ds[i]? = some d → ∃ x, xs[i]? = some x ∧ x.py = some d
  | [], _, i, d, h, e => by cases h; simp at e
  | x :: xs, _, i, d, h, e => by
    obtain ⟨d', r, rfl, h1, h2⟩ := pys_cons h
    cases i with
    | zero => simp only [List.getElem?_cons_zero] at e ⊢; cases e; exact ⟨x, rfl, h1⟩
    | succ i => simp only [List.getElem?_cons_succ] at e ⊢; exact pys_get h2 e
theorem pys_len : ∀ {xs : List D} {ds : List PyData}, D.pys xs = some ds → ds.length = xs.length
  | [], _, h => by cases h; rfl
  | x :: xs, _, h => by
    obtain ⟨d, r, rfl, h1, h2⟩ := pys_cons h
    simp [pys_len h2]
theorem alike_of {ds : List PyData} (h : pyAlike ds = true) : AllAlike ds := fun d hd e he => List.all_eq_true.mp (List.all_eq_true.mp h d hd) e he
theorem minOk_of {ds : List PyData} (h : pyMinOk ds = true) : AlikeAll ds ∧ (∀ d ∈ ds, SeqAt.shaped d = true) ∧ PyData.depthAll ds ≤ 16 := by
  unfold pyMinOk at h
  simp only [Bool.and_eq_true, decide_eq_true_eq] at h
  obtain ⟨⟨⟨h1, h2⟩, h3⟩, h4⟩ := h
  refine ⟨⟨alike_of h1, fun d hd z => ?_⟩, List.all_eq_true.mp h3, h4⟩
  have := List.all_eq_true.mp h2 d hd
  rw [z] at this
  cases this
theorem minL_py : ∀ (r : List D) (x : D) (ds : List PyData) (d : PyData), D.pys r = some ds → x.py = some d → (minL x r).py = some (minD d ds)
  | [], x, ds, d, h, e => by cases h; exact e
  | y :: r, x, _, d, h, e => by
    obtain ⟨q, rs, rfl, h1, h2⟩ := pys_cons h
    show (minL (if PySem.W.dataLt (pyOf y) (pyOf x) = true then y else x) r).py = some (minD (if PySem.W.dataLt q d = true then q else d) rs)
    have e1 : pyOf y = q := by unfold pyOf; rw [h1]; rfl
    have e2 : pyOf x = d := by unfold pyOf; rw [e]; rfl
    rw [e1, e2]
    refine minL_py r _ rs _ h2 ?_
    split
    · exact h1
    · exact e
section
variable {A : Ad} {W : WX} {X : Cx} {a b : Expr} {p pos : Pos} {fa fb : Env → Sto → R D} {fl : Env → Sto → R (List D)}
def rMinD (K : PySem.W.Frag) : List V → Hp → VK → Prop := fun xs H Q => ∃ x y p q, xs = [x, y] ∧ Dp K H x p ∧ Dp K H y q ∧ AlikeAll [p, q] ∧ PyData.depthAll [p, q] ≤ 16 ∧ Q (if dataLt q p = true then y else x) H
def rMaxD (K : PySem.W.Frag) : List V → Hp → VK → Prop := fun xs H Q => ∃ x y p q, xs = [x, y] ∧ Dp K H x p ∧ Dp K H y q ∧ AlikeAll [p, q] ∧ PyData.depthAll [p, q] ≤ 16 ∧ Q (if dataLt p q = true then y else x) H
theorem cr_minD (hc : X.calm = true) (hu : X.A.units + 65 < cLine) : CallR X (.builtin "min") (rMinD X.K) := by
  intro pins s σ H xs us Q I r h
  obtain ⟨x, y, p, q, rfl, h1, h2, ha, hd, k⟩ := h
  obtain ⟨u, w', rfl, r1, r2⟩ := vals2 r
  obtain ⟨as, e1⟩ := Dp.reads I p x u h1 r1
  obtain ⟨bs, e2⟩ := Dp.reads I q y w' h2 r2
  refine min_two_data (I.ok.hd hc) e1 e2 ha (by omega) fun h' tk kk => ⟨_, H, I.kept kk, ?_, k⟩
  split <;> assumption
theorem cr_maxD (hc : X.calm = true) (hu : X.A.units + 65 < cLine) : CallR X (.builtin "max") (rMaxD X.K) := by
  intro pins s σ H xs us Q I r h
  obtain ⟨x, y, p, q, rfl, h1, h2, ha, hd, k⟩ := h
  obtain ⟨u, w', rfl, r1, r2⟩ := vals2 r
  obtain ⟨as, e1⟩ := Dp.reads I p x u h1 r1
  obtain ⟨bs, e2⟩ := Dp.reads I q y w' h2 r2
  refine max_two_data (I.ok.hd hc) e1 e2 ha (by omega) fun h' tk kk => ⟨_, H, I.kept kk, ?_, k⟩
  split <;> assumption
theorem minPy2_ok (hK : A.K = X.K) {m : List Addr} {H : Hp} {x y z : D} {u v : V} (h : minPy2 x y = some z) (r1 : RV A m H x u) (r2 : RV A m H y v) : ∃ p q, Dp X.K H u p ∧ Dp X.K H v q ∧ AlikeAll [p, q] ∧ PyData.depthAll [p, q] ≤ 16 ∧ RV A m H z (if dataLt q p = true then v else u) := by
  unfold minPy2 at h
  split at h
  · rename_i ds e
    split at h
    · rename_i ok
      obtain ⟨k1, k2, k3⟩ := minOk_of ok
      obtain ⟨p, _, rfl, e1, e2⟩ := pys_cons e
      obtain ⟨q, _, rfl, e3, e4⟩ := pys_cons e2
      cases e4
      have o1 : pyOf x = p := by unfold pyOf; rw [e1]; rfl
      have o2 : pyOf y = q := by unfold pyOf; rw [e3]; rfl
      rw [o1, o2] at h
      cases h
      refine ⟨p, q, py_ok hK r1 e1, py_ok hK r2 e3, k1, k3, ?_⟩
      split <;> assumption
    · cases h
  · cases h
theorem maxPy2_ok (hK : A.K = X.K) {m : List Addr} {H : Hp} {x y z : D} {u v : V} (h : maxPy2 x y = some z) (r1 : RV A m H x u) (r2 : RV A m H y v) : ∃ p q, Dp X.K H u p ∧ Dp X.K H v q ∧ AlikeAll [p, q] ∧ PyData.depthAll [p, q] ≤ 16 ∧ RV A m H z (if dataLt p q = true then v else u) := by
  unfold maxPy2 at h
  split at h
  · rename_i ds e
    split at h
    · rename_i ok
      obtain ⟨k1, k2, k3⟩ := minOk_of ok
      obtain ⟨p, _, rfl, e1, e2⟩ := pys_cons e
      obtain ⟨q, _, rfl, e3, e4⟩ := pys_cons e2
      cases e4
      have o1 : pyOf x = p := by unfold pyOf; rw [e1]; rfl
      have o2 : pyOf y = q := by unfold pyOf; rw [e3]; rfl
      rw [o1, o2] at h
      cases h
      refine ⟨p, q, py_ok hK r1 e1, py_ok hK r2 e3, k1, k3, ?_⟩
      split <;> assumption
    · cases h
  · cases h
theorem min2_ok (hK : A.K = X.K) (hc : X.calm = true) (hu : X.A.units + 65 < cLine) : ∃ r, CallR X (.builtin "min") r ∧ CaS A r (biD .min2) := by
  refine ⟨_, (call_min2 hc).or (cr_minD hc hu), ?_⟩
  intro m S H ds xs z Q rs rv h k
  simp only [biD] at h
  unfold min2D at h
  split at h
  · cases h
    obtain ⟨v, u, rfl, h1, h2⟩ := rv.two
    exact .inl ⟨_, _, by rw [show v = V.int _ from h1, show u = V.int _ from h2], k m H _ rs.ext rs rfl⟩
  · obtain ⟨v, u, rfl, h1, h2⟩ := rv.two
    obtain ⟨p, q, k1, k2, k3, k4, k5⟩ := minPy2_ok hK h h1 h2
    exact .inr ⟨v, u, p, q, rfl, k1, k2, k3, k4, k m H _ rs.ext rs k5⟩
  · cases h
theorem max2_ok (hK : A.K = X.K) (hc : X.calm = true) (hu : X.A.units + 65 < cLine) : ∃ r, CallR X (.builtin "max") r ∧ CaS A r (biD .max2) := by
  refine ⟨_, (call_max2 hc).or (cr_maxD hc hu), ?_⟩
  intro m S H ds xs z Q rs rv h k
  simp only [biD] at h
  unfold max2D at h
  split at h
  · cases h
    obtain ⟨v, u, rfl, h1, h2⟩ := rv.two
    exact .inl ⟨_, _, by rw [show v = V.int _ from h1, show u = V.int _ from h2], k m H _ rs.ext rs rfl⟩
  · obtain ⟨v, u, rfl, h1, h2⟩ := rv.two
    obtain ⟨p, q, k1, k2, k3, k4, k5⟩ := maxPy2_ok hK h h1 h2
    exact .inr ⟨v, u, p, q, rfl, k1, k2, k3, k4, k m H _ rs.ext rs k5⟩
  · cases h
/-- the least of a list -/
def rMin1 (K : PySem.W.Frag) : List V → Hp → VK → Prop := fun xs H Q => ∃ a vs d ds, xs = [.ref a] ∧ SqL K H a vs ∧ DpAll K H vs (d :: ds) ∧ AlikeAll (d :: ds) ∧ (∀ e ∈ d :: ds, SeqAt.shaped e = true) ∧ PyData.depthAll (d :: ds) ≤ 16 ∧
  ∀ (i : Nat) (x : V), vs[i]? = some x → (d :: ds)[i]? = some (minD d ds) → Q x H
theorem DpAll.get {K : PySem.W.Frag} {H : Hp} : ∀ {vs : List V} {ds : List PyData}, DpAll K H vs ds → ∀ {i : Nat} {x : V}, vs[i]? = some x → ∃ d, ds[i]? = some d ∧ Dp K H x d
  | _, _, .nil, i, x, h => by simp at h
  | _, _, .cons h1 h2, i, x, h => by
    cases i with
    | zero => simp only [List.getElem?_cons_zero] at h ⊢; cases h; exact ⟨_, rfl, h1⟩
    | succ i => simp only [List.getElem?_cons_succ] at h ⊢; exact DpAll.get h2 h
theorem cr_min1 (hc : X.calm = true) (hu : X.A.units + 65 < cLine) : CallR X (.builtin "min") (rMin1 X.K) := by
  intro pins s σ H xs us Q I r h
  obtain ⟨a, vs, d, ds, rfl, hs, hd, ha, hsh, hdep, q⟩ := h
  obtain ⟨u, rfl, r1⟩ := vals1 r
  obtain rfl : u = Value.ref a := r1
  obtain ⟨its, rv, hl, hz⟩ := I.list hs
  obtain ⟨as, er⟩ := Dp.reads I (.list (d :: ds)) (.ref a) (.ref a) (.lst hs hd) rfl
  have er2 : ∃ as, ReadsAll s.heap its.toArray.toList (d :: ds) as := by
    cases er with
    | @list b o vs' n _ bs h1 h2 h3 h4 =>
      obtain ⟨o', n', g1, g2, g3, g4⟩ := hl
      rw [h1] at g1
      cases g1
      rw [h3] at g4
      injection g4 with g4
      exact ⟨_, by rw [← g4]; exact h4⟩
  obtain ⟨as2, er2⟩ := er2
  refine min_list_data (I.ok.hd hc) hl.isList er2 ha (by omega) fun i v h' tk bs hv hr kk => ?_
  have hv' : its[i]? = some v := by simpa using hv
  have hi : i < vs.length := by
    have h1 := (List.getElem?_eq_some_iff.mp hv').1
    have h2 := rv.length
    omega
  obtain ⟨x, hx⟩ : ∃ x, vs[i]? = some x := ⟨_, List.getElem?_eq_getElem hi⟩
  obtain ⟨v', e0, rx⟩ := rv.get hx
  rw [hv'] at e0
  cases e0
  obtain ⟨dx, e1, e2⟩ := DpAll.get hd hx
  obtain ⟨cs, r2⟩ := Dp.reads I dx x v e2 rx
  have hm : dx ∈ d :: ds := List.mem_of_getElem? e1
  have : dx = minD d ds := SeqAt.Reads.unique dx _ v _ _ (SeqAt.canLay_of_shaped (hsh dx hm)) (reads_keeps kk r2) hr
  rw [this] at e1
  exact ⟨x, H, I.kept kk, rx, q i x hx e1⟩
theorem min1_ok (hK : A.K = X.K) (hc : X.calm = true) (hu : X.A.units + 65 < cLine) : ∃ r, CallR X (.builtin "min") r ∧ CaS A r (biD .min1) := by
  refine ⟨_, cr_min1 hc hu, ?_⟩
  intro m S H ds xs z Q rs rv h k
  simp only [biD] at h
  unfold min1D at h
  split at h
  · rename_i i
    split at h
    · rename_i ys el
      obtain ⟨v, rfl, h1⟩ := rv.sole
      obtain ⟨a, hi, rfl⟩ := h1
      obtain ⟨vs, g1, g2⟩ := lstAt_ok rs hi el
      unfold minPy at h
      split at h
      · rename_i x r
        split at h
        · rename_i ps e
          split at h
          · rename_i ok
            cases h
            obtain ⟨k1, k2, k3⟩ := minOk_of ok
            have hd := pys_ok hK g2 e
            obtain ⟨d, ds, rfl, e1, e2⟩ := pys_cons e
            refine ⟨a, vs, d, ds, rfl, .of g1, hd, k1, k2, k3, fun j y hy hj => k m H y rs.ext rs ?_⟩
            obtain ⟨xx, hx, hp⟩ := pys_get e hj
            obtain ⟨v', q1, q2⟩ := g2.get hx
            rw [hy] at q1
            cases q1
            rw [py_inj (minL_py r x ds d e2 e1) hp]
            exact q2
          · cases h
        · cases h
      · cases h
    · cases h
  · cases h
end
end PL

set_option Elab.async false
set_option linter.all false
set_option maxRecDepth 100000
set_option maxHeartbeats 1000000
/-! PLx2: data sorted; a list repeated. -/
namespace PL
open PySem PySem.Spec PyProof.Rows L2 PySem.W
section
variable {A : Ad} {W : WX} {X : Cx} {a b : Expr} {p pos : Pos} {fa fb : Env → Sto → R D} {fl : Env → Sto → R (List D)}
theorem each_vals {β : Type} {f : β → V} {R : Value → β → Prop} : ∀ {bs : List β} {its : List Value}, Vals (bs.map f) its → (∀ b ∈ bs, ∀ v, RelV (f b) v → R v b) → EachIs R its bs
  | [], _, r, _ => by
    rw [List.map_nil] at r
    cases r
    exact .nil
  | b :: bs, _, r, h => by
    rw [List.map_cons] at r
    cases r with
    | cons r1 r2 => exact .cons (h b List.mem_cons_self _ r1) (each_vals r2 fun c hc => h c (List.mem_cons_of_mem _ hc))
theorem vals_each {β : Type} {f : β → V} : ∀ {bs : List β} {its : List Value}, EachIs (fun v b => RelV (f b) v) its bs → Vals (bs.map f) its
  | _, _, .nil => .nil
  | _, _, .cons h t => .cons h (vals_each t)
def rSortDat (K : PySem.W.Frag) : List V → Hp → VK → Prop := fun vs H Q => ∃ (a : Addr) (bs : List (PyData × V)), vs = [.ref a] ∧ SqL K H a (bs.map (·.2)) ∧ (∀ b ∈ bs, Dp K H b.2 b.1) ∧ AllAlike (bs.map (·.1)) ∧ PySem.W.Sortable (bs.map (·.1)) ∧ bs.length ≤ sizeLine ∧ (∀ b ∈ bs, b.1.depth ≤ 16) ∧
  ∀ l, H l = none → Q (.ref l) (upd H l (.lst ((bs.mergeSort (dataLe false (·.1))).map (·.2))))
theorem cr_sortDat (hu : X.A.units + 65 < cLine) : CallR X (.builtin "sorted") (rSortDat X.K) := by
  intro pins s σ H vs us Q I r h
  obtain ⟨a, bs, rfl, hs, hd, hal, hso, hl, hdep, q⟩ := h
  obtain ⟨its, rv, hp, hz⟩ := I.list hs
  rw [Vals.ref1 r]
  refine sorted_data (β := PyData × V) (enc := (·.1)) (R := fun v b => RelV b.2 v) hp.isList (each_vals rv fun b hb v e => e) (each_vals rv fun b hb v e => Dp.reads I b.1 b.2 v (hd b hb) e) hal hso hl (fun b hb => by have := hdep b hb; omega) fun out ho eo => ?_
  obtain ⟨ep, he'⟩ := PyProof.Rows.sortedAll_at s.heap its out.toArray
  have hlen : ((bs.mergeSort (dataLe false (·.1))).map (·.2)).length ≤ sizeLine := by
    rw [List.length_map, (List.mergeSort_perm bs _).length_eq]
    exact hl
  exact ⟨.ref _, upd H (s.heap.objs.size + 1) (.lst ((bs.mergeSort (dataLe false (·.1))).map (·.2))), I.laid (t' := s.toks) (fun _ _ => PyProof.Rows.sortedAll_old) (Nat.le_succ _) ⟨hlen, out, ep, vals_each eo, he'⟩, rfl, q _ (I.hok.fresh (Nat.le_succ _))⟩
theorem perm_short {α : Type} : ∀ {l m : List α}, l.Perm m → m.length < 2 → l = m
  | _, [], h, _ => List.perm_nil.mp h
  | _, [x], h, _ => List.perm_singleton.mp h
  | _, _ :: _ :: _, _, h => by simp at h; omega
theorem sort_short {l : List D} (h : l.length < 2) : l.mergeSort pyLe = l := perm_short (List.mergeSort_perm l _) h
/-- one item, or none -/
def rSortS (K : PySem.W.Frag) : List V → Hp → VK → Prop := fun vs H Q => ∃ (a : Addr) (xs : List V), vs = [.ref a] ∧ SqL K H a xs ∧ xs.length < 2 ∧ ∀ l, H l = none → Q (.ref l) (upd H l (.lst xs))
theorem cr_sortS : CallR X (.builtin "sorted") (rSortS X.K) := by
  intro pins s σ H vs us Q I r h
  obtain ⟨a, xs, rfl, hs, hl, q⟩ := h
  obtain ⟨its, rv, hp, hz⟩ := I.list hs
  rw [Vals.ref1 r]
  have hi : its.length < 2 := by have := rv.length; omega
  refine SrtO.sorted_ord SrtO.swo_int hp.isList (by rw [← rv.length]; exact hz) (fun h2 => by omega) fun out h1 h2 => ?_
  have eo : out = its := perm_short h2.perm hi
  subst eo
  obtain ⟨ep, he'⟩ := PyProof.Rows.sortedAll_at s.heap out out.toArray
  exact ⟨.ref _, upd H (s.heap.objs.size + 1) (.lst xs), I.laid (t' := s.toks) (fun _ _ => PyProof.Rows.sortedAll_old) (Nat.le_succ _) ⟨hz, out, ep, rv, he'⟩, rfl, q _ (I.hok.fresh (Nat.le_succ _))⟩
theorem rvs_pairs {m : List Addr} {H : Hp} : ∀ {l : List (D × V)}, (∀ z ∈ l, RV A m H z.1 z.2) → RVs A m H (l.map (·.1)) (l.map (·.2))
  | [], _ => rfl
  | z :: l, h => ⟨z.2, l.map (·.2), rfl, h z List.mem_cons_self, rvs_pairs fun y hy => h y (List.mem_cons_of_mem _ hy)⟩
theorem rvs_zip {m : List Addr} {H : Hp} : ∀ {xs : List D} {vs : List V}, RVs A m H xs vs → (∀ z ∈ xs.zip vs, RV A m H z.1 z.2) ∧ (xs.zip vs).map (·.1) = xs ∧ (xs.zip vs).map (·.2) = vs
  | [], _, h => by rw [show _ = [] from h]; exact ⟨fun z hz => (nomatch hz), rfl, rfl⟩
  | x :: xs, _, h => by
    obtain ⟨v, us, rfl, h1, h2⟩ := h
    obtain ⟨k1, k2, k3⟩ := rvs_zip h2
    refine ⟨fun z hz => ?_, by simp [k2], by simp [k3]⟩
    rcases List.mem_cons.mp hz with rfl | hz
    · exact h1
    · exact k1 z hz
theorem pys_depth : ∀ {ds : List PyData} {d : PyData}, d ∈ ds → d.depth ≤ PyData.depthAll ds
  | x :: xs, d, h => by
    rw [PyData.depthAll]
    rcases List.mem_cons.mp h with rfl | h
    · exact Nat.le_max_left _ _
    · exact Nat.le_trans (pys_depth h) (Nat.le_max_right _ _)
theorem sortable_of {ds : List PyData} (h : pySortable ds = true) : PySem.W.Sortable ds := by
  unfold pySortable at h
  rw [Bool.or_eq_true] at h
  rcases h with h | h
  · refine .inl fun d hd => ?_
    have := List.all_eq_true.mp h d hd
    unfold pyTup1 at this
    split at this
    · exact ⟨_, _, rfl⟩
    · cases this
  · refine .inr fun d hd => ?_
    have := List.all_eq_true.mp h d hd
    refine ⟨fun z => ?_, fun xs z => ?_⟩
    · rw [z] at this; cases this
    · rw [z] at this; cases this
/-- a sort's rule -/
def rSort (K : PySem.W.Frag) : List V → Hp → VK → Prop := fun vs H Q => (rSortedI K vs H Q ∨ rSortDat K vs H Q) ∨ rSortS K vs H Q
theorem cr_sort (hu : X.A.units + 65 < cLine) : CallR X (.builtin "sorted") (rSort X.K) := (cr_sortedI.or (cr_sortDat hu)).or cr_sortS
theorem sort_ok (hK : A.K = X.K) {m : List Addr} {S : Sto} {H : Hp} {c : Addr} {xs ys : List D} {vs : List V} {Q : VK} (rs : RS A m S H) (hs : SqL X.K H c vs) (rv : RVs A m H xs vs) (h : sortD xs = some ys)
    (k : ∀ (l : Addr) (us : List V), H l = none → Ext m H m (upd H l (.lst us)) → RS A m S (upd H l (.lst us)) → RVs A m (upd H l (.lst us)) ys us → Q (.ref l) (upd H l (.lst us))) : rSort X.K [.ref c] H Q := by
  unfold sortD at h
  split at h
  · rename_i ns q2
    cases h
    obtain rfl := allInt_ints q2
    obtain rfl := rv.of_ints
    refine .inl (.inl ⟨c, ns, rfl, hs, fun ns' l pm so hl => ?_⟩)
    obtain rfl := sorted_uniq (pm.trans (sortI_perm ns).symm) so (sortI_sorted ns)
    obtain ⟨x2, rs2⟩ := rs.lay (.lst ((sortI ns).map V.int)) hl
    exact k l _ hl x2 rs2 (RVs.ints _)
  · unfold sortPy at h
    split at h
    · rename_i ds e
      split at h
      · rename_i ok
        cases h
        simp only [Bool.and_eq_true, decide_eq_true_eq, Bool.or_eq_true] at ok
        obtain ⟨⟨⟨h1, h2⟩, h3⟩, h4⟩ := ok
        have hlen := pys_len e
        rcases h2 with h2 | h2
        · have hv : vs.length < 2 := by rw [rv.length]; omega
          refine .inr ⟨c, vs, rfl, hs, hv, fun l hl => ?_⟩
          obtain ⟨x2, rs2⟩ := rs.lay (.lst vs) hl
          have ey : xs.mergeSort pyLe = xs := sort_short (by omega)
          rw [ey] at k
          exact k l vs hl x2 rs2 (rv.mono rs x2)
        · obtain ⟨z1, z2, z3⟩ := rvs_zip rv
          have em := pys_map e
          have e1 : ((xs.zip vs).map fun z => (pyOf z.1, z.2)).map (·.2) = vs := by rw [List.map_map]; exact z3
          have e2 : ((xs.zip vs).map fun z => (pyOf z.1, z.2)).map (·.1) = ds := by
            rw [List.map_map, em]
            have := congrArg (List.map pyOf) z2
            rw [List.map_map] at this
            exact this
          have srt : (((xs.zip vs).map fun z => (pyOf z.1, z.2)).mergeSort (dataLe false (·.1))).map (·.2) = ((xs.zip vs).mergeSort fun z y => pyLe z.1 y.1).map (·.2) := by
            rw [← List.map_mergeSort (r := fun z y : D × V => pyLe z.1 y.1) (f := fun z : D × V => (pyOf z.1, z.2)) (fun a _ b _ => rfl), List.map_map]
            rfl
          have srt2 : ((xs.zip vs).mergeSort fun z y => pyLe z.1 y.1).map (·.1) = xs.mergeSort pyLe := by
            have := List.map_mergeSort (r := fun z y : D × V => pyLe z.1 y.1) (s := pyLe) (f := fun z : D × V => z.1) (l := xs.zip vs) (fun a _ b _ => rfl)
            rw [z2] at this
            exact this
          refine .inl (.inr ⟨c, (xs.zip vs).map fun z => (pyOf z.1, z.2), rfl, by rw [e1]; exact hs, fun b hb => ?_, by rw [e2]; exact alike_of h1, by rw [e2]; exact sortable_of h2, ?_, fun b hb => ?_, fun l hl => ?_⟩)
          · obtain ⟨z, hz, rfl⟩ := List.mem_map.mp hb
            have hx : z.1 ∈ xs := by rw [← z2]; exact List.mem_map.mpr ⟨z, hz, rfl⟩
            obtain ⟨i, hi⟩ := List.getElem?_of_mem hx
            have hpy : z.1.py = some (pyOf z.1) := by
              have hd : ds[i]? = some (pyOf z.1) := by rw [em, List.getElem?_map, hi]; rfl
              obtain ⟨x', g1, g2⟩ := pys_get e hd
              rw [hi] at g1
              cases g1
              exact g2
            exact py_ok hK (z1 z hz) hpy
          · have := rv.length
            have hzl := congrArg List.length e1
            rw [List.length_map] at hzl
            rw [hzl, this, sizeLine_eq]
            omega
          · obtain ⟨z, hz, rfl⟩ := List.mem_map.mp hb
            have : (pyOf z.1) ∈ ds := by rw [← e2]; exact List.mem_map.mpr ⟨_, hb, rfl⟩
            exact Nat.le_trans (pys_depth this) h3
          · rw [srt]
            obtain ⟨x2, rs2⟩ := rs.lay (.lst (((xs.zip vs).mergeSort fun z y => pyLe z.1 y.1).map (·.2))) hl
            refine k l _ hl x2 rs2 ?_
            rw [← srt2]
            exact (rvs_pairs fun z hz => z1 z ((List.mergeSort_perm _ _).mem_iff.mp hz)).mono rs x2
      · cases h
    · cases h
theorem sl_sortL (hK : A.K = X.K) (hu : X.A.units + 65 < cLine) (hg : Gl X "sorted") (hm : X.mg "sorted" = none) (ha : SL A W X a fl) (he : starEach [a] X.env = [(false, eval a X.env)]) : SL A W X (.Call (.Name "sorted" p) [a] [] pos) (fun ρ S => (fl ρ S).bind fun xs S1 => ofOpt (sortD xs) S1) :=
  (pe_callB (cr_sort hu) hg hm (by rfl) (pa_cons ha pa_nil he) (by decide) (by decide) he rfl).imp fun σ H Q ⟨m, ρ, S, rs, re, p⟩ => by
  refine ⟨m, ρ, S, rs, re, p.bind0 fun xs S1 m1 H1 v x1 rs1 rv1 p1 => ?_⟩
  obtain ⟨a, vs, rfl, h1, h3, h4, h2⟩ := rv1
  cases q2 : sortD xs with
  | none => rw [q2] at p1; exact p1.elim
  | some ys =>
    rw [q2] at p1
    exact sort_ok hK rs1 (.of h1) h2 q2 fun l us hl x2 rs2 r2 => p1 m1 _ (.ref l) (x1.trans x2) rs2 ⟨l, us, rfl, upd_same, x1.none hl, fun z => rs1.there l z hl, r2⟩
/-- [..] * n -/
theorem rvs_rep {m : List Addr} {H : Hp} {xs : List D} {vs : List V} (r : RVs A m H xs vs) : ∀ n : Nat, RVs A m H (List.replicate n xs).flatten (List.replicate n vs).flatten
  | 0 => rfl
  | n + 1 => by
    rw [List.replicate_succ, List.replicate_succ, List.flatten_cons, List.flatten_cons]
    exact r.append (rvs_rep r n)
theorem sl_rep (ha : SL A W X a fl) (hb : SE A W X b fb) : SL A W X (.BinOp a .Mult b pos) (fun ρ S => (fl ρ S).bind fun xs S1 => (fb ρ S1).bind fun y S2 => match y with
    | .int k => if small k ∧ xs.length * k.toNat ≤ 10000000 then .ok (List.replicate k.toNat xs).flatten S2 else .stuck
    | _ => .stuck) := (pe_op op_rep ha hb).imp fun σ H Q ⟨m, ρ, S, rs, re, p⟩ => by
  refine ⟨m, ρ, S, rs, re, p.bind0 fun xs S1 m1 H1 v x1 rs1 rv1 p1 => ?_⟩
  obtain ⟨l, vs, rfl, h1, h2, h3, h4⟩ := rv1
  have p1' := Post.shift anL p1 x1
  refine ⟨m1, ρ, S1, rs1, re.mono rs x1, ?_⟩
  refine Post.bind0 p1' fun y S2 m2 H2 w x2 rs2 rv2 p2 => ?_
  cases y with
  | int k =>
    dsimp only at p2
    split at p2
    · rename_i hk
      obtain ⟨k1, k2⟩ := small_ok hk.1
      have k3 := x2.keep _ _ h1 h3
      have rv := (RVs.mono rs1 x2 h4)
      refine ⟨l, k, vs, rfl, rv2, k3, ?_, ?_, ?_, fun q hq => ?_⟩
      · exact Int.le_trans (by decide) k1
      · exact Int.lt_trans k2 (by decide)
      · rw [h4.length, sizeLine_eq]; omega
      · obtain ⟨x3, rs3⟩ := rs2.lay (.lst (List.replicate k.toNat vs).flatten) hq
        exact p2 m2 _ (.ref q) (x2.trans x3) rs3 ⟨q, _, rfl, upd_same, x2.none hq, fun z => rs2.there q z hq, (rvs_rep rv _).mono rs2 x3⟩
    · exact p2.elim
  | _ => exact p2.elim
end
end PL

set_option Elab.async false
set_option linter.all false
set_option maxRecDepth 100000
set_option maxHeartbeats 1000000
/-! PLy: a tuple of ints sorted; two lists put together. -/
namespace PL
open PySem PySem.Spec PyProof.Rows L2 PySem.W
section
variable {prog : Program} {w : World} {A : Around} {E : Value → Shared → Prop} {s : Shared}
theorem collect_tup {l : Addr} {vs : List Value} {Q : List Value → Shared → Prop} (hl : s.heap.IsTuple l vs.toArray)
    (h : Q vs { s with heap := (s.heap.push (seqObj "list" #[] 0)).update s.heap.objs.size (Obj.mapSeq (· ++ vs.toArray)) }) (hsz : vs.length ≤ sizeLine) :
    wpAny (model prog w) A (collect (.ref l)) Q E s := by
  obtain ⟨o, ho, hc, n, hd⟩ := id hl
  unfold collect
  refine wpAny_bind (wpAny_runValue (codeAny_builtin entry_proto_collect' ?_))
  show wpAny _ _ (do again (.builtin "list.__iadd__" ⟨[← newList [], .ref l], []⟩)) _ _ s
  refine wpAny_bind (wpAny_newList (wpAny_pure ⟨Code.quiet_builtin _ (by decide +kernel), codeAny_builtin entry_list_iadd' ?_⟩))
  show wpAny _ _ (Builtin.List.listExtendWith (.ref s.heap.objs.size) (.ref l) (.ref s.heap.objs.size)) _ _ { s with heap := s.heap.push (seqObj "list" #[] 0) }
  unfold Builtin.List.listExtendWith
  have ho' : (s.heap.push (seqObj "list" #[] 0)).get? l = some o := Heap.get?_push_of_some _ ho
  refine wpAny_bind (wpAny_typeOf (T := "tuple") ⟨o, ho', hc⟩ ?_)
  have ht : (Value.type "tuple" == Value.type "tuple") = true := by rfl
  rw [if_pos (by rw [ht]; simp)]
  refine wpAny_bind (listItems_at ho' hd ?_)
  refine wpAny_bind (listItems_at (xs := #[]) (n := 0) (Heap.get?_push_size _ rfl) rfl ?_)
  rw [if_neg (by simp)]
  refine wpAny_bind (listUpdate_at (xs := #[]) (n := 0) (Heap.get?_push_size _ rfl) rfl ?_ (Nat.zero_le _) (by show (#[] ++ vs.toArray).size ≤ sizeLine + 1; simp only [Array.size_append, List.size_toArray, List.length_nil]; omega))
  refine wpAny_pure ?_
  show wpAny (model prog w) A (do
      let o ← load s.heap.objs.size
      match o.data with
      | .seq xs _ => pure xs.toList
      | _ => unsupported "internal:collect") Q E { s with heap := (s.heap.push (seqObj "list" #[] 0)).update s.heap.objs.size (Obj.mapSeq (· ++ vs.toArray)) }
  refine wpAny_bind (wpAny_load (get?_update_seq (Heap.get?_push_size _ rfl) _) ?_)
  show wpAny _ _ (pure ((#[] : Array Value) ++ vs.toArray).toList) Q E _
  rw [show ((#[] : Array Value) ++ vs.toArray).toList = vs by simp]
  exact wpAny_pure h
theorem sorted_tup {l : Addr} {vs : List Value} {Q : Value → Shared → Prop} (hl : s.heap.IsTuple l vs.toArray) (hL : vs.length ≤ sizeLine)
    (body : ∀ E' : Value → Shared → Prop, wpAny (model prog w) A.in1.in1 (Builtin.«list.sort» ⟨[.ref (s.heap.objs.size + 1)], []⟩) (fun f s' => f = .done (.ret .none) ∧ Q (.ref (s.heap.objs.size + 1)) s') E' { s with heap := copyHeap s.heap vs }) :
    wpAny (model prog w) A (call (.builtin "sorted") [.ref l]) Q E s := by
  refine Calls.call_function_entry kind_sorted plain_sorted entry_sorted (args_sorted1 _) ?_
  unfold Builtin.«sorted»
  refine wpAny_bind (m := checkCount "sorted" 1 1 _) (wpAny_pure ?_)
  refine wpAny_bind (collect_tup hl ?_ hL)
  refine wpAny_bind (wpAny_newList ?_ hL)
  have hsz : ((s.heap.push (seqObj "list" #[] 0)).update s.heap.objs.size (Obj.mapSeq (· ++ vs.toArray))).objs.size = s.heap.objs.size + 1 := by
    rw [Heap.size_update, size_push']
  show wpAny _ _ _ _ _ { s with heap := copyHeap s.heap vs }
  rw [hsz]
  refine wpAny_bind (wpAny_holding (wpAny_call_entry_kw slot_list_sort ⟨_, copyHeap_at s.heap vs, rfl⟩ entry_list_sort ?body (args_list_sort _)))
  case body =>
    show wpAny (model prog w) A.in1.in1 (Builtin.«list.sort» ⟨[.ref (s.heap.objs.size + 1)], []⟩) _ _ _
    refine wpAny_mono (body _) (fun f s' hf => ?_) fun _ _ e => e
    obtain ⟨rfl, hq⟩ := hf
    exact ⟨_, rfl, wpAny_pure ⟨_, rfl, hq⟩⟩
end
section
variable {A : Ad} {W : WX} {X : Cx} {a b : Expr} {p pos : Pos} {fa fb : Env → Sto → R D} {fl : Env → Sto → R (List D)}
def rSortTI (K : PySem.W.Frag) : List V → Hp → VK → Prop := fun vs H Q => ∃ (a : Addr) (ns : List Int), vs = [.ref a] ∧ SqT K H a (ns.map V.int) ∧ ∀ (ns' : List Int) (l : Addr), ns'.Perm ns → ns'.Pairwise (· ≤ ·) → H l = none → Q (.ref l) (upd H l (.lst (ns'.map V.int)))
theorem cr_sortTI : CallR X (.builtin "sorted") (rSortTI X.K) := by
  intro pins s σ H vs us Q I r h
  obtain ⟨a, ns, rfl, hs, q⟩ := h
  obtain ⟨its, rv, hl, hz⟩ := I.tuple hs
  rw [Vals.ref1 r]
  have hi := rv.ints
  refine sorted_tup hl (by rw [← rv.length]; exact hz) fun E' => SrtO.list_sort_ord (s := { s with heap := copyHeap s.heap its }) SrtO.swo_int (copyHeap_at s.heap its) (by rw [← rv.length]; exact hz) (fun h2 => SrtO.ints_sortable hi h2) fun out h1 h2 => ⟨rfl, ?_⟩
  obtain ⟨k1, k2, k3⟩ := SrtO.ints_out hi h1 h2
  obtain ⟨ep, he'⟩ := PyProof.Rows.sortedAll_at s.heap its out.toArray
  have hlen : ((out.map SrtO.iv).map V.int).length ≤ sizeLine := by
    rw [List.length_map, k2.length_eq]
    rw [List.length_map] at hz
    exact hz
  exact ⟨.ref _, upd H (s.heap.objs.size + 1) (.lst ((out.map SrtO.iv).map V.int)), I.laid (t' := s.toks) (fun _ _ => PyProof.Rows.sortedAll_old) (Nat.le_succ _) ⟨hlen, out, ep, vals_of_ints k1, he'⟩, rfl, q _ _ k2 k3 (I.hok.fresh (Nat.le_succ _))⟩
theorem sl_sortE (hK : A.K = X.K) (hu : X.A.units + 65 < cLine) (hg : Gl X "sorted") (hm : X.mg "sorted" = none) (ha : SE A W X a fa) (he : starEach [a] X.env = [(false, eval a X.env)]) : SL A W X (.Call (.Name "sorted" p) [a] [] pos) (fun ρ S => (fa ρ S).bind fun x S1 => ofOpt (sortOf S1 x) S1) :=
  (pe_callB ((cr_sort hu).or cr_sortTI) hg hm (by rfl) (pa_cons ha pa_nil he) (by decide) (by decide) he rfl).imp fun σ H Q ⟨m, ρ, S, rs, re, p⟩ => by
  refine ⟨m, ρ, S, rs, re, p.bind0 fun d S1 m1 H1 v x1 rs1 rv1 p1 => ?_⟩
  cases d with
  | ob i =>
    obtain ⟨a, hi, rfl⟩ := rv1
    simp only [sortOf] at p1
    cases q : lstAt S1 i with
    | none => rw [q] at p1; exact p1.elim
    | some xs =>
      rw [q] at p1
      obtain ⟨vs, h1, h2⟩ := lstAt_ok rs1 hi q
      simp only [Option.bind_some] at p1
      cases q2 : sortD xs with
      | none => rw [q2] at p1; exact p1.elim
      | some ys =>
        rw [q2] at p1
        exact .inl (sort_ok hK rs1 (.of h1) h2 q2 fun l us hl x2 rs2 r2 => p1 m1 _ (.ref l) (x1.trans x2) rs2 ⟨l, us, rfl, upd_same, x1.none hl, fun z => rs1.there l z hl, r2⟩)
  | tup xs =>
    obtain ⟨a, vs, rfl, t, r⟩ := rv1
    simp only [sortOf] at p1
    cases q2 : allInt xs with
    | none => rw [q2] at p1; exact p1.elim
    | some ns =>
      rw [q2] at p1
      obtain rfl := allInt_ints q2
      obtain rfl := r.of_ints
      refine .inr ⟨a, ns, rfl, hK ▸ t.sqt, fun ns' l pm so hl => ?_⟩
      obtain rfl := sorted_uniq (pm.trans (sortI_perm ns).symm) so (sortI_sorted ns)
      obtain ⟨x2, rs2⟩ := rs1.lay (.lst ((sortI ns).map V.int)) hl
      exact p1 m1 _ (.ref l) (x1.trans x2) rs2 ⟨l, _, rfl, upd_same, x1.none hl, fun z => rs1.there l z hl, RVs.ints _⟩
  | _ => exact p1.elim
theorem sl_catEE (ha : SE A W X a fa) (hb : SE A W X b fb) : SL A W X (.BinOp a .Add b pos) (fun ρ S => (fa ρ S).bind fun x S1 => (fb ρ S1).bind fun y S2 => match x, y with
    | .ob i, .ob j => match lstAt S2 i, lstAt S2 j with
      | some xs, some ys => if xs.length + ys.length ≤ 10000000 then .ok (xs ++ ys) S2 else .stuck
      | _, _ => .stuck
    | _, _ => .stuck) := (pe_op op_cat ha hb).imp fun σ H Q ⟨m, ρ, S, rs, re, p⟩ => by
  refine ⟨m, ρ, S, rs, re, p.bind0 fun x S1 m1 H1 v x1 rs1 rv1 p1 => ?_⟩
  refine ⟨m1, ρ, S1, rs1, re.mono rs x1, ?_⟩
  refine Post.bind0 (Post.shift anL p1 x1) fun y S2 m2 H2 w x2 rs2 rv2 p2 => ?_
  cases x with
  | ob i =>
    cases y with
    | ob j =>
      obtain ⟨l, hi, rfl⟩ := rv1
      obtain ⟨l2, hj, rfl⟩ := rv2
      dsimp only at p2
      split at p2
      · rename_i xs ys e1 e2
        split at p2
        · rename_i hl
          obtain ⟨vs, g1, g2⟩ := lstAt_ok rs2 (x2.get hi) e1
          obtain ⟨us, k1, k2⟩ := lstAt_ok rs2 hj e2
          refine ⟨l, l2, vs, us, rfl, rfl, g1, k1, by rw [g2.length, k2.length]; exact Nat.le_trans hl (Nat.le_of_lt line10), fun q hq => ?_⟩
          obtain ⟨x3, rs3⟩ := rs2.lay (.lst (vs ++ us)) hq
          exact p2 m2 _ (.ref q) (x2.trans x3) rs3 ⟨q, _, rfl, upd_same, x2.none hq, fun z => rs2.there q z hq, (g2.append k2).mono rs2 x3⟩
        · exact p2.elim
      · exact p2.elim
    | _ => exact p2.elim
  | _ => exact p2.elim
end
end PL

set_option Elab.async false
set_option linter.all false
set_option maxRecDepth 100000
set_option maxHeartbeats 1000000
/-! PLz: a lambda with one parameter: its frame. -/
namespace PL
open PySem PySem.Spec PyProof.Rows L2 LamX
/-- one parameter x, no other name of its own: captured ones and globals -/
structure LamP (sc scope : Scope) (x : Str) : Prop where
  kind : scope.kind = .function
  co : scope.isCoroutine = false
  gen : scope.isGenerator = false
  par : scope.names.lookup x = some .local
  own : ∀ y ∈ scope.names, y.2 = .local → y.1 = x
  noc : ∀ y ∈ scope.names, y.2 ≠ .cell
  free : ∀ y ∈ scope.names, y.2 = .free → sc.names.lookup y.1 = some .cell ∨ sc.names.lookup y.1 = some .free
def lamPB (sc scope : Scope) (x : Str) : Bool :=
  decide (scope.kind = .function) && !scope.isCoroutine && !scope.isGenerator && decide (scope.names.lookup x = some .local) && scope.names.all fun y => (!decide (y.2 = .local) || decide (y.1 = x)) && !decide (y.2 = .cell) && (!decide (y.2 = .free) || decide (sc.names.lookup y.1 = some .cell) || decide (sc.names.lookup y.1 = some .free))
theorem lamP_by {sc scope : Scope} {x : Str} (h : lamPB sc scope x = true) : LamP sc scope x := by
  unfold lamPB at h
  simp only [Bool.and_eq_true, Bool.or_eq_true, Bool.not_eq_true', decide_eq_true_eq, decide_eq_false_iff_not, List.all_eq_true] at h
  obtain ⟨⟨⟨⟨h1, h2⟩, h3⟩, h4⟩, h5⟩ := h
  refine ⟨h1, h2, h3, h4, fun y hy e => ?_, fun y hy => (h5 y hy).1.2, fun y hy e => ?_⟩
  · rcases (h5 y hy).1.1 with z | z
    · exact absurd e z
    · exact z
  · rcases (h5 y hy).2 with (z | z) | z
    · exact absurd e z
    · exact .inl z
    · exact .inr z
theorem LamP.has {X : Cx} {scope : Scope} {x : Str} (L : LamP X.env.scope scope x) (ok : X.Ok) : ∀ y ∈ scope.names, y.2 = .free → ∃ c, X.env.cells.lookup y.1 = some c := fun y hy e => by
  rcases L.free y hy e with k | k
  · exact ok.has _ (.inl k)
  · exact ok.has _ (.inr k)
section
variable {X : Cx} {pins : List (Addr × Obj)} {σ : L2.St} {H : Hp} {s : Shared}
theorem lam_start1 {A : Around} {outer : List PySem.Env} {E : XK} {scope : Scope} {f c' : Addr} {h₁ : Heap} {tk i : Nat} {x : Str} {v : Value} {xv : V} (I : Inv X pins σ H s) (L : LamP X.env.scope scope x) (hN : X.N.Nodup) (hi : X.N[i]? = some x) (rv : RelV xv v)
    (e0 : Env0 X.prog X.w X.K X.mg X.base A outer s H) (hd : A.handled = none) (hns : h₁.Ns s.heap.objs.size fun y => ([(x, v)] : List (Str × Value)).reverse.lookup y) (kp : ∀ b o, s.heap.get? b = some o → h₁.get? b = some o) :
    Inv (lamCx X A outer s H E scope f c') [] (σ.set i (some xv)) H { s with heap := h₁, toks := tk } := by
  have hfree := L.has I.ok
  have cm : ∀ {y c}, (cloFrom X.env.cells scope.names []).lookup y = some c → X.env.cells.lookup y = some c := fun {y c} e => by
    rcases cloFrom_mem (PySem.mem_of_lookup e) with hm | ⟨h1, h2⟩
    · cases hm
    · obtain ⟨c1, hc⟩ := hfree _ h1 rfl
      have hc : X.env.cells.lookup y = some c1 := hc
      have e2 : c = c1 := by
        rw [h2, hc] <;> rfl
      rw [e2]
      exact hc
  have look : ∀ {y}, scope.names.lookup y = some .free → ∃ c, (cloFrom X.env.cells scope.names []).lookup y = some c := fun {y} hl => by
    have hy : (y, NameKind.free) ∈ scope.names := PySem.mem_of_lookup hl
    exact mem_lookup (cloFrom_has (cells := X.env.cells) (acc := []) hy)
  have cellK : ∀ {c : Addr} {v : Option Value}, s.heap.IsCell c v → h₁.IsCell c v := fun {c v} ⟨o, ho, hd⟩ => ⟨o, kp _ _ ho, hd⟩
  have noA : ∀ b : Addr, b ∉ (lamCx X A outer s H E scope f c').ex := fun b z => absurd (show b ∈ ([] : List Addr) from z) (by simp)
  refine ⟨⟨e0.mod, L.kind, rfl, rfl, Nat.le_refl _, fun y z c e1 e2 => I.ok.inj y z c (cm e1) (cm e2), fun y hy => ?_, fun y c z _ => ?_, fun _ => hd, Around.frames_deeper e0.frames, .inr ⟨rfl, rfl⟩, fun b z => absurd z (noA b), e0.bs, e0.bsz, fun b _ _ => noA b,
      fun b z => absurd z (noA b), e0.funs, e0.frf⟩,
    rfl, e0.bare, Un.kept kp, ⟨_, hns, fun j y u e1 e2 e3 => ?_⟩, fun y c e => ?_, e0.hok.fresh (Nat.le_refl _), fun y c e => ?_, fun q hq => absurd (show q ∈ ([] : List (Addr × Obj)) ++ [] from hq) (by simp), e0.hok.kept kp, by rw [List.length_set]; exact I.len⟩
  · have hy : scope.names.lookup y = some .cell ∨ scope.names.lookup y = some .free := hy
    rcases hy with hy | hy
    · exact absurd rfl (L.noc _ (PySem.mem_of_lookup hy))
    · exact look hy
  · have z : false = true := z
    cases z
  · have e3 : Vis scope y := e3
    have e1 : X.N[j]? = some y := e1
    rcases e3 with k | k | k
    · have ey : y = x := L.own _ (PySem.mem_of_lookup k) rfl
      subst ey
      have ej : i = j := (List.getElem?_inj (List.getElem?_eq_some_iff.mp hi).1 hN).mp (by rw [hi, e1])
      subst ej
      have hl : i < σ.length := by rw [I.len]; exact (List.getElem?_eq_some_iff.mp hi).1
      rw [List.getElem?_set_self hl] at e2
      cases e2
      refine ⟨v, rv, .inl ⟨k, ?_⟩⟩
      simp [List.lookup]
    · exact absurd rfl (L.noc _ (PySem.mem_of_lookup k))
    · have nj : i ≠ j := fun z => by
        subst z
        rw [hi] at e1
        cases e1
        rw [L.par] at k
        cases k
      rw [List.getElem?_set_ne nj] at e2
      obtain ⟨m, hn, hl⟩ := I.loc
      have hvis : Vis X.env.scope y := (L.free _ (PySem.mem_of_lookup k) rfl).elim (fun k => .inr (.inl k)) (fun k => .inr (.inr k))
      obtain ⟨w', r, q⟩ := hl j y u e1 e2 hvis
      obtain ⟨c2, h2⟩ := look k
      refine ⟨w', r, .inr ⟨.inr k, c2, h2, ?_⟩⟩
      have c1 := cm h2
      rcases q with ⟨k', _⟩ | ⟨_, c3, e', z⟩
      · have k' : X.env.scope.names.lookup y = some .local := k'
        rcases L.free _ (PySem.mem_of_lookup k) rfl with k2 | k2 <;> rw [show X.env.scope.names.lookup y = _ from k2] at k' <;> cases k'
      · rw [c1] at e'
        cases e'
        exact cellK z
  · obtain ⟨w', z⟩ := I.cell y c (cm e)
    exact ⟨w', cellK z⟩
  · exact I.freeC y c (cm e)
/-- the lambda called upon a value, at any point around -/
theorem lam_call1 {A : Around} {scope : Scope} {f c' : Addr} {k i : Nat} {x : Str} {v : Value} {xv : V} {params : Arguments} {body : Expr} {pm ctv : Value} {tb : TE} {Q : VK} (I : Inv X pins σ H s) (L : LamP X.env.scope scope x) (hN : X.N.Nodup) (hi : X.N[i]? = some x) (rv : RelV xv v)
    (e0 : Env0 X.prog X.w X.K X.mg X.base A X.stack s H) (hr : Room (k + 1) A)
    (hf : s.heap.get? f = some (PySem.W.kla_obj "<lambda>" (X.env.qual ++ "<lambda>") params body scope (cloFrom X.env.cells scope.names []) pm c' ctv)) (hc : H c' = some (CodeO c' (X.env.qual ++ "<lambda>")))
    (hbind : bindArgs (PySem.W.kla_fn "<lambda>" (X.env.qual ++ "<lambda>") params body scope (cloFrom X.env.cells scope.names []) pm (.ref c') ctv) ⟨[v], []⟩ = pure [(x, v)])
    (hbody : PE (lamCx X A X.stack s H (fun _ _ _ => False) scope f c') body tb) (ht : tb (σ.set i (some xv)) H Q) :
    wpAny (model X.prog X.w) A (call (.ref f) [v]) (fun u s' => ∃ y H', Inv X pins σ H' s' ∧ RelV y u ∧ Q y H' ∧ Un (frs X.stack) [] H H' s.heap s'.heap) (fun _ _ => False) s := by
  obtain ⟨⟨oc, vs, t, hoc, hdc, hvc⟩, _, _⟩ := I.hok c' _ hc
  have rc : codeAny (model X.prog X.w) A (.call (.ref f) ⟨[v], []⟩) (CR (L2.CX X.prog X.w) X.stack X.prog X.w H s Q (fun _ _ _ => False)) s := by
    refine PySem.W.kla_callFunE hr.depth hf rfl L.co L.gen rfl ⟨c', oc, vs, t, rfl, hoc, hdc, hvc⟩ ?_
    rw [hbind]
    refine wpAny_pure (wpAny_newFunctionEnv (fun y hy => L.noc y hy) (fun y hy => ?_) (fun h₁ hns hsb => ⟨I.nolimit.fresh _ hsb, ?_⟩) L.kind)
    · rw [show y = (x, v) by simpa using hy]
      exact L.par
    · show codeAny _ _ (.expr body (lamEnv X scope s.heap.objs.size f c')) _ _
      have kp : ∀ b o, s.heap.get? b = some o → h₁.get? b = some o := fun b o e => hsb.extBut b o (Nat.ne_of_lt (Heap.lt_size e)) (Heap.get?_push_of_some _ e)
      have J := lam_start1 (A := A) (outer := X.stack) (E := fun _ _ _ => False) (f := f) (c' := c') (tk := s.toks + ([(x, v)] : List (Str × Value)).length) I L hN hi rv e0 hr.hd hns kp
      refine PySem.W.kla_codeExpr (wpAny_mono (hbody.run [] _ _ H Q J ht) (fun v s' hq => ?_) fun e s' hq => hq)
      obtain ⟨w', H', J', rv, q⟩ := hq
      exact ⟨w', H', J'.os, J'.bare, J'.base, J'.hok, rv, q⟩
  refine wpAny_call (codeAny_mono rc fun r s' hq => ?_)
  cases r with
  | error e =>
    obtain ⟨_, _, _, _, _, _, _, _, _, _, _, _, z⟩ := (show L2.CX X.prog X.w X.stack H s (fun _ _ _ => False) e s' from hq)
    exact z
  | ok fl =>
    cases fl with
    | ret u =>
      have hq : CE X.stack X.prog X.w H s Q u s' := hq
      obtain ⟨y', H'', b1, b2, b3, b4, b5, b6⟩ := hq
      obtain ⟨y, H', J, ry, q, un⟩ := I.after (Q := fun y H2 => Q y H2 ∧ Un (frs X.stack) [] H H2 s.heap s'.heap) ⟨y', H'', b1, b2, b3, b4, b5, b6, b3⟩
      exact ⟨y, H', J, ry, q, un⟩
    | next => exact False.elim hq
    | brk => exact False.elim hq
    | cont => exact False.elim hq
end
end PL

set_option Elab.async false
set_option linter.all false
set_option maxRecDepth 100000
set_option maxHeartbeats 1000000
/-! PLt: a list sorted by keys; what the key does is told by an invariant. -/
namespace PL
open PySem PySem.Spec PyProof.Rows L2 PySem.W PySem.Calls
theorem freed_none {h : Heap} {a : Addr} : (h.update a fun o => { o with data := .freed }).get? a = none := by
  obtain ⟨objs, l⟩ := h
  simp only [Heap.update, Heap.get?]
  rw [Array.getElem?_modify, if_pos rfl]
  cases objs[a]? <;> rfl
theorem dps_reads {X : Cx} {pins : List (Addr × Obj)} {σ : L2.St} {H : Hp} {s : Shared} (I : Inv X pins σ H s) : ∀ {vs : List V} {ds : List PyData} {us : List Value}, DpAll X.K H vs ds → Vals vs us → EachIs (fun v d => ∃ as, Reads s.heap v d as) us ds
  | _, _, _, .nil, r => by cases r; exact .nil
  | _, _, _, .cons h t, r => by
    cases r with
    | cons r1 r2 =>
      obtain ⟨as, e⟩ := Dp.reads I _ _ _ h r1
      exact .cons ⟨as, e⟩ (dps_reads I t r2)
section
variable {X : Cx} {pins : List (Addr × Obj)} {σ : L2.St} {A : Around} {E : Value → Shared → Prop} {s : Shared} {a kS : Addr} {e1 : Nat} {f : Value} {vs : List Value} {kz : List PyData} {P : PySem.Fin → Shared → Prop} {J : Nat → List V → Hp → Shared → Prop} {H : Hp}
theorem key_rest (hJ : ∀ j kvs H s, J j kvs H s → Inv X pins σ H s ∧ H kS = none ∧ H a = none) (na : a ∉ frs X.stack) (nk : kS ∉ frs X.stack)
    (stay : ∀ j kvs H s h' tk, J j kvs H s → (∀ b o, b ≠ a → b ≠ kS → s.heap.get? b = some o → h'.get? b = some o) → J j kvs H { s with heap := h', toks := tk })
    (turn : ∀ j v kvs H s, vs[j]? = some v → J j kvs H s → (∃ o, s.heap.get? kS = some o) → (∃ o, s.heap.get? a = some o) → wpAny (model X.prog X.w) A (call f [v]) (fun u s' => ∃ H' y, J (j + 1) (kvs ++ [y]) H' s' ∧ RelV y u ∧ Un (frs X.stack) [] H H' s.heap s'.heap) (fun _ _ => False) s)
    (hD : ∀ kvs H s, J vs.length kvs H s → DpAll X.K H kvs kz)
    (h0 : J 0 [] H s) (hk0 : s.heap.get? kS = some (seqObj "list" #[] 0)) (ha0 : s.heap.get? a = some (seqObj "list" #[] e1)) (hka : kS ≠ a) (hlen : kz.length = vs.length) (hZ : vs.length ≤ sizeLine) (hal : AllAlike kz) (hso : PySem.W.Sortable kz) (hu : ∀ d, d ∈ kz → A.units + d.depth < cLine)
    (done : ∀ kvs H s' h' tk out c, J vs.length kvs H s' → (∀ b o, b ≠ a → b ≠ kS → s'.heap.get? b = some o → h'.get? b = some o) → h'.get? a = some (seqObj "list" (List.toArray out) c) → KeyedOut false kz vs out → P (.done (.ret .none)) { s' with heap := h', toks := tk }) :
    wpAny (model X.prog X.w) A (ksk_rest a f false vs.toArray e1 (.ref kS)) P E s := by
  unfold ksk_rest
  refine wpAny_bind (wpAny_rule ?_)
  first
    | rw [List.forIn_toArray]
    | (rw [← Array.forIn_toList]; simp only [List.toList_toArray])
    | rw [← Array.forIn_toList]
  refine wpAny_bind (ksk_fold (fun i s' => ∃ kvs H kA e, J i kvs H s' ∧ s'.heap.get? kS = some (seqObj "list" kA e) ∧ s'.heap.get? a = some (seqObj "list" #[] e1) ∧ Vals kvs kA.toList ∧ kA.size = i) vs 0 s ⟨[], H, #[], 0, h0, hk0, ha0, .nil, rfl⟩ ?step ?done)
  case step =>
    rintro j x s' hx ⟨kvs, H', kA, e, hj, nk', na', rv, hsz⟩
    simp only [Nat.zero_add] at hj hsz ⊢
    have hlt : j < vs.length := (List.getElem?_eq_some_iff.mp hx).1
    obtain ⟨I, n1, n2⟩ := hJ _ _ _ _ hj
    refine wpAny_bind (wpAny_attempt (wpAny_mono (turn j x kvs H' s' hx hj ⟨_, nk'⟩ ⟨_, na'⟩) (fun v s'' he => ?_) fun _ _ hF => hF.elim))
    obtain ⟨H'', y, hj', ry, un⟩ := he
    try dsimp only
    have nk2 : s''.heap.get? kS = some (seqObj "list" kA e) := un.keep _ _ nk' n1 nk (by simp)
    have na2 : s''.heap.get? a = some (seqObj "list" #[] e1) := un.keep _ _ na' n2 na (by simp)
    have s1 := Heap.SameBut.update s''.heap kS (Obj.mapSeq (·.push v))
    obtain ⟨c2, hc2⟩ : ∃ c2, (s''.heap.update kS (Obj.mapSeq (·.push v))).get? kS = some (seqObj "list" (kA.push v) c2) := ⟨_, get?_update_seq nk2 (·.push v)⟩
    have hz : kA.size ≤ vs.length := by omega
    refine wpAny_bind (listUpdate_at nk2 rfl ?_ (Nat.le_trans hz hZ) (Nat.le_trans (Nat.le_of_eq (Array.size_push ..)) (Nat.succ_le_succ (Nat.le_trans hz hZ))))
    refine wpAny_pure ⟨rfl, kvs ++ [y], H'', kA.push v, c2, stay _ _ _ _ _ _ hj' (fun b o _ hb e => (s1.2 b hb).trans e), hc2, (s1.2 a hka.symm).trans na2, ?_, by rw [Array.size_push, hsz]⟩
    rw [Array.toList_push]
    exact rv.append (.cons ry .nil)
  case done =>
    rintro s' ⟨kvs, H', kA, e, hj, nk', na', rv, hsz⟩
    simp only [Nat.zero_add] at hj hsz
    obtain ⟨I, n1, n2⟩ := hJ _ _ _ _ hj
    have hk' := dps_reads I (hD _ _ _ hj) rv
    try dsimp only
    refine wpAny_bind (listItems_at nk' rfl ?_)
    have sF := Heap.SameBut.update s'.heap kS (fun o => { o with data := .freed })
    refine keyH_end (κ := dataKind s'.heap kz) (h₁ := s'.heap.update kS fun o => { o with data := .freed }) (fun b o hb q => ?_) freed_none nk' na' hka (SortsAt.data (s := s') hk' hal hso hu) hsz hZ fun h3 tk3 c k3 n3 => ?_
    · have hb2 : b ≠ kS := fun z => by rw [z, freed_none] at q; cases q
      rw [← sF.2 b hb2]; exact q
    · exact done kvs H' s' h3 tk3 _ c hj (fun b o b1 b2 q => k3 b o b1 ((sF.2 b b2).trans q)) n3 ⟨s'.heap, kA.toList, hal, rfl, hk'⟩
end
end PL

set_option Elab.async false
set_option linter.all false
set_option maxRecDepth 100000
set_option maxHeartbeats 1000000
/-! PLt2: sorted(l, key=f). -/
namespace PL
open PySem PySem.Spec PyProof.Rows L2 PySem.W PySem.Calls
section
variable {X : Cx} {pins : List (Addr × Obj)} {σ : L2.St} {s : Shared} {H : Hp} {h' : Heap}
/-- an object that nobody knew comes to be known -/
theorem inv_learn {a : Addr} {o : HO} (I : Inv X pins σ H s) (fa : FpOk X pins H a) (new : ObjOk X.prog X.w (upd H a o) s.heap a o) : Inv X pins σ (upd H a o) s := by
  have ha : H a = none := fa.1
  have ne : ∀ c u, H c = some u → c ≠ a := fun c u e => ne_of_none e ha
  exact I.step (g' := s.gens) (t' := s.toks) (d' := s.drawn) (h' := s.heap) (ch := [a]) (fun b hb => by
      have e : b = a := by simpa using hb
      rw [e]
      exact ⟨fa.2.2.2.1, fa.2.1, fa.2.2.2.2.1, fa.2.2.2.2.2⟩) (fun b o _ _ _ e _ => e) (fun b o _ _ _ e _ => ⟨o.slots, e⟩)
    (fun b o hb e n => by rw [upd_ne (fun z => hb (by rw [z]; simp))]; exact n) (fun b o _ e => ⟨o, e⟩) (fun b xs e => by rw [upd_ne (ne b _ e)]; exact e) (fun b o u e => by rw [upd_ne (ne b _ e)]; exact e) (fun b ps e => ⟨#[], by rw [upd_ne (ne b _ e), e]; simp⟩) (fun m hm => hm) (fun b u e => by
      by_cases hb : b = a
      · rw [hb, upd_same] at e
        cases e
        rw [hb]
        exact new
      · rw [upd_ne hb] at e
        exact (I.hok b u e).stay (fun c v _ q => q) (fun c q => by rw [upd_ne (ne c _ q)]; exact q) fun c xs q => by rw [upd_ne (ne c _ q)]; exact q) I.bare
theorem inv_learnL {a kS : Addr} {xs : List V} {out : List Value} {c tk : Nat} (I : Inv X pins σ H s) (fa : FpOk X pins H a) (fk : FpOk X pins H kS) (k : ∀ b o, b ≠ a → b ≠ kS → s.heap.get? b = some o → h'.get? b = some o)
    (hl : xs.length ≤ sizeLine) (rv : Vals xs out) (ha : h'.get? a = some (seqObj "list" (List.toArray out) c)) : Inv X pins σ (upd H a (.lst xs)) { s with heap := h', toks := tk } := by
  have I1 : Inv X pins σ H { s with heap := h', toks := tk } := I.turnedL (ch := [a, kS]) (fun b o hb e => k b o (fun z => hb (by simp [z])) (fun z => hb (by simp [z])) e) fun b hb => by
    have e : b = a ∨ b = kS := by simpa using hb
    rcases e with e | e <;> rw [e] <;> assumption
  exact inv_learn I1 fa ⟨hl, out, c, rv, ha⟩
end
section
variable {X : Cx} {pins : List (Addr × Obj)} {σ : L2.St} {E : Value → Shared → Prop} {s : Shared} {l q : Addr} {vs : List Value} {kz : List PyData} {Q : Value → Shared → Prop} {J : Nat → List V → Hp → Shared → Prop} {H : Hp}
theorem key_sorted (I : Inv X pins σ H s) (hl : s.heap.IsList l vs.toArray) (hJ : ∀ j kvs H s', J j kvs H s' → Inv X pins σ H s' ∧ H (s.heap.objs.size + 3) = none ∧ H (s.heap.objs.size + 1) = none)
    (stay : ∀ j kvs H s' h' tk, J j kvs H s' → (∀ b o, b ≠ s.heap.objs.size + 1 → b ≠ s.heap.objs.size + 3 → s'.heap.get? b = some o → h'.get? b = some o) → J j kvs H { s' with heap := h', toks := tk })
    (turn : ∀ j v kvs H s', vs[j]? = some v → J j kvs H s' → (∃ o, s'.heap.get? (s.heap.objs.size + 3) = some o) → (∃ o, s'.heap.get? (s.heap.objs.size + 1) = some o) → wpAny (model X.prog X.w) X.A.in1.in1 (call (.ref q) [v]) (fun u s2 => ∃ H' y, J (j + 1) (kvs ++ [y]) H' s2 ∧ RelV y u ∧ Un (frs X.stack) [] H H' s'.heap s2.heap) (fun _ _ => False) s')
    (hD : ∀ kvs H s', J vs.length kvs H s' → DpAll X.K H kvs kz)
    (h0 : ∀ h', (∀ b o, s.heap.get? b = some o → h'.get? b = some o) → J 0 [] H { s with heap := h' }) (hlen : kz.length = vs.length) (hZ : vs.length ≤ sizeLine) (hal : AllAlike kz) (hso : PySem.W.Sortable kz) (hu : ∀ d, d ∈ kz → X.A.units + 2 + d.depth < cLine)
    (done : ∀ kvs H s' h' tk out c, J vs.length kvs H s' → (∀ b o, b ≠ s.heap.objs.size + 1 → b ≠ s.heap.objs.size + 3 → s'.heap.get? b = some o → h'.get? b = some o) → h'.get? (s.heap.objs.size + 1) = some (seqObj "list" (List.toArray out) c) → KeyedOut false kz vs out → Q (.ref (s.heap.objs.size + 1)) { s' with heap := h', toks := tk }) :
    wpAny (model X.prog X.w) X.A (call (.builtin "sorted") [.ref l] [(Str.ofString "key", .ref q)]) Q E s := by
  refine sorted_of_sort hl hZ (ksk_s1 _ _) (fun x => ksk_l1 _ _) fun E' => ?_
  rw [ksk_t1]
  have nofr : ∀ b, s.heap.objs.size ≤ b → b ∉ frs X.stack := fun b hb z => by
    rcases List.mem_cons.mp (I.stkSub _ z) with e | e
    · have h1 := I.lt
      rw [← e] at h1
      exact Nat.lt_irrefl _ (Nat.lt_of_lt_of_le h1 hb)
    · exact I.nofs hb e
  have ho := copyHeap_at s.heap vs
  have ha : s.heap.objs.size + 1 < (copyHeap s.heap vs).objs.size := Heap.lt_size ho
  have hcs : (copyHeap s.heap vs).objs.size = s.heap.objs.size + 2 := by unfold copyHeap; rw [size_push', Heap.size_update, size_push']
  obtain ⟨e1, ho1⟩ : ∃ e1, ((copyHeap s.heap vs).update (s.heap.objs.size + 1) (Obj.mapSeq fun _ => (#[] : Array Value))).get? (s.heap.objs.size + 1) = some (seqObj "list" #[] e1) := ⟨_, get?_update_seq ho fun _ => #[]⟩
  have hkS : (((copyHeap s.heap vs).update (s.heap.objs.size + 1) (Obj.mapSeq fun _ => (#[] : Array Value))).push (seqObj "tuple" vs.toArray 0)).objs.size = s.heap.objs.size + 3 := by rw [size_push', Heap.size_update, hcs]
  unfold ksk_tree
  refine wpAny_bind (listItems_at ho rfl ?_)
  refine wpAny_bind (listUpdate_at ho rfl ?_ (by rw [List.size_toArray]; exact hZ) (Nat.zero_le _))
  refine wpAny_bind (seqEpoch_at ho1 rfl ?_)
  refine wpAny_bind (wpAny_newTuple ?_ (by show vs.length ≤ _; exact hZ))
  refine wpAny_bind (wpAny_newList ?_ (Nat.zero_le _))
  refine wpAny_holding ?_
  rw [hkS]
  have keep0 : ∀ b o, s.heap.get? b = some o → ((((copyHeap s.heap vs).update (s.heap.objs.size + 1) (Obj.mapSeq fun _ => (#[] : Array Value))).push (seqObj "tuple" vs.toArray 0)).push (seqObj "list" #[] 0)).get? b = some o := fun b o e => by
    refine Heap.get?_push_of_some _ (Heap.get?_push_of_some _ ?_)
    rw [Heap.get?_update_ne _ _ _ _ (Nat.ne_of_lt (Nat.lt_succ_of_lt (Heap.lt_size e)))]
    exact copyHeap_old e
  have hk0 : ((((copyHeap s.heap vs).update (s.heap.objs.size + 1) (Obj.mapSeq fun _ => (#[] : Array Value))).push (seqObj "tuple" vs.toArray 0)).push (seqObj "list" #[] 0)).get? (s.heap.objs.size + 3) = some (seqObj "list" #[] 0) := by
    rw [← hkS]; exact Heap.get?_push_size _ rfl
  refine key_rest (J := J) (kz := kz) (H := H) (a := s.heap.objs.size + 1) (kS := s.heap.objs.size + 3) (s := { s with heap := (((copyHeap s.heap vs).update (s.heap.objs.size + 1) (Obj.mapSeq fun _ => (#[] : Array Value))).push (seqObj "tuple" vs.toArray 0)).push (seqObj "list" #[] 0) })
    hJ (nofr _ (Nat.le_add_right _ _)) (nofr _ (Nat.le_add_right _ _)) stay turn hD (h0 _ keep0) hk0 (Heap.get?_push_of_some _ (Heap.get?_push_of_some _ ho1)) (by intro z; exact absurd (Nat.add_left_cancel z) (by decide)) hlen hZ hal hso (fun d hd => by have := hu d hd; show X.A.units + 1 + 1 + d.depth < cLine; omega) fun kvs H' s' h' tk out c hj kp hh ko => ⟨rfl, ?_⟩
  exact done kvs H' s' h' tk out c hj kp hh ko
end
end PL

set_option Elab.async false
set_option linter.all false
set_option maxRecDepth 100000
set_option maxHeartbeats 1000000
/-! PLt3: sorted(l, key=lambda x: k). -/
namespace PL
open PySem PySem.Spec PyProof.Rows L2 PySem.W PySem.Calls LamX
theorem key_bind {x q : Str} {apos : Pos} {body : Expr} {scope : Scope} {cl : List (Str × Addr)} {pm cv ctv v : Value} : bindArgs (kla_fn "<lambda>" q ⟨[], [⟨x, none, apos⟩], none, [], [], none, []⟩ body scope cl pm cv ctv) ⟨[v], []⟩ = pure [(x, v)] := by
  have e : (List.lookup x [(x, v)]) = some v := by simp [List.lookup]
  simp [bindArgs, kla_fn, seqItems?, e]
  rfl
/-- a code table's object: its codes, each of the name q and told by N -/
def TabN (N : Addr → Prop) (H : Hp) (P : Addr) (q : Str) : Prop := ∃ ps : Array Value, H P = some (.tbl ps) ∧ TriplesOk ps.toList ∧ ∀ (pos : Pos) (cv : Value), codeAmong pos ps.toList = some cv → ∃ c, cv = .ref c ∧ N c ∧ H c = some (CodeO c q)
section
variable {X : Cx} {pins : List (Addr × Obj)} {σ : L2.St} {H : Hp} {s : Shared}
/-- a lambda is made: all but its table stays as it was -/
theorem lam_mk {N : Addr → Prop} {c P : Addr} {params : Arguments} {body : Expr} {scope : Scope} {pos : Pos} {E Q : Value → Shared → Prop} {q : Str} (I : Inv X pins σ H s) (TB : TabB X.base X.mg c P) (hcode : X.env.code = .ref c) (hq : X.env.qual ++ "<lambda>" = q)
    (hT : TabN N H P q) (hN : ∀ c, H c = none → N c) (hdef : defaultsOf params X.env = ([], [])) (hfree : ∀ y ∈ scope.names, y.2 = .free → ∃ c, X.env.cells.lookup y.1 = some c)
    (h : ∀ (f c' : Addr) (pm ctv : Value) (H1 : Hp) (s' : Shared), Inv X pins σ H1 s' → (∀ b o, b ≠ P → H b = some o → H1 b = some o) → TabN N H1 P q → s'.heap.get? f = some (kla_obj "<lambda>" q params body scope (cloFrom X.env.cells scope.names []) pm c' ctv) → H1 f = none → f ∉ frs X.stack → H1 c' = some (CodeO c' q) → N c' →
      (∀ b o, b ≠ P → s.heap.get? b = some o → s'.heap.get? b = some o) → Q (.ref f) s') :
    wpAny (model X.prog X.w) X.A (eval (.Lambda params body scope pos) X.env) Q E s := by
  subst hq
  obtain ⟨ps, hP, ht, ha⟩ := hT
  have g0 := TB.bm.keeps I.bk
  have g1 := TB.code.keeps I.bk
  have g2 := I.mod.glob.keeps I.bk
  have g3 := I.hok P _ hP
  have out : ∀ f, s.heap.objs.size ≤ f → f ∉ frs X.stack := fun f hf z => (List.mem_cons.mp (I.stkSub _ z)).elim (fun e => by
    have := I.lt
    rw [← e] at this
    exact absurd this (Nat.not_lt_of_le hf)) fun e => I.nofs hf e
  apply kla_eval hdef
  rcases Option.eq_none_or_eq_some (codeAmong pos ps.toList) with hc | ⟨cv, hc⟩
  · apply kla_makeFunction (mg := X.mg) (c := c) (P := P) (ps := ps) (closure_ok hfree) I.ok.glob g2 hcode g1 g3 ht hc TB.gP g0
    rintro c' ctv h' tk hx hge hlt ⟨c2, oc, vs, t, e2, hoc, hd, hv⟩ htb
    cases e2
    have nc : H c' = none := I.hok.fresh hge
    have nPc : P ≠ c' := ne_of_none hP nc
    have sz : s.heap.objs.size ≤ h'.objs.size := by omega
    have keepA : ∀ b o, b ≠ P → H b = some o → upd (upd H P (.tbl (ps ++ #[rawInt pos.line, rawInt pos.col, .ref c']))) c' (CodeO c' (X.env.qual ++ "<lambda>")) b = some o := fun b o nb e => by rw [upd_ne (ne_of_none e nc), upd_ne nb]; exact e
    refine h h'.objs.size c' _ ctv _ _ (inv_table (t' := tk) (more := #[rawInt pos.line, rawInt pos.col, .ref c']) I hP (fun b o hb e => Heap.get?_push_of_some _ (hx b o hb e)) (Heap.get?_push_of_some _ htb) hge ⟨oc, vs, t, Heap.get?_push_of_some _ hoc, hd, hv⟩) keepA ⟨_, by rw [upd_ne nPc, upd_same], ?_, fun p' cv' hcv => ?_⟩ (Heap.get?_push_size _ rfl) ?_ (out _ sz) upd_same (hN _ nc) fun b o hb e => Heap.get?_push_of_some _ (hx b o hb e)
    · rw [Array.toList_append]
      exact TriplesOk_snoc _ _ _ _ ht
    · rw [Array.toList_append] at hcv
      rcases among_app _ ht hcv with z | z
      · obtain ⟨c0, e1, e2, e3⟩ := ha p' cv' z
        have n0 : c0 ≠ P := fun w => by
          rw [w, hP] at e3
          unfold CodeO at e3
          cases e3
        exact ⟨c0, e1, e2, keepA _ _ n0 e3⟩
      · exact ⟨c', z, hN _ nc, upd_same⟩
    · have n1 : h'.objs.size ≠ c' := by omega
      have n2 : h'.objs.size ≠ P := Nat.ne_of_gt (Nat.lt_of_lt_of_le (Heap.lt_size g3) sz)
      rw [upd_ne n1, upd_ne n2]
      exact I.hok.fresh sz
  · obtain ⟨c', rfl, e2, e3⟩ := ha pos cv hc
    apply kla_makeFunctionHit (mg := X.mg) (c := c) (P := P) (ps := ps) (closure_ok hfree) I.ok.glob g2 hcode g1 g3 ht hc g0
    intro ctv h' tk hx sz
    exact h h'.objs.size c' _ ctv H _ (I.kept fun b o e => Heap.get?_push_of_some _ (hx b o e)) (fun _ _ _ e => e) ⟨ps, hP, ht, ha⟩ (Heap.get?_push_size _ rfl) (I.hok.fresh sz) (out _ sz) e3 e2 fun b o _ e => Heap.get?_push_of_some _ (hx b o e)
end
/-- the store behind the making of a lambda -/
theorem RS.retab {A : Ad} {m : List Addr} {S : Sto} {H H1 : Hp} {t : Nat} {q : List Nat} {P : Addr} (r : RS A m S H) (ht : S[t]? = some (.tab q)) (hm : m[t]? = some P) (same : ∀ b o, b ≠ P → H b = some o → H1 b = some o) (T : TabN (fun c => c ∉ m) H1 P (S' q)) : Ext m H m H1 ∧ RS A m S H1 := by
  obtain ⟨hA, ps0, h0, _, _⟩ := r.obj t _ P ht hm
  obtain ⟨ps, h1, h2, h3⟩ := T
  have am := List.mem_of_getElem? hm
  have x : Ext m H m H1 := ⟨⟨[], by simp, by simp⟩, fun a o e n => same a o (fun z => n (z ▸ am)) e, fun a ha => by
    by_cases e : a = P
    · rw [e, h1]; simp
    · obtain ⟨o, ho, _⟩ := r.chg a ha
      rw [same a o e ho]; simp, fun a od u ha e => same a _ (fun z => by rw [z, h0] at e; cases e) e⟩
  refine ⟨x, r.len, r.nd, fun a ha => ?_, fun i o a e1 e2 => ?_⟩
  · by_cases e : a = P
    · exact ⟨.tbl ps, by rw [e, h1], trivial⟩
    · obtain ⟨o, ho, mo⟩ := r.chg a ha
      exact ⟨o, same a o e ho, mo⟩
  · by_cases e : a = P
    · subst e
      have ei : i = t := by
        obtain ⟨l1, k1⟩ := List.getElem?_eq_some_iff.mp e2
        obtain ⟨l2, k2⟩ := List.getElem?_eq_some_iff.mp hm
        exact (List.getElem_inj r.nd).mp (by rw [k1, k2])
      subst ei
      rw [ht] at e1
      cases e1
      exact ⟨hA, ps, h1, h2, fun pos cv hc => h3 pos cv hc⟩
    · obtain ⟨o', ho, _⟩ := r.chg a (List.mem_of_getElem? e2)
      exact (r.obj i o a e1 e2).mono r x (by rw [same a o' e ho, ho])
theorem keysR_ok {f : D → R D} {S : Sto} : ∀ {xs ks : List D}, keysR f S xs = some ks → ks.length = xs.length ∧ ∀ (j : Nat) (x : D), xs[j]? = some x → ∃ d, ks[j]? = some d ∧ f x = .ok d S
  | [], ks, h => by
    cases h
    exact ⟨rfl, fun j x e => by simp at e⟩
  | y :: xs, ks, h => by
    simp only [keysR] at h
    split at h
    · rename_i d S1 e
      split at h
      · rename_i e1
        subst e1
        obtain ⟨ds, h1, rfl⟩ := Option.map_eq_some_iff.mp h
        obtain ⟨k1, k2⟩ := keysR_ok h1
        refine ⟨by simp [k1], fun j x hx => ?_⟩
        cases j with
        | zero =>
          have : y = x := by simpa using hx
          subst this
          exact ⟨d, rfl, e⟩
        | succ j =>
          obtain ⟨d', g1, g2⟩ := k2 j x (by simpa using hx)
          exact ⟨d', by simpa using g1, g2⟩
      · cases h
    · cases h
theorem rvs_snoc {A : Ad} {m : List Addr} {H : Hp} {ds : List D} {vs : List V} {d : D} {v : V} {j : Nat} (hj : ds[j]? = some d) (h : RVs A m H (ds.take j) vs) (k : RV A m H d v) : RVs A m H (ds.take (j + 1)) (vs ++ [v]) := by
  rw [List.take_add_one, hj]
  exact h.append (RVs.one k)
theorem rvs_all {A : Ad} {m : List Addr} {H : Hp} : ∀ {l : List (D × V)}, (∀ z ∈ l, RV A m H z.1 z.2) → RVs A m H (l.map (·.1)) (l.map (·.2))
  | [], _ => rfl
  | z :: l, h => ⟨z.2, l.map (·.2), rfl, h z List.mem_cons_self, rvs_all fun y hy => h y (List.mem_cons_of_mem _ hy)⟩
theorem each_val {α : Type} {f : α → V} : ∀ {l : List α} {vs : List Value}, Vals (l.map f) vs → EachIs (fun v b => RelV (f b) v) vs l
  | [], _, r => by cases r; exact .nil
  | x :: l, _, r => by
    rw [List.map_cons] at r
    cases r with
    | cons r1 r2 => exact .cons r1 (each_val r2)
theorem rvs_zip3 {A : Ad} {m : List Addr} {H : Hp} : ∀ {ks xs : List D} {vs : List V}, ks.length = xs.length → RVs A m H xs vs → (∀ z ∈ (ks.zip xs).zip vs, RV A m H z.1.2 z.2) ∧ ((ks.zip xs).zip vs).map (·.1.1) = ks ∧ ((ks.zip xs).zip vs).map (·.1) = ks.zip xs ∧ ((ks.zip xs).zip vs).map (·.2) = vs
  | [], [], _, _, h => by rw [show _ = [] from h]; exact ⟨fun z hz => (nomatch hz), rfl, rfl, rfl⟩
  | [], _ :: _, _, e, _ => by simp at e
  | _ :: _, [], _, e, _ => by simp at e
  | k :: ks, x :: xs, _, e, h => by
    obtain ⟨v, us, rfl, h1, h2⟩ := h
    obtain ⟨k1, k2, k3, k4⟩ := rvs_zip3 (ks := ks) (by simpa using e) h2
    refine ⟨fun z hz => ?_, by simp [k2], by simp [k3], by simp [k4]⟩
    rcases List.mem_cons.mp hz with rfl | hz
    · exact h1
    · exact k1 z hz
section
variable {A : Ad} {W : WX} {X : Cx} {a : Expr} {p pos kpos lpos : Pos} {fe fk : Env → Sto → R D}
theorem sl_sortK {c : Addr} {q : List Nat} {t i : Nat} {x : Str} {params : Arguments} {body : Expr} {scope : Scope} (hK : A.K = X.K) (hu : X.A.units + 80 < cLine) (hr : Room 3 X.A) (hg : Gl X "sorted") (hm : X.mg "sorted" = none)
    (he : SE A W X a fe) (hs : starEach [a] X.env = [(false, eval a X.env)]) (TB : TabB X.base X.mg c (A.ta q)) (hcode : X.env.code = .ref c) (hq : X.env.qual ++ "<lambda>" = S' q) (L : LamP X.env.scope scope x) (hN : X.N.Nodup) (hi : X.N[i]? = some x)
    (hdef : defaultsOf params X.env = ([], [])) (hbind : ∀ (q : Str) (cl : List (Str × Addr)) (pm cv ctv v : Value), bindArgs (kla_fn "<lambda>" q params body scope cl pm cv ctv) ⟨[v], []⟩ = pure [(x, v)])
    (hbody : ∀ (s : Shared) (H : Hp) (f c' : Addr), SE A (fun _ _ _ _ => False) (lamCx X X.A.in1.in1 X.stack s H (fun _ _ _ => False) scope f c') body fk) :
    SL A W X (.Call (.Name "sorted" p) [a] [⟨some "key", .Lambda params body scope lpos, kpos⟩] pos) (fun ρ S => (fe ρ S).bind fun x S1 => match x with
      | .ob j => match lstAt S1 j with
        | some xs => if S1[t]? = some (.tab q) ∧ i < ρ.length then ofOpt ((keysR (fun x => fk (ρ.set i (some x)) S1) S1 xs).bind fun ks => sortByK ks xs) S1 else .stuck
        | none => .stuck
      | _ => .stuck) := by
  refine ⟨fun pins s σ H Q I ⟨m, ρ, S, rs, re, pp⟩ => ?_⟩
  refine wpAny_Call_Name_kw (ld_blt I hg hm (by rfl) ?_ (by decide) (by decide))
  have arg := (pa_cons he pa_nil hs).run pos pins s σ H (fun vs H1 => ∃ m1 S1 d v, vs = [v] ∧ Ext m H m1 H1 ∧ RS A m1 S1 H1 ∧ RV A m1 H1 d v ∧ Post A (rL A) (fun c d H' => W c d σ H') m H (match d with
      | .ob j => match lstAt S1 j with
        | some xs => if S1[t]? = some (.tab q) ∧ i < ρ.length then ofOpt ((keysR (fun x => fk (ρ.set i (some x)) S1) S1 xs).bind fun ks => sortByK ks xs) S1 else .stuck
        | none => .stuck
      | _ => .stuck) Q) I ⟨m, ρ, S, rs, re, pp.bind0 fun d S1 m1 H1 v x1 rs1 rv1 p1 => ⟨m1, S1, d, v, rfl, x1, rs1, rv1, p1⟩⟩
  refine callWith_kw (thn arg fun us s1 ⟨vs, H1, I1, r1, m1, S1, d, v, e1, x1, rs1, rv1, p1⟩ => ?_) (by rw [hs]; rfl) (by rw [hs]; rfl) rfl rfl
  subst e1
  cases d with
  | ob j => ?_
  | _ => exact p1.elim
  obtain ⟨al, hal, rfl⟩ := rv1
  obtain rfl := Vals.ref1 r1
  dsimp only at p1
  cases hl : lstAt S1 j with
  | none => rw [hl] at p1; exact p1.elim
  | some xs => ?_
  rw [hl] at p1
  dsimp only at p1
  split at p1
  · rename_i hc
    obtain ⟨ht, hlen⟩ := hc
    cases hk : keysR (fun x => fk (ρ.set i (some x)) S1) S1 xs with
    | none => rw [hk] at p1; exact p1.elim
    | some ks => ?_
    rw [hk] at p1
    dsimp only [Option.bind] at p1
    cases hsb : sortByK ks xs with
    | none => rw [hsb] at p1; exact p1.elim
    | some ys => ?_
    rw [hsb] at p1
    obtain ⟨vs', hv1, hv2⟩ := lstAt_ok rs1 hal hl
    obtain ⟨P, hP⟩ : ∃ P, m1[t]? = some P := by
      have := (List.getElem?_eq_some_iff.mp ht).1
      exact ⟨_, List.getElem?_eq_getElem (by rw [rs1.len]; exact this)⟩
    obtain ⟨eP, ps, h1, h2, h3⟩ := rs1.obj t _ P ht hP
    subst eP
    refine wpAny_evalAll_cons (wpAny_bind (lam_mk (N := fun c => c ∉ m1) I1 TB hcode rfl ⟨ps, h1, h2, fun pos cv hcv => ?_⟩ (fun c hc z => rs1.there c z hc) hdef (L.has I1.ok) fun f c' pm ctv H2 s2 I2 same T2 hf hfn hfr hco hnc keep2 => wpAny_bind (wpAny_standAt (wpAny_pure (wpAny_evalAll_nil ?_)))))
    · obtain ⟨c, k1, k2, k3⟩ := h3 pos cv hcv
      rw [hq]
      exact ⟨c, k1, k2, k3⟩
    rw [hq] at T2
    obtain ⟨x2, rs2⟩ := rs1.retab ht hP same T2
    have hv3 : H2 al = some (.lst vs') := same _ _ (fun z => by rw [z, h1] at hv1; cases hv1) hv1
    obtain ⟨its, rv, hp, hz⟩ := I2.list (.of hv3)
    have hv4 := hv2.mono rs1 x2
    obtain ⟨kl, kk⟩ := keysR_ok hk
    unfold sortByK at hsb
    split at hsb
    · rename_i ds eds
      split at hsb
      · rename_i ok
        cases hsb
        simp only [Bool.and_eq_true, decide_eq_true_eq] at ok
        obtain ⟨⟨⟨a1, a2⟩, a3⟩, a4⟩ := ok
        have dl := pys_len eds
        have vl := hv2.length
        have il := rv.length
        have sz2 : f < s2.heap.objs.size := Heap.lt_size hf
        show wpAny _ _ (call (.builtin "sorted") [.ref al] [(Str.ofString "key", .ref f)]) (EP X pins σ Q) X.xe s2
        refine key_sorted (J := fun j kvs H' s' => Inv X pins σ H' s' ∧ H' (s2.heap.objs.size + 3) = none ∧ H' (s2.heap.objs.size + 1) = none ∧ s'.heap.get? f = some (kla_obj "<lambda>" (X.env.qual ++ "<lambda>") params body scope (cloFrom X.env.cells scope.names []) pm c' ctv) ∧ H' f = none ∧ H' c' = some (CodeO c' (X.env.qual ++ "<lambda>")) ∧
            ∃ m', Ext m1 H2 m' H' ∧ RS A m' S1 H' ∧ RVs A m' H' (ks.take j) kvs) (kz := ds) I2 hp.isList (fun j kvs H' s' hj => ⟨hj.1, hj.2.1, hj.2.2.1⟩) (fun j kvs H' s' h' tk hj k => ?stay) (fun j v kvs H' s' hv hj o3 o1 => ?turn) (fun kvs H' s' hj => ?hD) (fun h' k => ?h0) ?hlen ?hZ (alike_of a1) (sortable_of a2) (fun d hd => ?hu) (fun kvs H' s' h' tk out cc hj k hh ko => ?done)
        case hlen => omega
        case hZ => omega
        case hu =>
          have := pys_depth hd
          omega
        case h0 =>
          exact ⟨I2.kept (t' := s2.toks) k, I2.hok.fresh (by omega), I2.hok.fresh (by omega), k _ _ hf, hfn, hco, m1, rs2.ext, rs2, rfl⟩
        case hD =>
          obtain ⟨_, _, _, _, _, _, m', x', rs', rv'⟩ := hj
          rw [List.take_of_length_le (by omega)] at rv'
          exact pys_ok hK rv' eds
        case stay =>
          obtain ⟨I', n3, n1, hf', nf, hc', m', x', rs', rv'⟩ := hj
          refine ⟨I'.turnedL (ch := [s2.heap.objs.size + 1, s2.heap.objs.size + 3]) (fun b o hb e => k b o (fun z => hb (by simp [z])) (fun z => hb (by simp [z])) e) (fun b hb => ?_), n3, n1, k f _ (Nat.ne_of_lt (Nat.lt_of_lt_of_le sz2 (Nat.le_add_right _ _))) (Nat.ne_of_lt (Nat.lt_of_lt_of_le sz2 (Nat.le_add_right _ _))) hf', nf, hc', m', x', rs', rv'⟩
          have e : b = s2.heap.objs.size + 1 ∨ b = s2.heap.objs.size + 3 := by simpa using hb
          rcases e with e | e
          · rw [e]; exact I2.fpOk (by omega) n1
          · rw [e]; exact I2.fpOk (by omega) n3
        case turn =>
          obtain ⟨I', n3, n1, hf', nf, hc', m', x', rs', rv'⟩ := hj
          have jl : j < its.length := (List.getElem?_eq_some_iff.mp hv).1
          obtain ⟨xv, hxv⟩ : ∃ xv, vs'[j]? = some xv := ⟨_, List.getElem?_eq_getElem (by omega)⟩
          obtain ⟨v', g1, g2⟩ := rv.get hxv
          rw [hv] at g1
          cases g1
          obtain ⟨dx, g3, g4⟩ := hv4.get' hxv
          obtain ⟨dk, g5, g6⟩ := kk j dx g3
          have re' : REnv A m' H' ρ σ := ((re.mono rs x1).mono rs1 x2).mono rs2 x'
          refine wpAny_mono (lam_call1 (A := X.A.in1.in1) (k := 0) (Q := fun y H'' => ∃ m'', Ext m' H' m'' H'' ∧ RS A m'' S1 H'' ∧ RV A m'' H'' dk y) I' L hN hi g2 I'.env0.in1.in1 hr.in1.in1 hf' hc' (hbind _ _ _ _ _ _) (hbody s' H' f c') ⟨m', ρ.set i (some dx), S1, rs', re'.set (g4.mono rs2 x') i, ?_⟩) (fun u s'' hq => ?_) fun _ _ z => z
          · rw [g6]
            exact fun m'' H'' b x'' rs'' rv'' => ⟨m'', x'', rs'', rv''⟩
          · obtain ⟨y, H'', I'', ry, ⟨m'', x'', rs'', rv''⟩, un⟩ := hq
            obtain ⟨o3, h3'⟩ := o3
            obtain ⟨o1, h1'⟩ := o1
            refine ⟨H'', y, ⟨I'', un.free _ _ h3' n3 (by simp), un.free _ _ h1' n1 (by simp), un.keep _ _ hf' nf hfr (by simp), un.free _ _ hf' nf (by simp), x''.keep _ _ hc' (x'.out hco hnc), m'', x'.trans x'', rs'', rvs_snoc g5 (rv'.mono rs' x'') rv''⟩, ry, un⟩
        case done =>
          obtain ⟨I', n3, n1, hf', nf, hc', m', x', rs', rv'⟩ := hj
          obtain ⟨z1, z2, z3, z4⟩ := rvs_zip3 kl (hv4.mono rs2 x')
          have eds' : ds = ((ks.zip xs).zip vs').map (fun z => pyOf z.1.1) := by
            rw [pys_map eds]
            have := congrArg (List.map pyOf) z2
            rw [List.map_map] at this
            exact this.symm
          rw [eds'] at ko
          have eo := keyedOut_each (R := fun v (b : (D × D) × V) => RelV b.2 v) (fun z : (D × D) × V => pyOf z.1.1) ko (each_val (f := fun z : (D × D) × V => z.2) (by rw [z4]; exact rv))
          have srt : (((ks.zip xs).zip vs').mergeSort (dataLe false fun z => pyOf z.1.1)).map (·.1) = (ks.zip xs).mergeSort fun a b => pyLe a.1 b.1 := by
            have := List.map_mergeSort (r := dataLe false fun z : (D × D) × V => pyOf z.1.1) (s := fun a b : D × D => pyLe a.1 b.1) (f := fun z : (D × D) × V => z.1) (l := (ks.zip xs).zip vs') (fun a _ b _ => rfl)
            rw [z3] at this
            exact this
          have zm : ∀ z ∈ ((ks.zip xs).zip vs').mergeSort (dataLe false fun z => pyOf z.1.1), RV A m' H' z.1.2 z.2 := fun z hz => z1 z ((List.mergeSort_perm _ _).mem_iff.mp hz)
          have zl : (((ks.zip xs).zip vs').mergeSort (dataLe false fun z => pyOf z.1.1)).length = vs'.length := by
            have := congrArg List.length z4
            rw [List.length_map] at this
            rw [(List.mergeSort_perm _ _).length_eq, this]
          generalize ((ks.zip xs).zip vs').mergeSort (dataLe false fun z => pyOf z.1.1) = zs at eo srt zm zl
          have rvo : Vals (zs.map (·.2)) out := vals_each eo
          obtain ⟨x3, rs3⟩ := rs'.lay (.lst (zs.map (·.2))) n1
          refine ⟨.ref _, upd H' (s2.heap.objs.size + 1) (.lst (zs.map (·.2))), inv_learnL I' (I2.fpOk (by omega) n1) (I2.fpOk (by omega) n3) k (by rw [List.length_map, zl]; exact hz) rvo hh, rfl, p1 m' _ _ (((x1.trans x2).trans x').trans x3) rs3 ⟨_, _, rfl, upd_same, (((x1.trans x2).trans x').none n1), fun z => rs'.there _ z n1, ?_⟩⟩
          rw [← srt, List.map_map]
          have := rvs_all (A := A) (m := m') (H := H') (l := zs.map fun z => (z.1.2, z.2)) (fun z hz => by
            obtain ⟨y, hy, rfl⟩ := List.mem_map.mp hz
            exact zm y hy)
          rw [List.map_map, List.map_map] at this
          exact this.mono rs' x3
      · cases hsb
    · cases hsb
  · exact p1.elim
end
end PL

set_option Elab.async false
set_option linter.all false
set_option maxRecDepth 100000
set_option maxHeartbeats 1000000
/-! PL13: the check that a piece of the own language is a piece of the text. -/
namespace PL
open PySem PySem.Spec PyProof.Rows L2
/-- what is known of a block before it is run: the slots' names, the scope, the defs by number, the constants, the built-in names that nobody took -/
structure Cn where
  N : List Str
  sc : List (Str × NameKind)
  cl : List Str
  fs : List Str
  gs : List (Str × D)
  bs : List Str
  cs : List Str
  flds : List Str
  ks : List (Str × Nat)
  gcd : Bool
  ms : List Str
  lam : Bool
  tq : List Nat
def Cn.vis (c : Cn) (x : Str) : Bool := match c.sc.lookup x with
  | some .local | some .cell | some .free => true
  | _ => false
def Cn.loc (c : Cn) (x : Str) : Bool := match c.sc.lookup x with
  | some .local => true
  | some .cell => decide (x ∈ c.cl)
  | _ => false
def Cn.glo (c : Cn) (x : Str) : Bool := match c.sc.lookup x with
  | some .globalImplicit => true
  | _ => false
def nmOk (x : Str) : Bool := !(x == ("__debug__" : Str)) && !(x == ("__classdict__" : Str)) && !decide (x = ("__name__" : Str))
def Cn.blt (c : Cn) (x : Str) : Bool := c.glo x && decide (x ∈ c.bs)
/-- a comprehension's scope -/
def Cn.blkOk (c : Cn) (scope : Scope) (own : List Nat) : Bool :=
  decide (scope.kind = .function) && scope.names.all (fun y => decide (scope.names.lookup y.1 = some y.2)) && own.all (fun i => decide (i < c.N.length))
    && scope.names.all (fun y => !decide (y.2 = .free) || (match c.sc.lookup y.1 with | some .cell | some .free => true | _ => false))
    && scope.names.all (fun y => !(decide (y.2 = .local) || decide (y.2 = .cell)) || own.any (fun i => decide (c.N[i]? = some y.1)) || !decide (y.1 ∈ c.N))
/-- a block's names within another: what is free in it and a cell around it is a cell -/
def relN (sc : List (Str × NameKind)) (l : List (Str × NameKind)) : List (Str × NameKind) := l.map fun (n, k) => if (k == .free && sc.lookup n == some .cell) then (n, .cell) else (n, k)
def Cn.inn (c : Cn) (scope : Scope) : Cn := { c with sc := relN c.sc scope.names, cl := (scope.names.filter fun y => decide (y.2 = .cell)).map (·.1), lam := false }
/-- the body of a key: no defs, no classes -/
def Cn.lamc (c : Cn) (scope : Scope) : Cn := { c with sc := scope.names, cl := [], fs := [], ks := [], ms := [], lam := false }
def biName : BI → Str
  | .len => "len"
  | .abs => "abs"
  | .int => "int"
  | .min2 => "min"
  | .max2 => "max"
  | .ord => "ord"
  | .str => "str"
  | .divmod => "divmod"
  | .tupOf => "tuple"
  | .gcd => "gcd"
  | .min1 => "min"
def bmName : BM → Str
  | .append => "append"
  | .pop => "pop"
  | .get2 => "get"
  | .setdefault => "setdefault"
  | .extend => "extend"
  | .find2 => "find"
  | .zfill => "zfill"
def isTru : Expr → Bool
  | .UnaryOp .Not _ _ | .BoolOp _ _ _ | .IfExp _ _ _ _ | .Compare _ _ _ _ => false
  | _ => true
mutual
def okG (c : Cn) (g : G) (a : Expr) : Bool := match g with
  | .nm i => match a with
    | .Name x _ => decide (c.N[i]? = some x) && c.loc x
    | _ => false
  | .tup gs => match a with
    | .Tuple l _ _ => okGs c gs l
    | _ => false
def okGs (c : Cn) (gs : Gs) (l : List Expr) : Bool := match gs with
  | .nil => match l with
    | [] => true
    | _ => false
  | .cons g gs => match l with
    | a :: l => okG c g a && noStar a && okGs c gs l
    | _ => false
end
/-- a call of a built-in name upon one argument -/
def one (c : Cn) (x : Str) (a : Expr) (k : Expr → Bool) : Bool := match a with
  | .Call (.Name y _) [b] [] _ => decide (y = x) && c.blt x && noStar b && k b
  | _ => false
/-- sorted({.. for ..}) -/
def sortSetOf (c : Cn) (a : Expr) (k : Expr → Expr → Expr → List Expr → Scope → Bool) : Bool := match a with
  | .Call (.Name y _) [.SetComp elt [⟨tg, iter, ifs, isa⟩] scope _] [] _ => decide (y = "sorted") && c.blt "sorted" && decide (isa = 0) && k elt tg iter ifs scope
  | _ => false
mutual
def okE (c : Cn) (e : E) (a : Expr) : Bool := match e with
  | .cst d => (match a with
    | .Constant k _ _ => (match d with
      | .non => (match k with | .none => true | _ => false)
      | .bl b => (match k with | .bool b' => b == b' | _ => false)
      | .int i => (match k with | .int i' => decide (i = i') | _ => false)
      | .str l => (match k with | .str x => decide (x = S' l) | _ => false)
      | _ => false)
    | _ => false)
  | .gv x d => (match a with
    | .Name y _ => decide (x = y) && c.glo x && decide ((x, d) ∈ c.gs) && nmOk x
    | _ => false)
  | .gf _ _ => false
  | .var i => (match a with
    | .Name x _ => decide (c.N[i]? = some x) && c.vis x && nmOk x
    | _ => false)
  | .tup es => (match a with
    | .Tuple l _ _ => okEs c es l && decide (l.length ≤ 1000)
    | _ => false)
  | .neg e1 => (match a with
    | .UnaryOp .USub b _ => okE c e1 b
    | _ => false)
  | .not e1 => (match a with
    | .UnaryOp .Not b _ => okE c e1 b
    | _ => false)
  | .bop k es => (match a with
    | .BoolOp .And l _ => k && okEs c es l && !l.isEmpty
    | .BoolOp .Or l _ => !k && okEs c es l && !l.isEmpty
    | _ => false)
  | .bin o e1 e2 => (match a with
    | .BinOp a1 o' a2 _ => decide (o = o') && okE c e1 a1 && okE c e2 a2
    | _ => false)
  | .cmp o e1 e2 => (match a with
    | .Compare a1 [o'] [a2] _ => decide (o = o') && ((!decide (o = .In) && !decide (o = .NotIn)) || noSet a2) && okE c e1 a1 && okE c e2 a2
    | _ => false)
  | .chn o1 o2 e1 e2 e3 => (match a with
    | .Compare a1 [o1', o2'] [a2, a3] _ => decide (o1 = o1') && decide (o2 = o2') && !lastMarks [o1, o2] [a2, a3] && okE c e1 a1 && okE c e2 a2 && okE c e3 a3
    | _ => false)
  | .ite e1 e2 e3 => (match a with
    | .IfExp a1 a2 a3 _ => okE c e1 a1 && okE c e2 a2 && okE c e3 a3
    | _ => false)
  | .idx e1 e2 => (match a with
    | .Subscript a1 a2 _ => okE c e1 a1 && okE c e2 a2 && noSlice a2
    | _ => false)
  | .slc e1 lo hi => (match a with
    | .Subscript a1 (.Slice l h none _) _ => okE c e1 a1 && (match l with
        | none => lo.isN
        | some l => !lo.isN && okE c lo l) && (match h with
        | none => hi.isN
        | some h => !hi.isN && okE c hi h)
    | _ => false)
  | .call x f es => (match a with
    | .Call (.Name y _) args [] _ => decide (y = x) && c.glo x && decide (c.fs[f]? = some x) && nmOk x && !decide (x = "") && okEs c es args
    | _ => false)
  | .bi b es => (match a with
    | .Call (.Name y _) args [] _ => decide (y = biName b) && (if b = .gcd then c.gcd && c.glo "gcd" else c.blt (biName b)) && okEs c es args && !args.isEmpty
    | _ => false)
  | .bm m o es => (match a with
    | .Call (.Attribute ob nm apos) args [] cpos => decide (nm = bmName m) && okE c o ob && noCall ob && (apos.endLine == cpos.line) && okEs c es args && decide (args.length < 28)
    | _ => false)
  | .isi e1 t => (match a with
    | .Call (.Name y _) [b, .Name z _] [] _ => decide (y = "isinstance") && c.blt "isinstance" && decide (z = Str.ofString (tyName t)) && c.blt (Str.ofString (tyName t)) && okE c e1 b && noStar b
    | _ => false)
  | .fld o f => (match a with
    | .Attribute ob nm _ => decide (nm = f) && decide (f ∈ c.flds) && okE c o ob && noCall ob
    | _ => false)
  | .meth o m es => (match a with
    | .Call (.Attribute ob nm apos) args [] cpos => decide (nm = m) && decide (m ∈ c.ms) && okE c o ob && noCall ob && (apos.endLine == cpos.line) && okEs c es args && decide (args.length < 28)
    | _ => false)
  | .new x k es => (match a with
    | .Call (.Name y _) args [] _ => decide (y = x) && c.glo x && decide ((x, k) ∈ c.ks) && nmOk x && okEs c es args
    | _ => false)
  | .own l => okL c l a
  | .tupL l => one c "tuple" a fun b => okL c l b
  | .allL l => one c "all" a fun b => okL c l b
  | .anyL l => one c "any" a fun b => okL c l b
  | .sumL l => one c "sum" a fun b => okL c l b
  | .lenL l => one c "len" a fun b => okL c l b
  | .joinL o l => (match a with
    | .Call (.Attribute ob nm apos) [b] [] pos => decide (nm = "join") && okE c o ob && noCall ob && (apos.endLine == pos.line) && noStar b && okL c l b
    | _ => false)
  | .dnew _ => (match a with
    | .Dict [] [] _ => true
    | _ => false)
  | .dnew1 _ k v => (match a with
    | .Dict [some a1] [a2] _ => okE c k a1 && okE c v a2
    | _ => false)
def okEs (c : Cn) (es : Es) (l : List Expr) : Bool := match es with
  | .nil => (match l with
    | [] => true
    | _ => false)
  | .cons e es => (match l with
    | a :: l => okE c e a && noStar a && okEs c es l
    | _ => false)
def okT (c : Cn) (es : Es) (l : List Expr) : Bool := match es with
  | .nil => (match l with
    | [] => true
    | _ => false)
  | .cons e .nil => (match l with
    | [a] => okE c e a
    | _ => false)
  | .cons _ (.cons _ _) => false
def okL (c : Cn) (l : L) (a : Expr) : Bool := match l with
  | .disp es => (match a with
    | .List es' _ => okEs c es es' && decide (es'.length ≤ 1000)
    | _ => false)
  | .comp own elt g it cs => (match a with
    | .ListComp elt' [⟨tg, iter, ifs, isa⟩] scope _ => decide (isa = 0) && c.blkOk scope own && okIt c it tg iter && noSet iter && okG (c.inn scope) g tg && g.slots.all (fun i => decide (i ∈ own)) && okT (c.inn scope) cs ifs && okE (c.inn scope) elt elt'
    | _ => false)
  | .comp2 own own1 elt g it g1 it1 cs => (match a with
    | .ListComp elt' [⟨tg, iter, ifs0, isa⟩, ⟨tg1, iter1, ifs, isa1⟩] scope _ => decide (isa = 0) && decide (isa1 = 0) && ifs0.isEmpty && c.blkOk scope own && own1.all (fun i => decide (i ∈ own)) && okIt c it tg iter && noSet iter && okG (c.inn scope) g tg && g.slots.all (fun i => decide (i ∈ own)) &&
        okIt (c.inn scope) it1 tg1 iter1 && noSet iter1 && okG (c.inn scope) g1 tg1 && g1.slots.all (fun i => decide (i ∈ own1)) && okT (c.inn scope) cs ifs && okE (c.inn scope) elt elt'
    | _ => false)
  | .listOf e => one c "list" a fun b => okE c e b
  | .sortL l => one c "sorted" a fun b => okL c l b
  | .sortE e => one c "sorted" a fun b => okE c e b
  | .sortSC own elt g it cs => sortSetOf c a fun elt' tg iter ifs scope => c.blkOk scope own && okIt c it tg iter && noSet iter && okG (c.inn scope) g tg && g.slots.all (fun i => decide (i ∈ own)) && okT (c.inn scope) cs ifs && okE (c.inn scope) elt elt'
  | .slc e1 lo hi => (match a with
    | .Subscript a1 (.Slice l h none _) _ => okE c e1 a1 && (match l with
        | none => lo.isN
        | some l => !lo.isN && okE c lo l) && (match h with
        | none => hi.isN
        | some h => !hi.isN && okE c hi h)
    | _ => false)
  | .rep l1 e2 => (match a with
    | .BinOp a1 .Mult a2 _ => okL c l1 a1 && okE c e2 a2
    | _ => false)
  | .cat l1 l2 => (match a with
    | .BinOp a1 .Add a2 _ => okL c l1 a1 && okL c l2 a2
    | _ => false)
  | .catE e1 l2 => (match a with
    | .BinOp a1 .Add a2 _ => okE c e1 a1 && okL c l2 a2
    | _ => false)
  | .rev e1 => (match a with
    | .Subscript a1 (.Slice none none (some (.UnaryOp .USub (.Constant (.int i) _ _) _)) _) _ => decide (i = 1) && okE c e1 a1
    | _ => false)
  | .catEE e1 e2 => (match a with
    | .BinOp a1 .Add a2 _ => okE c e1 a1 && okE c e2 a2
    | _ => false)
  | .sortK t q e i k => (match a with
    | .Call (.Name y _) [a1] [⟨some nm, .Lambda ⟨[], [⟨x, none, _⟩], none, [], [], none, []⟩ body scope _, _⟩] _ => decide (y = "sorted") && decide (nm = "key") && c.blt "sorted" && noStar a1 && okE c e a1 && c.lam && decide (q = c.tq) && lamPB { scope with names := c.sc } scope x && decide (c.N[i]? = some x) && okE (c.lamc scope) k body
    | _ => false)
def okIt (c : Cn) (it : It) (tg a : Expr) : Bool := match it with
  | .ofE e => okE c e a
  | .ofL l => okL c l a
  | .rng1 e => one c "range" a fun b => okE c e b
  | .rng2 e1 e2 => (match a with
    | .Call (.Name y _) [b1, b2] [] _ => decide (y = "range") && c.blt "range" && noStar b1 && noStar b2 && okE c e1 b1 && okE c e2 b2
    | _ => false)
  | .rng3 e1 e2 e3 => (match a with
    | .Call (.Name y _) [b1, b2, b3] [] _ => decide (y = "range") && c.blt "range" && noStar b1 && noStar b2 && noStar b3 && okE c e1 b1 && okE c e2 b2 && okE c e3 b3
    | _ => false)
  | .enm e => (match tg with
    | .Tuple _ _ _ => one c "enumerate" a fun b => okE c e b
    | _ => false)
  | .zp _ _ => false
  | .items _ => false
  | .vals _ => false
end
/-- what is known of the classes -/
structure Kls (A : Ad) (T : Tab) (c : Cn) (X : Cx) : Prop where
  fl : ∀ f ∈ c.flds, ∀ i, A.okc i → Cls X.K (A.ca i) ∧ NoAttr X.K (A.ca i) f
  me : ∀ m ∈ c.ms, ∀ i f, T.meth i m = some f → A.okc i → Cls X.K (A.ca i) ∧ Meth X.K (A.ca i) m (A.fa f) ∧ FnAt A X (A.fa f) (T.cf f)
  mkk : ∀ x i, (x, i) ∈ c.ks → X.mg x = some (.ref (A.ca i)) ∧ ∃ f, T.init i = some f ∧ MkAt A X i (A.fa f) (T.cn f)
  gcd : c.gcd = true → X.mg "gcd" = some (.builtin "math.gcd")
/-- a block that stands -/
structure Sta (A : Ad) (T : Tab) (c : Cn) (X : Cx) : Prop where
  hK : A.K = X.K
  N : X.N = c.N
  nd : c.N.Nodup
  sc : X.env.scope.names = c.sc
  kind : X.env.scope.kind = .function
  calm : X.calm = true
  fn : ∀ x ∈ c.cl, X.fn x = true
  hu : X.A.units + 80 < cLine
  hr : c.lam = true → Room 3 X.A
  tab : c.lam = true → ∃ cc, LamX.TabB X.base X.mg cc (A.ta c.tq) ∧ X.env.code = .ref cc ∧ X.env.qual ++ "<lambda>" = S' c.tq
  hP : A.pr = X.prog
  hw : A.w = X.w
  free : ∀ x ∈ c.bs, X.mg x = none
  gv : ∀ x d, (x, d) ∈ c.gs → ∃ v u, X.mg x = some u ∧ RelV v u ∧ ∀ m H, RV A m H d v
  fun_ : ∀ (f : Nat) (x : Str), c.fs[f]? = some x → x ≠ "" → ∃ fd ps k, FnOk X.prog X.w X.K X.mg X.base (L2.CX X.prog X.w) k (A.fa f) fd ps (spF A ps.length (T.cf f)) ∧ Room k X.A ∧ X.mg x = some (.ref (A.fa f)) ∧ PySem.W.keepIn X.K (.ref (A.fa f)) = true ∧ Binds X.K fd ps [] ∧ ∀ ds S, T.cf f ds S ≠ .stuck → ds.length = ps.length
  cls : ∀ i x, c.cs[i]? = some x → X.mg x = some (.ref (A.ca i)) ∧ MkC X.K (A.ca i)
  kls : Kls A T c X
  isx : ∀ c' b m, T.isx c' m = some b → PySem.W.exmOne X.K (.ref (A.ca c')) (.ref (A.ca m)) = some b ∧ PySem.W.kitOne X.K (.ref (A.ca c')) (.ref (A.ca m)) = some b ∧ ExcC X.K (A.ca c')
/-- a def's own block -/
structure TopX (X : Cx) : Prop where
  stk : X.stack = X.env :: X.outer
  frm : X.env.frame = some X.env.locals
section
variable {A : Ad} {T : Tab} {c : Cn} {X : Cx} {W : WX}
theorem Sta.blk (h : Sta A T c X) {scope : Scope} (hk : scope.kind = .function) (hu : ∀ y ∈ scope.names, scope.names.lookup y.1 = some y.2) (s : Shared) (H : Hp) (C : Addr) (cl : List (Str × Addr)) (fp : List Addr) : Sta A T (c.inn scope) (X.blk s H scope (compEnvC scope cl C X.env) fp) :=
  ⟨h.hK, h.N, h.nd, (by
    show (relabel scope X.env).names = relN c.sc scope.names
    unfold relabel relN Env.kindOf
    rw [h.kind, h.sc]
    refine List.map_congr_left fun y _ => ?_
    obtain ⟨n, k⟩ := y
    cases k <;> rfl), hk, h.calm, fun x hx => (by
    obtain ⟨y, hy, rfl⟩ := List.mem_map.mp hx
    obtain ⟨h1, h2⟩ := List.mem_filter.mp hy
    rw [decide_eq_true_eq] at h2
    show (scope.names.lookup y.1 == some .cell) = true
    rw [hu y h1, h2]
    rfl), h.hu, (fun z => nomatch z), (fun z => nomatch z), h.hP, h.hw, h.free, h.gv, h.fun_, h.cls, ⟨h.kls.fl, h.kls.me, h.kls.mkk, h.kls.gcd⟩, h.isx⟩
theorem Sta.tr (h : Sta A T c X) (pn : List (Addr × Obj)) (xe : Value → Shared → Prop) : Sta A T c (X.tr pn xe) :=
  ⟨h.hK, h.N, h.nd, h.sc, h.kind, h.calm, h.fn, h.hu, h.hr, h.tab, h.hP, h.hw, h.free, h.gv, h.fun_, h.cls, ⟨h.kls.fl, h.kls.me, h.kls.mkk, h.kls.gcd⟩, h.isx⟩
theorem Sta.gl (h : Sta A T c X) {x : Str} (hx : c.glo x = true) : Gl X x := by
  unfold Cn.glo at hx
  show X.env.scope.names.lookup x = _
  rw [h.sc]
  split at hx
  · assumption
  · cases hx
theorem Sta.blt (h : Sta A T c X) {x : Str} (hx : c.blt x = true) : Gl X x ∧ X.mg x = none := by
  unfold Cn.blt at hx
  rw [Bool.and_eq_true, decide_eq_true_eq] at hx
  exact ⟨h.gl hx.1, h.free x hx.2⟩
theorem Sta.vis (h : Sta A T c X) {x : Str} (hx : c.vis x = true) : Vis X.env.scope x := by
  unfold Cn.vis at hx
  unfold Vis
  rw [h.sc]
  split at hx
  · exact .inl ‹_›
  · exact .inr (.inl ‹_›)
  · exact .inr (.inr ‹_›)
  · cases hx
theorem Sta.loc (h : Sta A T c X) {x : Str} (hx : c.loc x = true) : L2.Loc X.env.scope x ∧ (X.fn x = true ∨ X.env.scope.names.lookup x = some .local) := by
  unfold Cn.loc at hx
  unfold L2.Loc
  rw [h.sc]
  split at hx
  · exact ⟨.inl ‹_›, .inr ‹_›⟩
  · exact ⟨.inr ‹_›, .inl (h.fn x (of_decide_eq_true hx))⟩
  · cases hx
theorem nmOk_iff {x : Str} (h : nmOk x = true) : (x == ("__debug__" : Str)) = false ∧ (x == ("__classdict__" : Str)) = false ∧ x ≠ "__name__" := by
  unfold nmOk at h
  simp only [Bool.and_eq_true, Bool.not_eq_true', decide_eq_false_iff_not] at h
  exact ⟨h.1.1, h.1.2, h.2⟩
/-- the own names with their slots -/
def ownL (c : Cn) (own : List Nat) : List (Str × Nat) := own.map fun i => (c.N.getD i "", i)
theorem ownL_snd (own : List Nat) : (ownL c own).map (·.2) = own := by
  unfold ownL
  rw [List.map_map]
  exact List.map_id own
theorem Sta.blkOk (h : Sta A T c X) {scope : Scope} {own : List Nat} (hb : c.blkOk scope own = true) : BlkOk X.N X.env.scope scope (ownL c own) ∧ scope.kind = .function ∧ ∀ y ∈ scope.names, scope.names.lookup y.1 = some y.2 := by
  unfold Cn.blkOk at hb
  simp only [Bool.and_eq_true, List.all_eq_true, decide_eq_true_eq, Bool.or_eq_true, Bool.not_eq_true', decide_eq_false_iff_not, List.any_eq_true, Bool.or_eq_false_iff] at hb
  obtain ⟨⟨⟨⟨h1, h2⟩, h3⟩, h4⟩, h5⟩ := hb
  refine ⟨⟨h1, h2, fun p hp => ?_, fun y hy e => ?_, fun y hy e => ?_⟩, h1, h2⟩
  · obtain ⟨i, hi, rfl⟩ := List.mem_map.mp hp
    have := h3 i hi
    rw [h.N]
    show c.N[i]? = some (c.N.getD i "")
    rw [List.getD_eq_getElem?_getD, List.getElem?_eq_getElem this]
    rfl
  · rw [h.sc]
    rcases h4 y hy with k | k
    · exact absurd e k
    · split at k
      · exact .inl ‹_›
      · exact .inr ‹_›
      · cases k
  · rw [h.N]
    rcases h5 y hy with (k | k) | k
    · rcases e with e | e
      · exact absurd e k.1
      · exact absurd e k.2
    · obtain ⟨i, hi, e2⟩ := k
      refine .inl (List.mem_map.mpr ⟨(c.N.getD i "", i), List.mem_map.mpr ⟨i, hi, rfl⟩, ?_⟩)
      show c.N.getD i "" = y.1
      rw [List.getD_eq_getElem?_getD, e2]
      rfl
    · exact .inr k
theorem Sta.lamP (h : Sta A T c X) {scope : Scope} {x : Str} (hb : lamPB { scope with names := c.sc } scope x = true) : LamP X.env.scope scope x := by
  have L := lamP_by hb
  exact ⟨L.kind, L.co, L.gen, L.par, L.own, L.noc, fun y hy e => by rw [h.sc]; exact L.free y hy e⟩
/-- the body of a key stands -/
theorem Sta.key (h : Sta A T c X) {scope : Scope} {x : Str} (L : LamP X.env.scope scope x) (hr : Room 3 X.A) (s : Shared) (H : Hp) (f c' : Addr) : Sta A T (c.lamc scope) (LamX.lamCx X X.A.in1.in1 X.stack s H (fun _ _ _ => False) scope f c') :=
  ⟨h.hK, h.N, h.nd, rfl, L.kind, rfl, fun x hx => (nomatch hx), (by have := hr.un; show X.A.units + 1 + 1 + 3 + 80 < cLine; omega), (fun z => nomatch z), (fun z => nomatch z), h.hP, h.hw, h.free, h.gv, fun f x hx => (by
    have hx : ([] : List Str)[f]? = some x := hx
    simp at hx), h.cls, ⟨h.kls.fl, fun m hm => (nomatch hm), fun x i hx => (nomatch hx), h.kls.gcd⟩, h.isx⟩
end
end PL

set_option Elab.async false
set_option linter.all false
set_option maxRecDepth 100000
set_option maxHeartbeats 2000000
/-! PL14: what passes the check stands for what it computes: expressions. -/
namespace PL
open PySem PySem.Spec PyProof.Rows L2
section
variable {A : Ad} {T : Tab} {c : Cn} {X : Cx} {W : WX}
theorem PW.pt {e : Expr} {t : TT} (h : PW X e t) : PT X e t := ⟨fun pins s σ H Q I q => h.run _ pins s σ H Q I q⟩
theorem okEs_star : ∀ {es : Es} {l : List Expr}, okEs c es l = true → l.all noStar = true
  | .nil, [], _ => rfl
  | .nil, _ :: _, h => by simp [okEs] at h
  | .cons _ _, [], h => by simp [okEs] at h
  | .cons e es, a :: l, h => by
    simp only [okEs, Bool.and_eq_true] at h
    rw [List.all_cons, Bool.and_eq_true]
    exact ⟨h.1.2, okEs_star h.2⟩
theorem okEs_len : ∀ {es : Es} {l : List Expr}, okEs c es l = true → ∀ ρ S ds S1, evEs T es ρ S = .ok ds S1 → ds.length = l.length
  | .nil, [], _, ρ, S, ds, S1, h => by
    simp only [evEs] at h
    cases h
    rfl
  | .nil, _ :: _, h, _, _, _, _, _ => by simp [okEs] at h
  | .cons _ _, [], h, _, _, _, _, _ => by simp [okEs] at h
  | .cons e es, a :: l, h, ρ, S, ds, S1, q => by
    simp only [okEs, Bool.and_eq_true] at h
    simp only [evEs] at q
    cases q1 : evE T e ρ S with
    | stuck => rw [q1] at q; cases q
    | exc _ _ _ => rw [q1] at q; cases q
    | ok x S2 =>
      rw [q1] at q
      simp only [R.bind_ok] at q
      cases q2 : evEs T es ρ S2 with
      | stuck => rw [q2] at q; cases q
      | exc _ _ _ => rw [q2] at q; cases q
      | ok xs S3 =>
        rw [q2] at q
        cases q
        rw [List.length_cons, List.length_cons, okEs_len h.2 _ _ _ _ q2]
/-- a built-in function, answered -/
theorem bi_ok (h : Sta A T c X) (b : BI) (ng : b ≠ .gcd) : ∃ (v : Value) (r : List V → Hp → VK → Prop), CallR X v r ∧ CaS A r (biD b) ∧ ((∃ id, v = .builtin id) ∨ ∃ t, v = .type t) ∧ bootBuiltins (biName b) = some v := by
  cases b with
  | len => obtain ⟨r, h1, h2⟩ := len_ok (A := A) (X := X) h.hK; exact ⟨_, r, h1, h2, .inl ⟨_, rfl⟩, by rfl⟩
  | abs => obtain ⟨r, h1, h2⟩ := abs_ok (A := A) (X := X); exact ⟨_, r, h1, h2, .inl ⟨_, rfl⟩, by rfl⟩
  | int => obtain ⟨r, h1, h2⟩ := int_ok (A := A) (X := X); exact ⟨_, r, h1, h2, .inr ⟨_, rfl⟩, by rfl⟩
  | min2 => obtain ⟨r, h1, h2⟩ := min2_ok (A := A) h.hK h.calm (by have := h.hu; omega); exact ⟨_, r, h1, h2, .inl ⟨_, rfl⟩, by rfl⟩
  | max2 => obtain ⟨r, h1, h2⟩ := max2_ok (A := A) h.hK h.calm (by have := h.hu; omega); exact ⟨_, r, h1, h2, .inl ⟨_, rfl⟩, by rfl⟩
  | ord => obtain ⟨r, h1, h2⟩ := ord_ok (A := A) (X := X); exact ⟨_, r, h1, h2, .inl ⟨_, rfl⟩, by rfl⟩
  | str => obtain ⟨r, h1, h2⟩ := str_ok (A := A) (X := X); exact ⟨_, r, h1, h2, .inr ⟨_, rfl⟩, by rfl⟩
  | divmod => obtain ⟨r, h1, h2⟩ := divmod_ok (A := A) (X := X); exact ⟨_, r, h1, h2, .inl ⟨_, rfl⟩, by rfl⟩
  | tupOf => obtain ⟨r, h1, h2⟩ := tupOf_ok (A := A) h.hK; exact ⟨_, r, h1, h2, .inr ⟨_, rfl⟩, by rfl⟩
  | gcd => exact absurd rfl ng
  | min1 => obtain ⟨r, h1, h2⟩ := min1_ok (A := A) h.hK h.calm (by have := h.hu; omega); exact ⟨_, r, h1, h2, .inl ⟨_, rfl⟩, by rfl⟩
theorem bi_nm (b : BI) : biName b ≠ "__name__" ∧ (biName b == ("__debug__" : Str)) = false := by cases b <;> exact ⟨by decide, by decide⟩
theorem se_bi (h : Sta A T c X) {b : BI} {e : Expr} {es : List Expr} {fes : Env → Sto → R (List D)} {p pos : Pos} (hb : (if b = .gcd then c.gcd && c.glo "gcd" else c.blt (biName b)) = true) (ha : SA A W X (e :: es) fes) (hs : (e :: es).all noStar = true) :
    SE A W X (.Call (.Name (biName b) p) (e :: es) [] pos) (fun ρ S => (fes ρ S).bind fun ds S1 => ofOpt (biD b ds S1) S1) := by
  have hs' := hs
  rw [List.all_cons, Bool.and_eq_true] at hs'
  by_cases ng : b = .gcd
  · subst ng
    rw [if_pos rfl, Bool.and_eq_true] at hb
    obtain ⟨r, k1, k2⟩ := gcd_ok (A := A) (X := X)
    refine (pe_callBfun k1 (h.gl hb.2) (h.kls.gcd hb.1) ha (by decide) (star_cons hs'.1) (star_back hs'.2)).imp fun σ H Q ⟨m, ρ, S, rs, re, p⟩ => ?_
    refine ⟨m, ρ, S, rs, re, p.bind anE fun ds S1 m1 H1 vs x1 rs1 rv1 p1 => ?_⟩
    cases q : biD .gcd ds S1 with
    | none => rw [q] at p1; exact p1.elim
    | some z => rw [q] at p1; exact k2 m1 S1 H1 ds vs z Q rs1 rv1 q p1
  rw [if_neg ng] at hb
  obtain ⟨v, r, h1, h2, h3, h4⟩ := bi_ok h b ng
  obtain ⟨g, m⟩ := h.blt hb
  rcases h3 with ⟨id, rfl⟩ | ⟨t, rfl⟩
  · exact se_callB h1 h2 g m h4 ha (bi_nm b).1 (bi_nm b).2 (star_cons hs'.1) (star_back hs'.2)
  · exact se_callTy h1 h2 g m h4 ha (bi_nm b).1 (bi_nm b).2 (star_cons hs'.1) (star_back hs'.2)
/-- a built-in method, answered -/
theorem se_bmd (h : Sta A T c X) {m : BM} {o : Expr} {es : List Expr} {fo : Env → Sto → R D} {fes : Env → Sto → R (List D)} {apos cpos : Pos} (ho : SE A W X o fo) (ha : SA A W X es fes) (hs : es.all noStar = true) (hl : es.length < 28) (hb : noCall o = true) (hline : (apos.endLine == cpos.line) = true)
    (h0 : es = [] → ∀ ρ S, fes ρ S = .ok [] S) :
    SE A W X (.Call (.Attribute o (bmName m) apos) es [] cpos) (fun ρ S => (fo ρ S).bind fun x S1 => if recvOk m x S1 then (fes ρ S1).bind fun ds S2 => bmD m x ds S2 else .stuck) := by
  have go : ∀ {id : String} {T' : String} {r : V → List V → Hp → VK → Prop}, PlainAttrs T' → Slot T' (bmName m) id → typeOf (.builtin id) = pure (.type "method_descriptor") → MtR X id r → BmS A r (bmD m) → T' = bmT m →
      SE A W X (.Call (.Attribute o (bmName m) apos) es [] cpos) (fun ρ S => (fo ρ S).bind fun x S1 => if recvOk m x S1 then (fes ρ S1).bind fun ds S2 => bmD m x ds S2 else .stuck) := fun {id T' r} pa sl ty mt bs eT => by
    cases es with
    | nil =>
      have e : (fun ρ S => (fo ρ S).bind fun x S1 => if recvOk m x S1 then (fes ρ S1).bind fun ds S2 => bmD m x ds S2 else .stuck) = (fun ρ S => (fo ρ S).bind fun x S1 => if recvOk m x S1 then bmD m x [] S1 else .stuck) := by
        funext ρ S
        congr 1
        funext x S1
        rw [h0 rfl ρ S1]
        rfl
      rw [e]
      exact se_bm0 h.hK h.hP h.hw pa sl ty mt bs (bm_noexc m) eT ho (base_ok hb) hline
    | cons e es =>
      have hs' := hs
      rw [List.all_cons, Bool.and_eq_true] at hs'
      exact se_bm h.hK h.hP h.hw pa sl ty mt bs (bm_noexc m) eT ho ha (base_ok hb) (star_few hs (by rw [List.length_cons] at hl; omega)) hline (star_cons hs'.1) (star_back hs'.2)
  have hu16 : X.A.units + 16 < cLine := by have := h.hu; omega
  cases m with
  | append => exact go F.plainAttrs_list F.slot_list_append F.type_list_append mt_append append_ok rfl
  | pop => exact go F.plainAttrs_list F.slot_list_pop F.type_list_pop mt_pop pop_ok rfl
  | extend => exact go F.plainAttrs_list F.slot_list_extend F.type_list_extend mt_extend extend_ok rfl
  | find2 => exact go F.plainAttrs_str F.slot_str_find F.type_str_find mt_find3 find2_ok rfl
  | zfill => exact go F.plainAttrs_str F.slot_str_zfill F.type_str_zfill mt_zfill zfill_ok rfl
  | get2 => exact go F.plainAttrs_dict F.slot_dict_get F.type_dict_get (mt_get2 hu16) (get2_ok h.hK h.hP h.hw) rfl
  | setdefault => exact go F.plainAttrs_dict F.slot_dict_setdefault F.type_dict_setdefault (mt_setd hu16) (setd_ok h.hK h.hP h.hw) rfl
theorem sp_of {o : Option Expr} {lo : E} (hh : (match o with | none => lo.isN | some l => !lo.isN && okE c lo l) = true) (ih : ∀ {l}, okE c lo l = true → SE A W X l (evE T lo)) : SPt A W X o (fun ρ S => if lo.isN then .ok none S else (evE T lo ρ S).bind partR) := by
  cases o with
  | none =>
    have hh : lo.isN = true := hh
    simp only [hh, if_true]
    exact sp_none
  | some l =>
    have hh : (!lo.isN && okE c lo l) = true := hh
    rw [Bool.and_eq_true, Bool.not_eq_true'] at hh
    simp only [hh.1, Bool.false_eq_true, if_false]
    exact sp_some (ih hh.2)
end
end PL

set_option Elab.async false
set_option linter.all false
set_option maxRecDepth 100000
set_option maxHeartbeats 4000000
/-! PL15: what passes the check stands for what it computes: expressions, all of them. -/
namespace PL
open PySem PySem.Spec PyProof.Rows L2
section
variable {A : Ad} {T : Tab}
theorem one_ok {c : Cn} {x : Str} {a : Expr} {k : Expr → Bool} (h : one c x a k = true) : ∃ p b pos, a = .Call (.Name x p) [b] [] pos ∧ c.blt x = true ∧ noStar b = true ∧ k b = true := by
  unfold one at h
  split at h
  · simp only [Bool.and_eq_true, decide_eq_true_eq] at h
    obtain ⟨⟨⟨rfl, h2⟩, h3⟩, h4⟩ := h
    exact ⟨_, _, _, rfl, h2, h3, h4⟩
  · cases h
theorem sortSetOf_ok {c : Cn} {a : Expr} {k : Expr → Expr → Expr → List Expr → Scope → Bool} (h : sortSetOf c a k = true) : ∃ p elt tg iter ifs scope p2 pos, a = .Call (.Name "sorted" p) [.SetComp elt [⟨tg, iter, ifs, 0⟩] scope p2] [] pos ∧ c.blt "sorted" = true ∧ k elt tg iter ifs scope = true := by
  unfold sortSetOf at h
  split at h
  · simp only [Bool.and_eq_true, decide_eq_true_eq] at h
    obtain ⟨⟨⟨rfl, h2⟩, rfl⟩, h4⟩ := h
    exact ⟨_, _, _, _, _, _, _, _, rfl, h2, h4⟩
  · cases h
mutual
theorem soundG : ∀ (g : G) {c : Cn} {X : Cx} {a : Expr}, Sta A T c X → okG c g a = true → PG X a (tGo A g)
  | .nm i, c, X, a, h, ok => by
    simp only [okG] at ok
    split at ok
    · simp only [Bool.and_eq_true, decide_eq_true_eq] at ok
      have hl := h.loc ok.2
      exact sg_nm (by rw [h.N]; exact h.nd) (by rw [h.N]; exact ok.1) hl.1 hl.2
    · cases ok
  | .tup gs, c, X, a, h, ok => by
    simp only [okG] at ok
    split at ok
    · have hh := soundGs gs h ok
      exact sg_tup h.hK h.calm hh.1 hh.2.1 hh.2.2
    · cases ok
theorem soundGs : ∀ (g : Gs) {c : Cn} {X : Cx} {l : List Expr}, Sta A T c X → okGs c g l = true → PGs X l (tGos A g) ∧ (assignEach l X.env).length = g.len ∧ (assignEach l X.env).findIdx? (·.1) = none
  | .nil, c, X, l, h, ok => by
    simp only [okGs] at ok
    split at ok
    · exact ⟨sgs_nil, rfl, rfl⟩
    · cases ok
  | .cons g gs, c, X, l, h, ok => by
    simp only [okGs] at ok
    split at ok
    · simp only [Bool.and_eq_true] at ok
      have h1 := soundG g h ok.1.1
      have h2 := soundGs gs h ok.2
      have e := asg_cons (env := X.env) (es := ‹List Expr›) ok.1.2
      refine ⟨sgs_cons h1 h2.1 (by rw [e]; rfl), by rw [e, List.length_cons, h2.2.1]; rfl, ?_⟩
      rw [e, List.findIdx?_cons]
      simp only [Bool.false_eq_true, if_false]
      rw [h2.2.2]
      rfl
    · cases ok
end
end
section
variable {A : Ad} {T : Tab}
theorem pl {c : Cn} {X : Cx} {W : WX} {a : Expr} {f : Env → Sto → R D} (h : Sta A T c X) (hp : isTru a = true) (q : SE A W X a f) : SE A W X a f ∧ SB A W X a (tru f) := ⟨q, sb_plain h.hK q (true_plain hp)⟩
theorem one_plain {c : Cn} {x : Str} {a : Expr} {k : Expr → Bool} (h : one c x a k = true) : isTru a = true := by
  obtain ⟨p, b, pos, rfl, _⟩ := one_ok h
  rfl
theorem okL_plain {c : Cn} {l : L} {a : Expr} (h : okL c l a = true) : isTru a = true := by
  cases l <;> simp only [okL] at h <;> first
    | exact one_plain h
    | (obtain ⟨p, elt', tg, iter, ifs, scope, p2, pos, rfl, _, _⟩ := sortSetOf_ok h; rfl)
    | (split at h <;> first | rfl | cases h)
    | cases h
mutual
theorem soundE : ∀ (e : E) {c : Cn} {X : Cx} {W : WX} {a : Expr}, Sta A T c X → Takes X W → okE c e a = true → SE A W X a (evE T e) ∧ SB A W X a (tru (evE T e))
  | .cst d, c, X, W, a, h, tk, ok => by
    simp only [okE] at ok
    split at ok
    · split at ok
      · split at ok
        · refine pl h rfl ?_
          exact se_non
        · cases ok
      · split at ok
        · obtain rfl := beq_iff_eq.mp ok
          refine pl h rfl ?_
          exact se_bl
        · cases ok
      · split at ok
        · obtain rfl := of_decide_eq_true ok
          refine pl h rfl ?_
          exact se_int
        · cases ok
      · split at ok
        · refine pl h rfl ?_
          exact se_str (of_decide_eq_true ok)
        · cases ok
      · cases ok
    · cases ok
  | .gv x d, c, X, W, a, h, tk, ok => by
    simp only [okE] at ok
    split at ok
    · simp only [Bool.and_eq_true, decide_eq_true_eq] at ok
      obtain ⟨⟨⟨rfl, h2⟩, h3⟩, h4⟩ := ok
      obtain ⟨v, u, e1, e2, e3⟩ := h.gv _ _ h3
      refine pl h rfl ?_
      exact se_gv (h.gl h2) e1 e2 e3 (nmOk_iff h4).1
    · cases ok
  | .gf x f, c, X, W, a, h, tk, ok => by simp [okE] at ok
  | .var i, c, X, W, a, h, tk, ok => by
    simp only [okE] at ok
    split at ok
    · simp only [Bool.and_eq_true, decide_eq_true_eq] at ok
      have n := nmOk_iff ok.2
      refine pl h rfl ?_
      exact se_var (by rw [h.N]; exact ok.1.1) (h.vis ok.1.2) n.1 n.2.1
    · cases ok
  | .tup es, c, X, W, a, h, tk, ok => by
    simp only [okE] at ok
    split at ok
    · simp only [Bool.and_eq_true, decide_eq_true_eq] at ok
      refine pl h rfl ?_
      exact se_tup (soundEs es h tk ok.1) fun ρ S ds S1 q => by rw [okEs_len ok.1 ρ S ds S1 q]; exact ok.2
    · cases ok
  | .neg e1, c, X, W, a, h, tk, ok => by
    simp only [okE] at ok
    split at ok
    · refine pl h rfl ?_
      exact se_neg (soundE e1 h tk ok).1
    · cases ok
  | .not e1, c, X, W, a, h, tk, ok => by
    simp only [okE] at ok
    split at ok
    · have q := soundE e1 h tk ok
      exact ⟨se_not h.hK q.1, sb_not q.2⟩
    · cases ok
  | .bop k es, c, X, W, a, h, tk, ok => by
    simp only [okE] at ok
    split at ok
    · simp only [Bool.and_eq_true, Bool.not_eq_true'] at ok
      obtain ⟨⟨rfl, h2⟩, h3⟩ := ok
      have q := (soundB es h tk h2 (by intro e; rw [e] at h3; cases h3) (pos := ‹Pos›)).1
      exact ⟨q.1, PW.pt q.2⟩
    · simp only [Bool.and_eq_true, Bool.not_eq_true'] at ok
      obtain ⟨⟨rfl, h2⟩, h3⟩ := ok
      have q := (soundB es h tk h2 (by intro e; rw [e] at h3; cases h3) (pos := ‹Pos›)).2
      exact ⟨q.1, PW.pt q.2⟩
    · cases ok
  | .bin o e1 e2, c, X, W, a, h, tk, ok => by
    simp only [okE] at ok
    split at ok
    · simp only [Bool.and_eq_true, decide_eq_true_eq] at ok
      obtain ⟨⟨rfl, h1⟩, h2⟩ := ok
      obtain ⟨r, k1, k2⟩ := bin_ok (A := A) h.hK o
      refine pl h rfl ?_
      exact se_op k1 k2 (soundE e1 h tk h1).1 (soundE e2 h tk h2).1
    · cases ok
  | .cmp o e1 e2, c, X, W, a, h, tk, ok => by
    simp only [okE] at ok
    split at ok
    · simp only [Bool.and_eq_true, Bool.or_eq_true, decide_eq_true_eq, Bool.not_eq_true', decide_eq_false_iff_not] at ok
      obtain ⟨⟨⟨rfl, n1⟩, h1⟩, h2⟩ := ok
      have q1 := (soundE e1 h tk h1).1
      have q2 := (soundE e2 h tk h2).1
      by_cases hi : o = .In
      · subst hi
        have hm := n1.resolve_left fun z => z.1 rfl
        obtain ⟨r, k1, k2⟩ := in_ok (A := A) h.hK h.hP h.hw (by have := h.hu; omega)
        exact ⟨se_cmpS k1 k2 (no_marks hm) q1 q2 (pos := ‹Pos›), sb_cmpS k1 k2 (no_marks hm) q1 q2 (pos := ‹Pos›)⟩
      · by_cases hn : o = .NotIn
        · subst hn
          have hm := n1.resolve_left fun z => z.2 rfl
          obtain ⟨r, k1, k2⟩ := notIn_ok (A := A) h.hK h.hP h.hw (by have := h.hu; omega)
          exact ⟨se_cmpS k1 k2 (no_marks hm) q1 q2 (pos := ‹Pos›), sb_cmpS k1 k2 (no_marks hm) q1 q2 (pos := ‹Pos›)⟩
        · obtain ⟨r, k1, k2⟩ := cmp_ok (A := A) h.hK (by have := h.hu; omega) o
          have q := se_cmp k1 k2 (nomark _ hi hn) q1 q2 (pos := ‹Pos›)
          have r := sb_cmp k1 k2 (nomark _ hi hn) q1 q2 (pos := ‹Pos›)
          cases o <;> first | exact ⟨q, r⟩ | exact absurd rfl hi | exact absurd rfl hn
    · cases ok
  | .chn o1 o2 e1 e2 e3, c, X, W, a, h, tk, ok => by
    simp only [okE] at ok
    split at ok
    · simp only [Bool.and_eq_true, decide_eq_true_eq, Bool.not_eq_true'] at ok
      obtain ⟨⟨⟨⟨⟨rfl, rfl⟩, h1⟩, h2⟩, h3⟩, h4⟩ := ok
      have q1 := (soundE e1 h tk h2).1
      have q2 := (soundE e2 h tk h3).1
      have q3 := (soundE e3 h tk h4).1
      exact ⟨se_chn h.hK (by have := h.hu; omega) o1 o2 q1 q2 q3 h1, sb_chn h.hK (by have := h.hu; omega) o1 o2 q1 q2 q3 h1⟩
    · cases ok
  | .ite e1 e2 e3, c, X, W, a, h, tk, ok => by
    simp only [okE] at ok
    split at ok
    · simp only [Bool.and_eq_true] at ok
      have q1 := soundE e1 h tk ok.1.1
      have q2 := soundE e2 h tk ok.1.2
      have q3 := soundE e3 h tk ok.2
      exact ⟨se_ite q1.2 q2.1 q3.1, sb_ite q1.2 q2.2 q3.2⟩
    · cases ok
  | .idx e1 e2, c, X, W, a, h, tk, ok => by
    simp only [okE] at ok
    split at ok
    · simp only [Bool.and_eq_true] at ok
      refine pl h rfl ?_
      exact se_idx h.hK h.hP h.hw (by have := h.hu; omega) (plainIx ok.2) (soundE e1 h tk ok.1.1).1 (soundE e2 h tk ok.1.2).1
    · cases ok
  | .slc e1 lo hi, c, X, W, a, h, tk, ok => by
    simp only [okE] at ok
    split at ok
    · simp only [Bool.and_eq_true] at ok
      refine pl h rfl ?_
      exact se_slc h.hK (soundE e1 h tk ok.1.1).1 (sp_of ok.1.2 fun q => (soundE lo h tk q).1) (sp_of ok.2 fun q => (soundE hi h tk q).1)
    · cases ok
  | .call x f es, c, X, W, a, h, tk, ok => by
    simp only [okE] at ok
    split at ok
    · simp only [Bool.and_eq_true, decide_eq_true_eq, Bool.not_eq_true'] at ok
      obtain ⟨⟨⟨⟨⟨rfl, h1⟩, h2⟩, h3⟩, h0⟩, h4⟩ := ok
      obtain ⟨fd, ps, k, F, hr, hm, hk, hb, hl⟩ := h.fun_ _ _ h2 (by simpa using h0)
      have hs := okEs_star h4
      rename_i args _
      cases args with
      | nil =>
        refine pl h rfl ?_
        cases es with
        | cons _ _ => simp [okEs] at h4
        | nil => exact se_call0 tk ⟨fd, ps, k, F, hr, hb, hl⟩ (h.gl h1) hm hk (nmOk_iff h3).1
      | cons b bs =>
        rw [List.all_cons, Bool.and_eq_true] at hs
        refine pl h rfl ?_
        exact se_call F hl hr (h.gl h1) hm hk hb tk (soundEs es h tk h4) (nmOk_iff h3).1 (star_cons hs.1) (star_back hs.2)
    · cases ok
  | .bi b es, c, X, W, a, h, tk, ok => by
    simp only [okE] at ok
    split at ok
    · simp only [Bool.and_eq_true, decide_eq_true_eq, Bool.not_eq_true'] at ok
      obtain ⟨⟨⟨rfl, h2⟩, h3⟩, h4⟩ := ok
      have hs := okEs_star h3
      rename_i args _
      cases args with
      | nil => cases h4
      | cons b bs =>
        refine pl h rfl ?_
        exact se_bi h h2 (soundEs es h tk h3) hs
    · cases ok
  | .bm m o es, c, X, W, a, h, tk, ok => by
    simp only [okE] at ok
    split at ok
    · simp only [Bool.and_eq_true, decide_eq_true_eq] at ok
      obtain ⟨⟨⟨⟨⟨rfl, h2⟩, h3⟩, h4⟩, h5⟩, h6⟩ := ok
      refine pl h rfl ?_
      refine se_bmd h (soundE o h tk h2).1 (soundEs es h tk h5) (okEs_star h5) h6 h3 h4 fun e ρ S => ?_
      subst e
      cases es with
      | nil => rfl
      | cons _ _ => simp [okEs] at h5
    · cases ok
  | .isi e1 t, c, X, W, a, h, tk, ok => by
    simp only [okE] at ok
    split at ok
    · simp only [Bool.and_eq_true, decide_eq_true_eq] at ok
      obtain ⟨⟨⟨⟨⟨rfl, h1⟩, rfl⟩, h2⟩, h3⟩, h4⟩ := ok
      have b1 := h.blt h1
      have b2 := h.blt h2
      refine pl h rfl ?_
      exact se_isi h.hK b1.1 b1.2 (by rfl) b2.1 b2.2 (by cases t <;> rfl) (soundE e1 h tk h3).1 (by decide) (by decide) (by cases t <;> decide) (by cases t <;> decide) (star_cons h4)
    · cases ok
  | .fld o f, c, X, W, a, h, tk, ok => by
    simp only [okE] at ok
    split at ok
    · simp only [Bool.and_eq_true, decide_eq_true_eq] at ok
      obtain ⟨⟨⟨rfl, h2⟩, h3⟩, h4⟩ := ok
      refine pl h rfl ?_
      exact se_fld (h.kls.fl _ h2) (soundE o h tk h3).1 (base_ok h4)
    · cases ok
  | .meth o m es, c, X, W, a, h, tk, ok => by
    simp only [okE] at ok
    split at ok
    · simp only [Bool.and_eq_true, decide_eq_true_eq] at ok
      obtain ⟨⟨⟨⟨⟨⟨rfl, hms⟩, h2⟩, h3⟩, h4⟩, h5⟩, h6⟩ := ok
      have hs := okEs_star h5
      rename_i args _
      cases args with
      | nil =>
        refine pl h rfl ?_
        cases es with
        | cons _ _ => simp [okEs] at h5
        | nil => exact se_meth0 tk (fun c f hf oc => h.kls.me _ hms _ _ hf oc) (soundE o h tk h2).1 (base_ok h3) h4
      | cons b bs =>
        have hs' := hs
        rw [List.all_cons, Bool.and_eq_true] at hs'
        refine pl h rfl ?_
        exact se_meth tk (fun c f hf oc => h.kls.me _ hms _ _ hf oc) (soundE o h tk h2).1 (soundEs es h tk h5) (base_ok h3) (star_few hs (by rw [List.length_cons] at h6; omega)) h4 (star_cons hs'.1) (star_back hs'.2)
    · cases ok
  | .new x k es, c, X, W, a, h, tk, ok => by
    simp only [okE] at ok
    split at ok
    · simp only [Bool.and_eq_true, decide_eq_true_eq] at ok
      obtain ⟨⟨⟨⟨rfl, h1⟩, h2⟩, h3⟩, h4⟩ := ok
      have hs := okEs_star h4
      rename_i y _ args _
      obtain ⟨hm, f, e, M⟩ := h.kls.mkk _ _ h2
      have ef : evE T (.new y k es) = fun ρ S => (evEs T es ρ S).bind (newR (T.cn f) k) := by
        funext ρ S
        simp only [evE, e]
        rfl
      rw [ef]
      refine pl h rfl ?_
      cases args with
      | nil =>
        cases es with
        | cons _ _ => simp [okEs] at h4
        | nil => exact se_new0 tk M (h.gl h1) hm (nmOk_iff h3).1
      | cons b bs =>
        rw [List.all_cons, Bool.and_eq_true] at hs
        exact se_new tk M (h.gl h1) hm (soundEs es h tk h4) (nmOk_iff h3).1 (star_cons hs.1) (star_back hs.2)
    · cases ok
  | .own l, c, X, W, a, h, tk, ok => by
    simp only [okE] at ok
    refine pl h (okL_plain ok) ?_
    exact se_own (soundL l h tk ok)
  | .tupL l, c, X, W, a, h, tk, ok => by
    simp only [okE] at ok
    obtain ⟨p, b, pos, rfl, h2, h3, h4⟩ := one_ok ok
    have q := h.blt h2
    obtain ⟨r, k1, k2⟩ := tupL_ok (A := A) (X := X)
    refine pl h rfl ?_
    exact se_listT k1 k2 q.1 q.2 (by rfl) (soundL l h tk h4) (by decide) (by decide) (star_cons h3)
  | .allL l, c, X, W, a, h, tk, ok => by
    simp only [okE] at ok
    obtain ⟨p, b, pos, rfl, h2, h3, h4⟩ := one_ok ok
    have q := h.blt h2
    obtain ⟨r, k1, k2⟩ := allL_ok (A := A) h.calm
    refine pl h rfl ?_
    exact se_listB k1 k2 q.1 q.2 (by rfl) (soundL l h tk h4) (by decide) (by decide) (star_cons h3)
  | .anyL l, c, X, W, a, h, tk, ok => by
    simp only [okE] at ok
    obtain ⟨p, b, pos, rfl, h2, h3, h4⟩ := one_ok ok
    have q := h.blt h2
    obtain ⟨r, k1, k2⟩ := anyL_ok (A := A) h.calm
    refine pl h rfl ?_
    exact se_listB k1 k2 q.1 q.2 (by rfl) (soundL l h tk h4) (by decide) (by decide) (star_cons h3)
  | .sumL l, c, X, W, a, h, tk, ok => by
    simp only [okE] at ok
    obtain ⟨p, b, pos, rfl, h2, h3, h4⟩ := one_ok ok
    have q := h.blt h2
    obtain ⟨r, k1, k2⟩ := sumL_ok (A := A) h.calm
    refine pl h rfl ?_
    exact se_listB k1 k2 q.1 q.2 (by rfl) (soundL l h tk h4) (by decide) (by decide) (star_cons h3)
  | .lenL l, c, X, W, a, h, tk, ok => by
    simp only [okE] at ok
    obtain ⟨p, b, pos, rfl, h2, h3, h4⟩ := one_ok ok
    have q := h.blt h2
    obtain ⟨r, k1, k2⟩ := lenL_ok (A := A) (X := X)
    refine pl h rfl ?_
    exact se_listB k1 k2 q.1 q.2 (by rfl) (soundL l h tk h4) (by decide) (by decide) (star_cons h3)
  | .joinL o l, c, X, W, a, h, tk, ok => by
    simp only [okE] at ok
    split at ok
    · simp only [Bool.and_eq_true, decide_eq_true_eq] at ok
      obtain ⟨⟨⟨⟨⟨rfl, h2⟩, h3⟩, h4⟩, h5⟩, h6⟩ := ok
      refine pl h rfl ?_
      exact se_join (soundE o h tk h2).1 (soundL l h tk h6) (star_cons h5) (base_ok h3) h4
    · cases ok
  | .dnew t, c, X, W, a, h, tk, ok => by
    simp only [okE] at ok
    split at ok
    · refine pl h rfl ?_
      exact se_dnew h.hP h.hw t
    · cases ok
  | .dnew1 t k v, c, X, W, a, h, tk, ok => by
    simp only [okE] at ok
    split at ok
    · rw [Bool.and_eq_true] at ok
      refine pl h rfl ?_
      exact se_dnew1 h.hK h.hP h.hw (by have := h.hu; omega) t (soundE k h tk ok.1).1 (soundE v h tk ok.2).1
    · cases ok
theorem soundEs : ∀ (es : Es) {c : Cn} {X : Cx} {W : WX} {l : List Expr}, Sta A T c X → Takes X W → okEs c es l = true → SA A W X l (evEs T es)
  | .nil, c, X, W, l, h, tk, ok => by
    simp only [okEs] at ok
    split at ok
    · exact sa_nil
    · cases ok
  | .cons e es, c, X, W, l, h, tk, ok => by
    simp only [okEs] at ok
    split at ok
    · simp only [Bool.and_eq_true] at ok
      exact sa_cons (soundE e h tk ok.1.1).1 (soundEs es h tk ok.2) (star_cons ok.1.2)
    · cases ok
/-- and, or -/
theorem soundB : ∀ (es : Es) {c : Cn} {X : Cx} {W : WX} {l : List Expr}, Sta A T c X → Takes X W → okEs c es l = true → l ≠ [] → ∀ {pos : Pos}, (SE A W X (.BoolOp .And l pos) (evB T true es) ∧ SW A W X (.BoolOp .And l pos) (tru (evB T true es))) ∧ (SE A W X (.BoolOp .Or l pos) (evB T false es) ∧ SW A W X (.BoolOp .Or l pos) (tru (evB T false es)))
  | .nil, c, X, W, l, h, tk, ok, ne, pos => by
    cases l with
    | nil => exact absurd rfl ne
    | cons _ _ => simp [okEs] at ok
  | .cons e .nil, c, X, W, l, h, tk, ok, ne, pos => by
    simp only [okEs] at ok
    split at ok
    · simp only [Bool.and_eq_true] at ok
      obtain ⟨h1, h2⟩ := ok
      split at h2
      · have q := soundE e h tk h1.1
        exact ⟨⟨pe_one q.1, sw_and1 q.2⟩, ⟨pe_one q.1, sw_or1 q.2⟩⟩
      · cases h2
    · cases ok
  | .cons e (.cons e2 es), c, X, W, l, h, tk, ok, ne, pos => by
    cases l with
    | nil => exact absurd rfl ne
    | cons a l =>
      rw [okEs, Bool.and_eq_true, Bool.and_eq_true] at ok
      obtain ⟨h1, h2⟩ := ok
      have q := soundE e h tk h1.1
      cases l with
      | nil => simp [okEs] at h2
      | cons b bs =>
        have r := soundB (.cons e2 es) h tk h2 (by simp) (pos := pos)
        exact ⟨⟨se_and h.hK q.1 r.1.1, sw_and q.2 r.1.2⟩, ⟨se_or h.hK q.1 r.2.1, sw_or q.2 r.2.2⟩⟩
theorem soundT : ∀ (es : Es) {c : Cn} {X : Cx} {W : WX} {l : List Expr}, Sta A T c X → Takes X W → okT c es l = true → PTs X l (tR A rB W (evT T es))
  | .nil, c, X, W, l, h, tk, ok => by
    simp only [okT] at ok
    split at ok
    · exact st_nil
    · cases ok
  | .cons e .nil, c, X, W, l, h, tk, ok => by
    simp only [okT] at ok
    split at ok
    · exact st_one (soundE e h tk ok).2
    · cases ok
  | .cons _ (.cons _ _), c, X, W, l, h, tk, ok => by simp [okT] at ok
theorem soundL : ∀ (l : L) {c : Cn} {X : Cx} {W : WX} {a : Expr}, Sta A T c X → Takes X W → okL c l a = true → SL A W X a (evL T l)
  | .disp es, c, X, W, a, h, tk, ok => by
    simp only [okL] at ok
    split at ok
    · simp only [Bool.and_eq_true, decide_eq_true_eq] at ok
      exact sl_disp (soundEs es h tk ok.1) fun ρ S ds S1 q => by rw [okEs_len ok.1 ρ S ds S1 q]; exact ok.2
    · cases ok
  | .comp own elt g it cs, c, X, W, a, h, tk, ok => by
    simp only [okL] at ok
    split at ok
    · simp only [Bool.and_eq_true, decide_eq_true_eq] at ok
      obtain ⟨⟨⟨⟨⟨⟨⟨rfl, h1⟩, h2⟩, h3⟩, h4⟩, h5⟩, h6⟩, h7⟩ := ok
      obtain ⟨b1, b2, b3⟩ := h.blkOk h1
      have q := sl_comp (pos := ‹Pos›) h.calm (by rw [h.N]; exact h.nd) (soundIt it h tk h2) b1 (fun s H C cl fp => soundG g (h.blk b2 b3 s H C cl fp) h4) (fun s H C cl fp => soundT cs (h.blk b2 b3 s H C cl fp) takes0 h6) (fun s H C cl fp => (soundE elt (h.blk b2 b3 s H C cl fp) takes0 h7).1) (folded h3)
        (fun i hi => by rw [ownL_snd]; simpa using (List.all_eq_true.mp h5) i hi)
      rw [ownL_snd] at q
      exact q
    · cases ok
  | .comp2 own own1 elt g it g1 it1 cs, c, X, W, a, h, tk, ok => by
    simp only [okL] at ok
    split at ok
    · simp only [Bool.and_eq_true, decide_eq_true_eq] at ok
      obtain ⟨⟨⟨⟨⟨⟨⟨⟨⟨⟨⟨⟨⟨⟨rfl, rfl⟩, hi0⟩, h1⟩, hv⟩, h2⟩, h3⟩, h4⟩, h5⟩, h2'⟩, h3'⟩, h4'⟩, h5'⟩, h6⟩, h7⟩ := ok
      obtain ⟨b1, b2, b3⟩ := h.blkOk h1
      rename_i ifs0 _ _ _ _ _
      obtain rfl : ifs0 = [] := List.isEmpty_iff.mp hi0
      have q := sl_comp2 (pos := ‹Pos›) h.calm (by rw [h.N]; exact h.nd) (soundIt it h tk h2) b1 (fun i hi => by rw [ownL_snd]; simpa using (List.all_eq_true.mp hv) i hi) (fun s H C cl fp => soundG g (h.blk b2 b3 s H C cl fp) h4)
        (fun s H C cl fp => soundIt it1 (h.blk b2 b3 s H C cl fp) takes0 h2') (fun s H C cl fp => soundG g1 (h.blk b2 b3 s H C cl fp) h4') (fun s H C cl fp => soundT cs (h.blk b2 b3 s H C cl fp) takes0 h6) (fun s H C cl fp => (soundE elt (h.blk b2 b3 s H C cl fp) takes0 h7).1) (folded h3) (fun env => folded h3')
        (fun i hi => by rw [ownL_snd]; simpa using (List.all_eq_true.mp h5) i hi) (fun i hi => by simpa using (List.all_eq_true.mp h5') i hi)
      rw [ownL_snd] at q
      exact q
    · cases ok
  | .listOf e, c, X, W, a, h, tk, ok => by
    simp only [okL] at ok
    obtain ⟨p, b, pos, rfl, h2, h3, h4⟩ := one_ok ok
    have q := h.blt h2
    exact sl_listOf h.hK q.1 q.2 (soundE e h tk h4).1 (star_cons h3)
  | .sortL l, c, X, W, a, h, tk, ok => by
    simp only [okL] at ok
    obtain ⟨p, b, pos, rfl, h2, h3, h4⟩ := one_ok ok
    have q := h.blt h2
    exact sl_sortL h.hK (by have := h.hu; omega) q.1 q.2 (soundL l h tk h4) (star_cons h3)
  | .sortE e, c, X, W, a, h, tk, ok => by
    simp only [okL] at ok
    obtain ⟨p, b, pos, rfl, h2, h3, h4⟩ := one_ok ok
    have q := h.blt h2
    exact sl_sortE h.hK (by have := h.hu; omega) q.1 q.2 (soundE e h tk h4).1 (star_cons h3)
  | .sortSC own elt g it cs, c, X, W, a, h, tk, ok => by
    simp only [okL] at ok
    obtain ⟨p, elt', tg, iter, ifs, scope, p2, pos, rfl, hb, ok⟩ := sortSetOf_ok ok
    simp only [Bool.and_eq_true, decide_eq_true_eq] at ok
    obtain ⟨⟨⟨⟨⟨⟨h1, h2⟩, h3⟩, h4⟩, h5⟩, h6⟩, h7⟩ := ok
    obtain ⟨b1, b2, b3⟩ := h.blkOk h1
    have q0 := h.blt hb
    have q := sl_sortSC (p := p) (p2 := p2) (pos := pos) q0.1 q0.2 (star_cons rfl) h.calm (by rw [h.N]; exact h.nd) (soundIt it h tk h2) b1 (fun s H C cl fp => soundG g (h.blk b2 b3 s H C cl fp) h4) (fun s H C cl fp => soundT cs (h.blk b2 b3 s H C cl fp) takes0 h6) (fun s H C cl fp => (soundE elt (h.blk b2 b3 s H C cl fp) takes0 h7).1) (folded h3)
        (fun i hi => by rw [ownL_snd]; simpa using (List.all_eq_true.mp h5) i hi)
    rw [ownL_snd] at q
    exact q
  | .slc e1 lo hi, c, X, W, a, h, tk, ok => by
    simp only [okL] at ok
    split at ok
    · simp only [Bool.and_eq_true] at ok
      exact sl_slc h.hK (soundE e1 h tk ok.1.1).1 (sp_of ok.1.2 fun q => (soundE lo h tk q).1) (sp_of ok.2 fun q => (soundE hi h tk q).1)
    · cases ok
  | .rep l1 e2, c, X, W, a, h, tk, ok => by
    simp only [okL] at ok
    split at ok
    · rw [Bool.and_eq_true] at ok
      exact sl_rep (soundL l1 h tk ok.1) (soundE e2 h tk ok.2).1
    · cases ok
  | .cat l1 l2, c, X, W, a, h, tk, ok => by
    simp only [okL] at ok
    split at ok
    · rw [Bool.and_eq_true] at ok
      exact sl_cat (soundL l1 h tk ok.1) (soundL l2 h tk ok.2)
    · cases ok
  | .catE e1 l2, c, X, W, a, h, tk, ok => by
    simp only [okL] at ok
    split at ok
    · rw [Bool.and_eq_true] at ok
      exact sl_catE (soundE e1 h tk ok.1).1 (soundL l2 h tk ok.2)
    · cases ok
  | .rev e1, c, X, W, a, h, tk, ok => by
    simp only [okL] at ok
    split at ok
    · rw [Bool.and_eq_true, decide_eq_true_eq] at ok
      obtain ⟨rfl, ok⟩ := ok
      exact sl_rev (soundE e1 h tk ok).1
    · cases ok
  | .catEE e1 e2, c, X, W, a, h, tk, ok => by
    simp only [okL] at ok
    split at ok
    · rw [Bool.and_eq_true] at ok
      exact sl_catEE (soundE e1 h tk ok.1).1 (soundE e2 h tk ok.2).1
    · cases ok
  | .sortK t q e i k, c, X, W, a, h, tk, ok => by
    simp only [okL] at ok
    split at ok
    · simp only [Bool.and_eq_true, decide_eq_true_eq] at ok
      obtain ⟨⟨⟨⟨⟨⟨⟨⟨⟨rfl, rfl⟩, h1⟩, h2⟩, h3⟩, h4⟩, rfl⟩, h6⟩, h7⟩, h8⟩ := ok
      have b := h.blt h1
      obtain ⟨cc, TB, hc, hq⟩ := h.tab h4
      have L := h.lamP h6
      exact sl_sortK h.hK h.hu (h.hr h4) b.1 b.2 (soundE e h tk h3).1 (star_cons h2) TB hc hq L (by rw [h.N]; exact h.nd) (by rw [h.N]; exact h7) rfl (fun _ _ _ _ _ _ => key_bind) (fun s H f c' => (soundE k (h.key L (h.hr h4) s H f c') takes0 h8).1)
    · cases ok
theorem soundIt : ∀ (it : It) {c : Cn} {X : Cx} {W : WX} {tg a : Expr}, Sta A T c X → Takes X W → okIt c it tg a = true → SI A W X tg a (evIt T it)
  | .ofE e, c, X, W, tg, a, h, tk, ok => by
    simp only [okIt] at ok
    exact si_ofE h.hK (soundE e h tk ok).1
  | .ofL l, c, X, W, tg, a, h, tk, ok => by
    simp only [okIt] at ok
    exact si_ofL (soundL l h tk ok)
  | .rng1 e, c, X, W, tg, a, h, tk, ok => by
    simp only [okIt] at ok
    obtain ⟨p, b, pos, rfl, h2, h3, h4⟩ := one_ok ok
    have q := h.blt h2
    exact si_rng1 q.1 q.2 (soundE e h tk h4).1 (star_cons h3)
  | .rng2 e1 e2, c, X, W, tg, a, h, tk, ok => by
    simp only [okIt] at ok
    split at ok
    · simp only [Bool.and_eq_true, decide_eq_true_eq] at ok
      obtain ⟨⟨⟨⟨⟨rfl, h1⟩, h2⟩, h3⟩, h4⟩, h5⟩ := ok
      have q := h.blt h1
      exact si_rng2 q.1 q.2 (soundE e1 h tk h4).1 (soundE e2 h tk h5).1 ((star_cons h2).trans (congrArg _ (star_cons h3))) (star_cons h3)
    · cases ok
  | .rng3 e1 e2 e3, c, X, W, tg, a, h, tk, ok => by
    simp only [okIt] at ok
    split at ok
    · simp only [Bool.and_eq_true, decide_eq_true_eq] at ok
      obtain ⟨⟨⟨⟨⟨⟨⟨rfl, h1⟩, h2⟩, h3⟩, h4⟩, h5⟩, h6⟩, h7⟩ := ok
      have q := h.blt h1
      exact si_rng3 q.1 q.2 (soundE e1 h tk h5).1 (soundE e2 h tk h6).1 (soundE e3 h tk h7).1 (star_cons h2) (star_cons h3) (star_cons h4) (star_back (by simp [h3, h4]))
    · cases ok
  | .enm e, c, X, W, tg, a, h, tk, ok => by
    simp only [okIt] at ok
    split at ok
    · obtain ⟨p, b, pos, rfl, h2, h3, h4⟩ := one_ok ok
      have q := h.blt h2
      exact si_enm h.hK q.1 q.2 (soundE e h tk h4).1 (star_cons h3)
    · cases ok
  | .zp _ _, c, X, W, tg, a, h, tk, ok => by simp [okIt] at ok
  | .items _, c, X, W, tg, a, h, tk, ok => by simp [okIt] at ok
  | .vals _, c, X, W, tg, a, h, tk, ok => by simp [okIt] at ok
end
end
end PL

set_option Elab.async false
set_option linter.all false
set_option maxRecDepth 100000
set_option maxHeartbeats 4000000
/-! PL16: statements. -/
namespace PL
open PySem PySem.Spec PyProof.Rows L2
/-- name = [.. for ..] on one line -/
def okLc (c : Cn) (i : Nat) (y : Str) (py : Pos) (l : L) (v : Expr) : Bool := okL c l v && (match l with
  | .comp _ _ _ _ _ => true
  | .comp2 _ _ _ _ _ _ _ _ => true
  | _ => false) && (match v with
  | .ListComp _ _ scope pos => decide (c.N[i]? = some y) && decide (c.sc.lookup y = some .local) && (py.line == pos.line) && !(scope.names.any fun (n, k) => n == y && (k == .local || k == .cell))
  | _ => false)
/-- a comprehension that does not swap with its target -/
def noSw (c : Cn) (tg v : Expr) : Bool := noComp v || (match v, tg with
  | .ListComp _ _ scope pos, .Name y py => !decide (c.sc.lookup y = some .local) || !(py.line == pos.line) || (scope.names.any fun (n, k) => n == y && (k == .local || k == .cell))
  | _, _ => false)
def isTupE : Expr → Bool
  | .Tuple _ _ _ => true
  | _ => false
theorem isTupE_ok {e : Expr} (h : isTupE e = true) : ∃ elts kk tpos, e = .Tuple elts kk tpos := by
  cases e <;> first | exact ⟨_, _, _, rfl⟩ | cases h
mutual
def okS (c : Cn) (s : St) (st : Stmt) : Bool := match s with
  | .asg g e => (match st with
    | .Assign [tg] v _ => okG c g tg && okE c e v && noSw c tg v && noStar tg && (noTup v || isName tg)
    | _ => false)
  | .asgL i l => (match st with
    | .Assign [.Name y py] v _ => okLc c i y py l v
    | _ => false)
  | .aug i o e => (match st with
    | .AugAssign (.Name x _) o' v _ => decide (o = o') && (decide (o = .Add) || decide (o = .Sub)) && decide (c.N[i]? = some x) && c.loc x && okE c e v
    | _ => false)
  | .sub o i e => (match st with
    | .Assign [.Subscript o' i' _] v _ => okE c o o' && okE c i i' && okE c e v && noComp v && noSlice i' && noTup v
    | _ => false)
  | .fst o f e => (match st with
    | .Assign [.Attribute o' f' _] v _ => decide (f' = f) && decide (f ∈ c.flds) && okE c o o' && okE c e v && noComp v
    | _ => false)
  | .ex e => (match st with
    | .Expr v _ => okE c e v && noComp v
    | _ => false)
  | .ite e a b => (match st with
    | .If t x y _ => okE c e t && okSs c a x && okSs c b y
    | _ => false)
  | .for_ g it b => (match st with
    | .For tg iter x [] _ => okIt c it tg iter && okG c g tg && noSet iter && okSs c b x
    | _ => false)
  | .forD g its j b => (match st with
    | .For tg (.Call (.Attribute (.Name x _) nm apos) [] [] cpos) body [] _ => decide (nm = wdName its) && decide (c.N[j]? = some x) && c.vis x && nmOk x && okG c g tg && (apos.endLine == cpos.line) && okSs c b body && (!its || isTupE tg)
    | _ => false)
  | .whl e b => (match st with
    | .While t x [] _ => okE c e t && okSs c b x
    | _ => false)
  | .ret e => (match st with
    | .Return (some v) _ => okE c e v
    | _ => false)
  | .ret0 => (match st with
    | .Return none _ => true
    | _ => false)
  | .brk => (match st with
    | .Break _ => true
    | _ => false)
  | .cnt => (match st with
    | .Continue _ => true
    | _ => false)
  | .pass => (match st with
    | .Pass _ => true
    | .Expr (.Constant (.str _) _ _) _ => true
    | _ => false)
  | .raise x k msg => (match st with
    | .Raise (some (.Call (.Name y _) [.Constant (.str m) _ _] [] _)) none _ => decide (y = x) && c.glo x && decide (c.cs[k]? = some x) && nmOk x
    | _ => false)
  | .tryIs b x k i y m => (match st with
    | .Try body [.ExceptHandler (some (.Name x' _)) (some n) [.Return (some (.Call (.Name f _) [.Name n' _, .Name y' _] [] _)) _] _] [] [] _ =>
      decide (x' = x) && decide (n' = n) && decide (y' = y) && decide (f = "isinstance") && c.blt "isinstance" && decide (c.N[i]? = some n) && decide (c.sc.lookup n = some .local) && nmOk n && c.glo x && nmOk x && decide (c.cs[k]? = some x) && c.glo y && nmOk y && decide (c.cs[m]? = some y) && okSs c b body
    | _ => false)
def okSs (c : Cn) (ss : Ss) (l : List Stmt) : Bool := match ss with
  | .nil => (match l with
    | [] => true
    | _ => false)
  | .cons s ss => (match l with
    | st :: l => okS c s st && okSs c ss l
    | _ => false)
end
section
variable {A : Ad} {T : Tab}
theorem asg_sub {o i : Expr} {pos : Pos} {env : PySem.Env} (h : noSlice i = true) (v : Value) : assign (.Subscript o i pos) env v = (do
      let ov ← holding [v] (eval o env)
      let iv ← holding [v, ov] (eval i env)
      standAt pos
      holding [v, ov, iv] (setItem ov iv v)
      release [v, ov, iv] []) := by
  cases i <;> first | rfl | cases h
theorem sw_no {c : Cn} {X : Cx} {tg v : Expr} {l : Nat} (h : Sta A T c X) (hs : noSw c tg v = true) : swapsWithSole [tg] v l X.env = pure false := by
  unfold noSw at hs
  rw [Bool.or_eq_true] at hs
  rcases hs with hs | hs
  · exact sw_sole hs
  · split at hs
    · rename_i elt gs scope pos y py
      have hk : X.env.kindOf y = c.sc.lookup y := by
        show X.env.scope.names.lookup y = _
        rw [h.sc]
      show swapsWith (.ListComp elt gs scope pos) (some (.Name y py)) l X.env = pure false
      unfold swapsWith
      simp only [hk, Expr.pos, Bool.or_eq_true, Bool.not_eq_true', decide_eq_false_iff_not] at hs ⊢
      have key : (X.env.blockKind == .function && c.sc.lookup y == some .local && py.line == pos.line && !(scope.names.any fun (n, k) => n == y && (k == .local || k == .cell))) = false := by
        rcases hs with (hs | hs) | hs
        · have : (c.sc.lookup y == some .local) = false := by
            cases q : (c.sc.lookup y == some NameKind.local) with
            | false => rfl
            | true => exact absurd (beq_iff_eq.mp q) hs
          simp [this]
        · simp [hs]
        · simp only [hs, Bool.not_true, Bool.and_false]
      rw [key]
    · cases hs
theorem soundLc {c : Cn} {X : Cx} {W : WX} {i : Nat} {y : Str} {py spos : Pos} {l : L} {v : Expr} (h : Sta A T c X) (tk : Takes X W) (ok : okLc c i y py l v = true) :
    SS A W X (.Assign [.Name y py] v spos) (fun ρ S => (evL T l ρ S).toF ρ fun xs S1 => if i < ρ.length then .nx (ρ.set i (some (.ob S1.length))) (S1 ++ [.lst xs]) else .stuck) := by
  unfold okLc at ok
  rw [Bool.and_eq_true, Bool.and_eq_true] at ok
  obtain ⟨⟨ok, hl⟩, hv⟩ := ok
  have hN : X.N.Nodup := by rw [h.N]; exact h.nd
  cases l with
  | comp own elt g it cs =>
    simp only [okL] at ok
    split at ok
    · simp only [Bool.and_eq_true, decide_eq_true_eq, Bool.not_eq_true'] at ok hv
      obtain ⟨⟨⟨v1, v2⟩, v3⟩, v4⟩ := hv
      obtain ⟨⟨⟨⟨⟨⟨⟨rfl, h1⟩, h2⟩, h3⟩, h4⟩, h5⟩, h6⟩, h7⟩ := ok
      obtain ⟨b1, b2, b3⟩ := h.blkOk h1
      have q := ss_setLc (pos := ‹Pos›) (py := py) (spos := spos) (y := y) (k := i) h.calm hN (by rw [h.N]; exact v1) (by rw [h.sc]; exact v2) (sw_true h.kind (by rw [h.sc]; exact v2) v3 v4) (soundIt it h tk h2) b1 (fun s H C cl fp => soundG g (h.blk b2 b3 s H C cl fp) h4) (fun s H C cl fp => soundT cs (h.blk b2 b3 s H C cl fp) takes0 h6) (fun s H C cl fp => (soundE elt (h.blk b2 b3 s H C cl fp) takes0 h7).1) (folded h3)
        (fun i hi => by rw [ownL_snd]; simpa using (List.all_eq_true.mp h5) i hi)
      rw [ownL_snd] at q
      exact q
    · cases ok
  | comp2 own own1 elt g it g1 it1 cs =>
    simp only [okL] at ok
    split at ok
    · simp only [Bool.and_eq_true, decide_eq_true_eq, Bool.not_eq_true'] at ok hv
      obtain ⟨⟨⟨v1, v2⟩, v3⟩, v4⟩ := hv
      obtain ⟨⟨⟨⟨⟨⟨⟨⟨⟨⟨⟨⟨⟨⟨rfl, rfl⟩, hi0⟩, h1⟩, hw⟩, h2⟩, h3⟩, h4⟩, h5⟩, h2'⟩, h3'⟩, h4'⟩, h5'⟩, h6⟩, h7⟩ := ok
      obtain ⟨b1, b2, b3⟩ := h.blkOk h1
      rename_i ifs0 _ _ _ _ _
      obtain rfl : ifs0 = [] := List.isEmpty_iff.mp hi0
      have q := ss_setLc2 (pos := ‹Pos›) (py := py) (spos := spos) (y := y) (k := i) h.calm hN (by rw [h.N]; exact v1) (by rw [h.sc]; exact v2) (sw_true h.kind (by rw [h.sc]; exact v2) v3 v4) (soundIt it h tk h2) b1 (fun i hi => by rw [ownL_snd]; simpa using (List.all_eq_true.mp hw) i hi) (fun s H C cl fp => soundG g (h.blk b2 b3 s H C cl fp) h4)
        (fun s H C cl fp => soundIt it1 (h.blk b2 b3 s H C cl fp) takes0 h2') (fun s H C cl fp => soundG g1 (h.blk b2 b3 s H C cl fp) h4') (fun s H C cl fp => soundT cs (h.blk b2 b3 s H C cl fp) takes0 h6) (fun s H C cl fp => (soundE elt (h.blk b2 b3 s H C cl fp) takes0 h7).1) (folded h3) (fun env => folded h3')
        (fun i hi => by rw [ownL_snd]; simpa using (List.all_eq_true.mp h5) i hi) (fun i hi => by simpa using (List.all_eq_true.mp h5') i hi)
      rw [ownL_snd] at q
      exact q
    · cases ok
  | _ => cases hl
mutual
theorem soundS : ∀ (s : St) {c : Cn} {X : Cx} {W : WX} {st : Stmt}, Sta A T c X → Takes X W → PassesOwn (model X.prog X.w) X.A X.env X.xe → TopX X → okS c s st = true → SS A W X st (evS T s)
  | .asg g e, c, X, W, st, h, tk, hp, ht, ok => by
    simp only [okS] at ok
    split at ok
    · simp only [Bool.and_eq_true] at ok
      obtain ⟨⟨⟨⟨h1, h2⟩, h3⟩, h4⟩, h5⟩ := ok
      exact ss_asg (soundE e h tk h2).1 (soundG g h h1) (sw_no h h3) (stores_none h5) (by rw [asg_cons h4]; rfl)
    · cases ok
  | .asgL i l, c, X, W, st, h, tk, hp, ht, ok => by
    simp only [okS] at ok
    split at ok
    · exact soundLc h tk ok
    · cases ok
  | .aug i o e, c, X, W, st, h, tk, hp, ht, ok => by
    simp only [okS] at ok
    split at ok
    · simp only [Bool.and_eq_true, Bool.or_eq_true, decide_eq_true_eq] at ok
      obtain ⟨⟨⟨⟨rfl, h1⟩, h2⟩, h3⟩, h4⟩ := ok
      have hN : X.N.Nodup := by rw [h.N]; exact h.nd
      have hl := h.loc h3
      rcases h1 with rfl | rfl
      · exact ss_aug hN (by rw [h.N]; exact h2) hl.1 (soundE e h tk h4).1 ip_add hl.2 aug_add
      · exact ss_aug hN (by rw [h.N]; exact h2) hl.1 (soundE e h tk h4).1 ip_sub hl.2 aug_sub
    · cases ok
  | .sub o i e, c, X, W, st, h, tk, hp, ht, ok => by
    simp only [okS] at ok
    split at ok
    · simp only [Bool.and_eq_true] at ok
      obtain ⟨⟨⟨⟨⟨h1, h2⟩, h3⟩, h4⟩, h5⟩, h6⟩ := ok
      exact ss_sub h.hK h.hP h.hw (by have := h.hu; omega) (soundE o h tk h1).1 (soundE i h tk h2).1 (soundE e h tk h3).1 (sw_none h4) (sw_sole h4) (stores_none (by rw [h6]; rfl)) (by rfl) (asg_sub h5)
    · cases ok
  | .fst o f e, c, X, W, st, h, tk, hp, ht, ok => by
    simp only [okS] at ok
    split at ok
    · simp only [Bool.and_eq_true, decide_eq_true_eq] at ok
      obtain ⟨⟨⟨⟨rfl, h2⟩, h3⟩, h4⟩, h5⟩ := ok
      exact ss_fst (h.kls.fl _ h2) (soundE o h tk h3).1 (soundE e h tk h4).1 (sw_none h5)
    · cases ok
  | .ex e, c, X, W, st, h, tk, hp, ht, ok => by
    simp only [okS] at ok
    split at ok
    · rw [Bool.and_eq_true] at ok
      exact ss_ex (soundE e h tk ok.1).1 (sw_none ok.2)
    · cases ok
  | .ite e a b, c, X, W, st, h, tk, hp, ht, ok => by
    simp only [okS] at ok
    split at ok
    · simp only [Bool.and_eq_true] at ok
      exact ss_ite (soundE e h tk ok.1.1).2 (soundSs a h tk hp ht ok.1.2) (soundSs b h tk hp ht ok.2)
    · cases ok
  | .for_ g it b, c, X, W, st, h, tk, hp, ht, ok => by
    simp only [okS] at ok
    split at ok
    · simp only [Bool.and_eq_true] at ok
      obtain ⟨⟨⟨h1, h2⟩, h3⟩, h4⟩ := ok
      exact ss_for hp h.calm (soundIt it h tk h1) (soundG g h h2) (soundSs b h tk hp ht h4) (folded h3)
    · cases ok
  | .forD g its j b, c, X, W, st, h, tk, hp, ht, ok => by
    simp only [okS] at ok
    split at ok
    · simp only [Bool.and_eq_true, decide_eq_true_eq, Bool.or_eq_true, Bool.not_eq_true'] at ok
      obtain ⟨⟨⟨⟨⟨⟨⟨rfl, h1⟩, h2⟩, h3⟩, h4⟩, h5⟩, h6⟩, h7⟩ := ok
      have n := nmOk_iff h3
      refine ss_forD h.hP h.hw hp h.calm (by rw [h.N]; exact h1) (h.vis h2) n.1 n.2.1 (soundG g h h4) (soundSs b h tk hp ht h6) h5 fun e => ?_
      rcases h7 with h7 | h7
      · rw [e] at h7; cases h7
      · exact isTupE_ok h7
    · cases ok
  | .whl e b, c, X, W, st, h, tk, hp, ht, ok => by
    simp only [okS] at ok
    split at ok
    · rw [Bool.and_eq_true] at ok
      exact ss_whl hp (soundE e h tk ok.1).2 (soundSs b h tk hp ht ok.2)
    · cases ok
  | .ret e, c, X, W, st, h, tk, hp, ht, ok => by
    simp only [okS] at ok
    split at ok
    · exact ss_ret (soundE e h tk ok).1
    · cases ok
  | .ret0, c, X, W, st, h, tk, hp, ht, ok => by
    simp only [okS] at ok
    split at ok
    · exact ss_ret0
    · cases ok
  | .brk, c, X, W, st, h, tk, hp, ht, ok => by
    simp only [okS] at ok
    split at ok
    · exact ss_brk
    · cases ok
  | .cnt, c, X, W, st, h, tk, hp, ht, ok => by
    simp only [okS] at ok
    split at ok
    · exact ss_cnt
    · cases ok
  | .pass, c, X, W, st, h, tk, hp, ht, ok => by
    simp only [okS] at ok
    split at ok
    · exact ss_pass
    · exact ss_doc
    · cases ok
  | .raise x k msg, c, X, W, st, h, tk, hp, ht, ok => by
    simp only [okS] at ok
    split at ok
    · simp only [Bool.and_eq_true, decide_eq_true_eq] at ok
      obtain ⟨⟨⟨rfl, h1⟩, h2⟩, h3⟩ := ok
      have q := h.cls _ _ h2
      exact ss_raise h.calm tk (h.gl h1) q.1 q.2 (nmOk_iff h3).1
    · cases ok
  | .tryIs b x k i y m, c, X, W, st, h, tk, hp, ht, ok => by
    simp only [okS] at ok
    split at ok
    · simp only [Bool.and_eq_true, decide_eq_true_eq] at ok
      obtain ⟨⟨⟨⟨⟨⟨⟨⟨⟨⟨⟨⟨⟨⟨rfl, rfl⟩, rfl⟩, rfl⟩, h1⟩, h2⟩, h3⟩, h4⟩, h5⟩, h6⟩, h7⟩, h8⟩, h9⟩, h10⟩, h11⟩ := ok
      have q := h.blt h1
      have n4 := nmOk_iff h4
      exact ss_tryIs ht.stk ht.frm (by rw [h.N]; exact h.nd) (by rw [h.N]; exact h2) (by show X.env.scope.names.lookup _ = _; rw [h.sc]; exact h3) (h.gl h5) (h.cls _ _ h7).1 (nmOk_iff h6).1 (h.gl h8) (h.cls _ _ h10).1 (nmOk_iff h9).1 ⟨n4.1, n4.2.1⟩ q.1 q.2 tk h.isx
        fun W pn xe tk hp => soundSs b (h.tr pn xe) tk hp ⟨ht.stk, ht.frm⟩ h11
    · cases ok
theorem soundSs : ∀ (s : Ss) {c : Cn} {X : Cx} {W : WX} {l : List Stmt}, Sta A T c X → Takes X W → PassesOwn (model X.prog X.w) X.A X.env X.xe → TopX X → okSs c s l = true → SSs A W X l (evSs T s)
  | .nil, c, X, W, l, h, tk, hp, ht, ok => by
    simp only [okSs] at ok
    split at ok
    · exact ss_nil
    · cases ok
  | .cons s ss, c, X, W, l, h, tk, hp, ht, ok => by
    simp only [okSs] at ok
    split at ok
    · rw [Bool.and_eq_true] at ok
      exact ss_cons (soundS s h tk hp ht ok.1) (soundSs ss h tk hp ht ok.2)
    · cases ok
end
end
end PL

set_option Elab.async false
set_option linter.all false
set_option maxRecDepth 100000
set_option maxHeartbeats 1000000
/-! PL17: defs, programs. -/
namespace PL
open PySem PySem.Spec PyProof.Rows L2
section
variable {A : Ad} {m t : List Addr} {H H' : Hp}
theorem RV.low : ∀ {d : D} {v : V}, RV A m H d v → d.low m.length = true := by
  intro d
  induction d using D.rec (motive_2 := fun ds => ∀ {vs : List V}, RVs A m H ds vs → D.lowAll m.length ds = true) with
  | non => exact fun _ => rfl
  | bl _ => exact fun _ => rfl
  | int _ => exact fun _ => rfl
  | str _ => exact fun _ => rfl
  | scr _ => exact fun _ => rfl
  | fn _ => exact fun _ => rfl
  | ob i =>
    rintro v ⟨a, h, _⟩
    exact decide_eq_true (List.getElem?_eq_some_iff.mp h).1
  | tup xs ih =>
    rintro v ⟨a, vs, _, _, h⟩
    exact ih h
  | nil => rfl
  | cons x xs ih1 ih2 =>
    rename_i vs h
    obtain ⟨u, us, _, h1, h2⟩ := h
    show (D.low m.length x && D.lowAll m.length xs) = true
    rw [ih1 h1, ih2 h2]
    rfl
theorem RVs.low : ∀ {ds : List D} {vs : List V}, RVs A m H ds vs → D.lowAll m.length ds = true
  | [], _, _ => rfl
  | x :: xs, _, ⟨u, us, _, h1, h2⟩ => by
    show (D.low m.length x && D.lowAll m.length xs) = true
    rw [h1.low, RVs.low h2]
    rfl
theorem RV.cut : ∀ {d : D} {v : V}, RV A (m ++ t) H d v → d.low m.length = true → RV A m H d v := by
  intro d
  induction d using D.rec (motive_2 := fun ds => ∀ {vs : List V}, RVs A (m ++ t) H ds vs → D.lowAll m.length ds = true → RVs A m H ds vs) with
  | non => exact fun h _ => h
  | bl _ => exact fun h _ => h
  | int _ => exact fun h _ => h
  | str _ => exact fun h _ => h
  | scr _ => exact fun h _ => h
  | fn _ => exact fun h _ => h
  | ob i =>
    rintro v ⟨a, h, e⟩ l
    refine ⟨a, ?_, e⟩
    rw [List.getElem?_append_left (of_decide_eq_true l)] at h
    exact h
  | tup xs ih =>
    rintro v ⟨a, vs, e, t, h⟩ l
    exact ⟨a, vs, e, t, ih h l⟩
  | nil => assumption
  | cons x xs ih1 ih2 =>
    rename_i vs h l
    obtain ⟨u, us, e, h1, h2⟩ := h
    have l : (D.low m.length x && D.lowAll m.length xs) = true := l
    rw [Bool.and_eq_true] at l
    exact ⟨u, us, e, ih1 h1 l.1, ih2 h2 l.2⟩
theorem RVs.cut : ∀ {ds : List D} {vs : List V}, RVs A (m ++ t) H ds vs → D.lowAll m.length ds = true → RVs A m H ds vs
  | [], _, h, _ => h
  | x :: xs, _, ⟨u, us, e, h1, h2⟩, l => by
    have l : (D.low m.length x && D.lowAll m.length xs) = true := l
    rw [Bool.and_eq_true] at l
    exact ⟨u, us, e, h1.cut l.1, RVs.cut h2 l.2⟩
theorem RKs.cut : ∀ {ds : List (D × D)} {us : List (Key × V)} {vs : List (Key × V)}, RKs A m H ds us → RKs A (m ++ t) H' ds vs → RKs A m H' ds vs
  | [], _, _, _, h => h
  | (k, d) :: r, _, _, ⟨_, u, _, rfl, _, g2, g3⟩, ⟨k', v, us, e, h1, h2, h3⟩ => ⟨k', v, us, e, h1, h2.cut g2.low, RKs.cut g3 h3⟩
theorem RTs.cut : ∀ {ds : List (D × D)} {us : List (NestedKey × Addr × Value)} {vs : List (NestedKey × Addr × Value)}, RTs A m H ds us → RTs A (m ++ t) H' ds vs → RTs A m H' ds vs
  | [], _, _, _, h => h
  | (k, d) :: r, _, _, ⟨_, _, _, v, _, rfl, _, _, g2, _, g4, g5⟩, ⟨k', b, u, w, us, e, h1, h2, h3, h4, h5, h6⟩ => ⟨k', b, u, w, us, e, h1, h2, h3.cut g2.low, h4, h5.cut g4.low, RTs.cut g5 h6⟩
theorem RFs.cut : ∀ {ds : List (List Nat × D)} {us : List (Str × V)} {vs : List (Str × V)}, RFs A m H ds us → RFs A (m ++ t) H' ds vs → RFs A m H' ds vs
  | [], _, _, _, h => h
  | (f, d) :: r, _, _, ⟨u, _, rfl, g2, g3⟩, ⟨v, us, e, h2, h3⟩ => ⟨v, us, e, h2.cut g2.low, RFs.cut g3 h3⟩
theorem RO.cut {a : Addr} : ∀ {o : O}, RO A m H a o → RO A (m ++ t) H' a o → RO A m H' a o
  | .lst _, ⟨_, _, g⟩, ⟨vs, h1, h2⟩ => ⟨vs, h1, h2.cut g.low⟩
  | .dK _, ⟨_, _, g⟩, ⟨vs, h1, h2⟩ => ⟨vs, h1, RKs.cut g h2⟩
  | .dT _, ⟨_, _, g⟩, ⟨vs, h1, h2⟩ => ⟨vs, h1, RTs.cut g h2⟩
  | .ins _ _, ⟨_, _, _, _, g⟩, ⟨hc, dx, vs, h1, h2⟩ => ⟨hc, dx, vs, h1, RFs.cut g h2⟩
  | .gone, _, _ => trivial
  | .tab _, _, ⟨h0, ps, h1, h2, h3⟩ => ⟨h0, ps, h1, h2, fun pos cv h => let ⟨c, k1, k2, k3⟩ := h3 pos cv h; ⟨c, k1, fun z => k2 (List.mem_append_left _ z), k3⟩⟩
/-- what a call has made and nobody holds is dropped -/
theorem RS.trunc {S S1 : Sto} {m' : List Addr} (r : RS A m S H) (x : Ext m H m' H') (r1 : RS A m' S1 H') (e : S1.take S.length = S) : Ext m H m H' ∧ RS A m S H' := by
  obtain ⟨t, rfl, ht⟩ := x.app
  have lt : S.length ≤ S1.length := by
    have := congrArg List.length e
    rw [List.length_take] at this
    omega
  refine ⟨⟨⟨[], by simp, by simp⟩, x.keep, x.there, x.frz⟩, r.len, r.nd, fun a h => r1.chg a (List.mem_append_left _ h), fun i o a e1 e2 => ?_⟩
  have hi : i < S.length := (List.getElem?_eq_some_iff.mp e1).1
  have e3 : S1[i]? = some o := by
    rw [← e, List.getElem?_take_of_lt hi] at e1
    exact e1
  exact (r.obj i o a e1 e2).cut (r1.obj i o a e3 (x.get e2))
theorem post_trunc {E : XK} {S : Sto} {r : R D} {Q : V → Hp → Prop} (rs : RS A m S H) (p : Post A (rE A) E m H (PL.trunc S r) Q) : Post A (rE A) E m H r Q := by
  cases r with
  | stuck => exact p
  | exc c fs S1 => exact p
  | ok d S1 =>
    simp only [PL.trunc] at p
    split at p
    · rename_i hc
      rw [Bool.and_eq_true, decide_eq_true_eq] at hc
      intro m' H' v x rs1 rv
      obtain ⟨x2, rs2⟩ := rs.trunc x rs1 hc.2
      obtain ⟨t, rfl, _⟩ := x.app
      exact p m H' v x2 rs2 (RV.cut rv (by rw [rs.len]; exact hc.1))
    · exact p
end
/-! ### a program -/
/-- a def: its name, its qualified name, its text, its slots' names, its parameters, its body in the own language -/
structure Ent where
  x : Str
  q : Str
  st : Stmt
  N : List Str
  ps : List Str
  body : Ss
/-- a program's table: its defs; values, built-in names, exception classes by number; which class is which; fields' names, classes that are made, methods, makings; whether gcd is math's -/
structure Prog where
  ents : List Ent
  gs : List (Str × D)
  bs : List Str
  cs : List Str := []
  isx : List (Nat × Nat × Bool) := []
  flds : List Str := []
  ks : List (Str × Nat) := []
  meths : List ((Nat × Str) × Nat) := []
  inits : List (Nat × Nat) := []
  gcd : Bool := false
  tabs : List (List Nat) := []
def Prog.isa (P : Prog) (c m : Nat) : Option Bool := (P.isx.find? fun t => t.1 == c && t.2.1 == m).map (·.2.2)
def Prog.fs (P : Prog) : List Str := P.ents.map fun e => if e.x = e.q then e.x else ""
def Prog.methF (P : Prog) (i : Nat) (m : Str) : Option Nat := P.meths.lookup (i, m)
def Prog.initF (P : Prog) (i : Nat) : Option Nat := P.inits.lookup i
/-- the name of a key that a def makes -/
def Ent.tq (e : Ent) : List Nat := (e.q ++ (".<locals>." : Str) ++ ("<lambda>" : Str)).cps.toList
/-- the static context of a def's body -/
def Prog.cn (P : Prog) (e : Ent) : Cn := ⟨e.N, (defScope e.st).names, (defScope e.st).names.map (·.1), P.fs, P.gs, P.bs, P.cs, P.flds, P.ks, P.gcd, P.meths.map (fun t => t.1.2), decide (e.tq ∈ P.tabs), e.tq⟩
def Prog.pg (P : Prog) : Pg := ⟨P.ents.map fun e => ⟨e.ps.length, e.N.length, e.body⟩, P.methF, P.initF, true, P.isa⟩
/-- the check of a def -/
def Ent.ok (P : Prog) (e : Ent) : Bool :=
  decide ((defScope e.st).kind = .function) && !(defScope e.st).isCoroutine && !(defScope e.st).isGenerator && decide e.N.Nodup && decide (e.N.take e.ps.length = e.ps)
    && e.ps.all (fun x => decide ((defScope e.st).names.lookup x = some .local) || decide ((defScope e.st).names.lookup x = some .cell))
    && (defScope e.st).names.all (fun y => !decide (y.2 = .free)) && okSs (P.cn e) e.body (defBody e.st)
theorem Ent.scope {P : Prog} {e : Ent} (h : e.ok P = true) : FnScope e.N e.ps (defScope e.st) ∧ okSs (P.cn e) e.body (defBody e.st) = true := by
  unfold Ent.ok at h
  simp only [Bool.and_eq_true, decide_eq_true_eq, Bool.not_eq_true', List.all_eq_true, Bool.or_eq_true, decide_eq_false_iff_not] at h
  obtain ⟨⟨⟨⟨⟨⟨⟨h1, h2⟩, h3⟩, h4⟩, h5⟩, h6⟩, h7⟩, h8⟩ := h
  exact ⟨⟨h1, h2, h3, h4, h5, h6, h7⟩, h8⟩
/-- the program as it stands behind the top -/
structure Prog.On (P : Prog) (A : Ad) (mg : Str → Option Value) : Prop where
  fn : ∀ i e, P.ents[i]? = some e → ∃ fd, Fun A.K e.x e.q e.st (A.fa i) fd ∧ Binds A.K fd e.ps [] ∧ (e.x = e.q → mg e.x = some (.ref (A.fa i)))
  free : ∀ x ∈ P.bs, mg x = none
  gv : ∀ x d, (x, d) ∈ P.gs → ∃ v u, mg x = some u ∧ RelV v u ∧ ∀ m H, RV A m H d v
  cls : ∀ i x, P.cs[i]? = some x → mg x = some (.ref (A.ca i)) ∧ MkC A.K (A.ca i)
  isx : ∀ c' b m, P.isa c' m = some b → PySem.W.exmOne A.K (.ref (A.ca c')) (.ref (A.ca m)) = some b ∧ PySem.W.kitOne A.K (.ref (A.ca c')) (.ref (A.ca m)) = some b ∧ ExcC A.K (A.ca c')
/-- its classes -/
structure Prog.OnK (P : Prog) (A : Ad) (mg : Str → Option Value) : Prop where
  fl : ∀ f ∈ P.flds, ∀ i, A.okc i → Cls A.K (A.ca i) ∧ NoAttr A.K (A.ca i) f
  me : ∀ i m f, P.methF i m = some f → A.okc i → Cls A.K (A.ca i) ∧ Meth A.K (A.ca i) m (A.fa f) ∧ ∃ e, P.ents[f]? = some e
  mkk : ∀ x i, (x, i) ∈ P.ks → mg x = some (.ref (A.ca i)) ∧ A.okc i ∧ ∃ f, P.initF i = some f ∧ Mk A.K (A.ca i) (A.fa f) ∧ ∃ e, P.ents[f]? = some e
  gcd : P.gcd = true → mg "gcd" = some (.builtin "math.gcd")
section
variable {A : Ad} {P : Prog} {pr : Program} {w : World} {mg : Str → Option Value} {base : Heap}
theorem runFn_len {p : Pg} {cf cn : Nat → List D → Sto → R D} {f : Nat} {ds : List D} {S : Sto} {i : Fn} (hi : p.fns[f]? = some i) (h : runFn p cf cn f ds S ≠ .stuck) : ds.length = i.np := by
  unfold runFn at h
  rw [hi] at h
  dsimp only at h
  split at h
  · assumption
  · exact absurd rfl h
theorem callF_len {p : Pg} {f : Nat} {ds : List D} {S : Sto} {i : Fn} (hi : p.fns[f]? = some i) : ∀ {k : Nat}, callF p k f ds S ≠ .stuck → ds.length = i.np
  | 0, h => absurd rfl h
  | 1, h => runFn_len hi h
  | k + 2, h => runFn_len hi h
theorem Prog.fns_get {i : Nat} {e : Ent} (h : P.ents[i]? = some e) : P.pg.fns[i]? = some ⟨e.ps.length, e.N.length, e.body⟩ := by
  show (P.ents.map _)[i]? = _
  rw [List.getElem?_map, h]
  rfl
theorem start_ok {m : List Addr} {H : Hp} {ds : List D} {vs : List V} {N : List Str} (r : RVs A m H ds vs) : REnv A m H (startE N.length ds) (L2.start N vs) := by
  unfold startE L2.start
  refine ⟨by simp [r.length], fun i d h => ?_⟩
  by_cases hi : i < ds.length
  · rw [List.getElem?_append_left (by simpa using hi), List.getElem?_map] at h
    obtain ⟨x, hx, e⟩ := Option.map_eq_some_iff.mp h
    cases e
    obtain ⟨v, h1, h2⟩ := r.get hx
    refine ⟨v, ?_, h2⟩
    rw [List.getElem?_append_left (by rw [List.length_map, r.length]; exact hi), List.getElem?_map, h1]
    rfl
  · rw [List.getElem?_append_right (by simpa using hi), List.getElem?_replicate] at h
    split at h <;> cases h
/-- each def keeps what the own language says of it, whatever the depth -/
theorem fun_okC {x qual : Str} {st : Stmt} {f : Addr} {fd : FuncData} {N ps : List Str} {k : Nat} {sp : Sp} {K : PySem.W.Frag} (F : Fun K x qual st f fd) (S : FnScope N ps (defScope st)) (len : ∀ vs H Q E, sp vs H Q E → vs.length = ps.length)
    (hb : ∀ (cdv : Value) (B : Around) (outer : List PySem.Env) (s : Shared) (H : Hp) (vs : List V) (Q : VK) (E : XK), fd.code = cdv → Room k (B.deeper (envOfC qual (defScope st) s.heap.objs.size f cdv)) → sp vs H Q E →
      ∃ t, PSs (cxOf (L2.CX pr w) pr w K mg base N qual (defScope st) f cdv B outer s H E) (defBody st) t ∧ t { nx := fun _ H' => Q .non H', rt := Q } (L2.start N vs) H) : FnOk pr w K mg base (L2.CX pr w) (k + 1) f fd ps sp := by
  obtain ⟨oc, od, kV, doc, pm, an, cdv, ct, osl, rfl, lk, hcd⟩ := F.ex
  exact fn_of lk hcd S len fun B outer s H vs Q E => hb cdv B outer s H vs Q E rfl
/-- the defs that make keys, their code objects -/
def Prog.OnT (P : Prog) (A : Ad) (mg : Str → Option Value) (base : Heap) : Prop := ∀ i e, P.ents[i]? = some e → e.tq ∈ P.tabs → ∀ fd, Fun A.K e.x e.q e.st (A.fa i) fd → ∃ cc, fd.code = .ref cc ∧ LamX.TabB base mg cc (A.ta e.tq)
theorem Prog.run (hpr : A.pr = pr) (hww : A.w = w) (O : P.On A mg) (OK : P.OnK A mg) (OT : P.OnT A mg base) (hok : ∀ e ∈ P.ents, e.ok P = true) : ∀ (k : Nat) (i : Nat) (e : Ent), P.ents[i]? = some e → ∀ fd, Fun A.K e.x e.q e.st (A.fa i) fd → FnOk pr w A.K mg base (L2.CX pr w) (k + 5) (A.fa i) fd e.ps (spF A e.ps.length (callF P.pg k i)) := by
  have body : ∀ (k : Nat) (cf cn : Nat → List D → Sto → R D), (∀ i e, P.ents[i]? = some e → ∀ fd, Fun A.K e.x e.q e.st (A.fa i) fd → FnOk pr w A.K mg base (L2.CX pr w) (k + 5) (A.fa i) fd e.ps (spF A e.ps.length (cf i))) → (∀ i e, P.ents[i]? = some e → ∀ ds S, cf i ds S ≠ .stuck → ds.length = e.ps.length) →
      (∀ i e, P.ents[i]? = some e → ∀ fd, Fun A.K e.x e.q e.st (A.fa i) fd → FnOk pr w A.K mg base (L2.CX pr w) (k + 4) (A.fa i) fd e.ps (spF A e.ps.length (cn i))) → (∀ i e, P.ents[i]? = some e → ∀ ds S, cn i ds S ≠ .stuck → ds.length = e.ps.length) →
      ∀ i e, P.ents[i]? = some e → ∀ fd, Fun A.K e.x e.q e.st (A.fa i) fd → FnOk pr w A.K mg base (L2.CX pr w) (k + 6) (A.fa i) fd e.ps (spF A e.ps.length (runFn P.pg cf cn i)) := by
    intro k cf cn ih hlen ihn hlenn i e hi fd F
    obtain ⟨S, hb⟩ := Ent.scope (hok e (List.mem_of_getElem? hi))
    refine fun_okC F S (fun vs H Q E h => h.1) fun cdv B outer s H vs Q E hcd hr h => ?_
    obtain ⟨hl, m, ds, S0, rs, rv, p⟩ := h
    have hfx : ∀ (f : Nat) (x : Str), P.fs[f]? = some x → x ≠ "" → ∃ e' : Ent, P.ents[f]? = some e' ∧ e'.x = x ∧ e'.x = e'.q := fun f x hx hne => by
      unfold Prog.fs at hx
      rw [List.getElem?_map] at hx
      obtain ⟨e', h1, h2⟩ := Option.map_eq_some_iff.mp hx
      by_cases eq : e'.x = e'.q
      · rw [if_pos eq] at h2
        exact ⟨e', h1, h2, eq⟩
      · rw [if_neg eq] at h2
        exact absurd h2.symm hne
    have kls : Kls A ⟨cf, cn, P.pg.meth, P.pg.init, P.pg.lit, P.pg.isx⟩ (P.cn e) (cxOf (L2.CX pr w) pr w A.K mg base e.N e.q (defScope e.st) (A.fa i) cdv B outer s H E) :=
      ⟨OK.fl, fun m _ i f hf oc => by
        obtain ⟨h1, h2, e', he'⟩ := OK.me i m f hf oc
        obtain ⟨fd', F', b', _⟩ := O.fn f e' he'
        exact ⟨h1, h2, fd', e'.ps, k + 5, ih f e' he' fd' F', hr, b', hlen f e' he'⟩, fun x i hx => by
        obtain ⟨h1, oc, f, h2, h3, e', he'⟩ := OK.mkk x i hx
        obtain ⟨fd', F', b', _⟩ := O.fn f e' he'
        exact ⟨h1, f, h2, oc, h3, fd', e'.ps, k + 4, ihn f e' he' fd' F', hr, b', hlenn f e' he'⟩, OK.gcd⟩
    have sta : Sta A ⟨cf, cn, P.pg.meth, P.pg.init, P.pg.lit, P.pg.isx⟩ (P.cn e) (cxOf (L2.CX pr w) pr w A.K mg base e.N e.q (defScope e.st) (A.fa i) cdv B outer s H E) :=
      ⟨rfl, rfl, S.nd, rfl, S.kind, rfl, fun _ _ => rfl, (by have := hr.un; show (B.deeper _).units + 80 < cLine; omega), fun _ => hr.mono (by omega), fun z => (by
        obtain ⟨cc, c1, c2⟩ := OT i e hi (of_decide_eq_true z) fd F
        refine ⟨cc, c2, hcd.symm.trans c1, ?_⟩
        show e.q ++ (".<locals>." : Str) ++ ("<lambda>" : Str) = S' e.tq
        exact (S'_tl _).symm), hpr, hww, O.free, O.gv, fun f x hx hne => by
        obtain ⟨e', he', rfl, eq⟩ := hfx f x hx hne
        obtain ⟨fd', F', b', m'⟩ := O.fn f e' he'
        exact ⟨fd', e'.ps, k + 5, ih f e' he' fd' F', hr, m' eq, F'.kp, b', hlen f e' he'⟩, O.cls, kls, O.isx⟩
    refine ⟨_, soundSs e.body sta (takes_of rfl rfl rfl rfl) (passes_of rfl) ⟨rfl, rfl⟩ hb, m, startE e.N.length ds, S0, rs, start_ok rv, ?_⟩
    have p : Post A (rE A) E m H (PL.trunc S0 (endF (evSs ⟨cf, cn, P.pg.meth, P.pg.init, P.pg.lit, P.pg.isx⟩ e.body (startE e.N.length ds) S0))) Q := by
      have q := p
      unfold runFn at q
      rw [Prog.fns_get hi] at q
      dsimp only at q
      rw [if_pos (by rw [← hl, rv.length])] at q
      exact q
    have p := post_trunc rs p
    cases q : evSs ⟨cf, cn, P.pg.meth, P.pg.init, P.pg.lit, P.pg.isx⟩ e.body (startE e.N.length ds) S0 with
    | stuck => rw [q] at p; exact p
    | nx ρ1 S1 => rw [q] at p; exact fun m' H' σ' x rs1 re1 => p m' H' .non x rs1 rfl
    | brk ρ1 S1 => rw [q] at p; exact p.elim
    | cnt ρ1 S1 => rw [q] at p; exact p.elim
    | ret d S1 => rw [q] at p; exact p
    | exc c fs ρ1 S1 => rw [q] at p; exact fun m' H' σ' d x rs1 re1 rx => p m' H' d x rs1 rx
  have zero : ∀ j i e, P.ents[i]? = some e → ∀ fd, FnOk pr w A.K mg base (L2.CX pr w) j (A.fa i) fd e.ps (spF A e.ps.length fun _ _ => .stuck) := fun j i e hi fd =>
    ⟨fun vs H Q E h => h.1, fun B outer s H args us vs Q E hr e0 hb hv h => by
      obtain ⟨_, m, ds, S, _, _, p⟩ := h
      exact p.elim⟩
  intro k
  induction k using Nat.strongRecOn with
  | ind k ih =>
    intro i e hi fd F
    match k with
    | 0 => exact zero 5 i e hi fd
    | 1 => exact body 0 (fun _ _ _ => .stuck) (fun _ _ _ => .stuck) (fun i e hi fd F => zero 5 i e hi fd) (fun i e hi ds S h => absurd rfl h) (fun i e hi fd F => zero 4 i e hi fd) (fun i e hi ds S h => absurd rfl h) i e hi fd F
    | k + 2 => exact body (k + 1) (callF P.pg (k + 1)) (callF P.pg k) (fun i e hi fd F => ih (k + 1) (by omega) i e hi fd F) (fun i e hi ds S h => callF_len (Prog.fns_get hi) h) (fun i e hi fd F => ih k (by omega) i e hi fd F) (fun i e hi ds S h => callF_len (Prog.fns_get hi) h) i e hi fd F
end
end PL

set_option Elab.async false
set_option linter.all false
set_option maxRecDepth 100000
set_option maxHeartbeats 1000000
/-! PL18: the law's def, called upon the script. -/
namespace PL
open PySem PySem.Spec PyProof.Rows L2
/-- what the law's def promises, by the written part alone -/
def spL (K : PySem.W.Frag) (g : List D → Sto → R D) : Sp := fun vs H Q E => vs.length = 1 ∧ ∀ A : Ad, A.K = K → spF A 1 g vs H Q E
theorem spL_law {K : PySem.W.Frag} {g : List D → Sto → R D} {H : Hp} {a : Addr} {ns : List Int} (hO : Only H) (hS : SqL K H a (ns.map V.int)) (h : ∃ S, g [.scr ns] [] = .ok (.bl true) S) : spL K g [.ref a] H (fun v _ => v = .bl true) fun _ _ _ => False := by
  refine ⟨rfl, fun A e => ⟨rfl, [], [.scr ns], [], ⟨rfl, .nil, fun a h => absurd h (by simp), fun i o a h => by simp at h⟩, ⟨_, [], rfl, ⟨a, rfl, ?_⟩, rfl⟩, ?_⟩⟩
  · subst e
    rcases hS with (hS | ⟨o, hS⟩) | hS
    · rcases hO a with h0 | ⟨o, xs, h0⟩
      · rw [hS] at h0; cases h0
      · rw [hS] at h0; cases h0
    · exact .inl ⟨o, hS⟩
    · exact .inr hS
  · obtain ⟨S, h⟩ := h
    rw [h]
    exact fun m' H' b _ _ rv => rv
theorem free_nil {mg : Str → Option Value} : ∀ x ∈ ([] : List Str), mg x = none := fun x h => nomatch h
theorem free_cons {mg : Str → Option Value} {y : Str} {l : List Str} (h : mg y = none) (r : ∀ x ∈ l, mg x = none) : ∀ x ∈ y :: l, mg x = none := fun x hx => by
  rcases List.mem_cons.mp hx with rfl | hx
  · exact h
  · exact r x hx
theorem gv_nil {A : Ad} {mg : Str → Option Value} : ∀ x d, (x, d) ∈ ([] : List (Str × D)) → ∃ v u, mg x = some u ∧ RelV v u ∧ ∀ m H, RV A m H d v := fun x d h => nomatch h
theorem gv_cons {A : Ad} {mg : Str → Option Value} {y : Str} {e : D} {l : List (Str × D)} (h : ∃ v u, mg y = some u ∧ RelV v u ∧ ∀ m H, RV A m H e v) (r : ∀ x d, (x, d) ∈ l → ∃ v u, mg x = some u ∧ RelV v u ∧ ∀ m H, RV A m H d v) :
    ∀ x d, (x, d) ∈ (y, e) :: l → ∃ v u, mg x = some u ∧ RelV v u ∧ ∀ m H, RV A m H d v := fun x d hx => by
  rcases List.mem_cons.mp hx with q | hx
  · cases q
    exact h
  · exact r x d hx
/-- a table of which class is which -/
def IsaAll (K : PySem.W.Frag) (ca : Nat → Addr) (l : List (Nat × Nat × Bool)) : Prop := ∀ t ∈ l, PySem.W.exmOne K (.ref (ca t.1)) (.ref (ca t.2.1)) = some t.2.2 ∧ PySem.W.kitOne K (.ref (ca t.1)) (.ref (ca t.2.1)) = some t.2.2 ∧ ExcC K (ca t.1)
theorem isa_nil {K : PySem.W.Frag} {ca : Nat → Addr} : IsaAll K ca [] := fun t h => nomatch h
theorem isa_cons {K : PySem.W.Frag} {ca : Nat → Addr} {t : Nat × Nat × Bool} {l : List (Nat × Nat × Bool)} (h : PySem.W.exmOne K (.ref (ca t.1)) (.ref (ca t.2.1)) = some t.2.2 ∧ PySem.W.kitOne K (.ref (ca t.1)) (.ref (ca t.2.1)) = some t.2.2 ∧ ExcC K (ca t.1)) (r : IsaAll K ca l) : IsaAll K ca (t :: l) := fun x hx => by
  rcases List.mem_cons.mp hx with rfl | hx
  · exact h
  · exact r x hx
theorem isa_ok {K : PySem.W.Frag} {ca : Nat → Addr} {P : Prog} {c m : Nat} {b : Bool} (h : IsaAll K ca P.isx) (e : P.isa c m = some b) : PySem.W.exmOne K (.ref (ca c)) (.ref (ca m)) = some b ∧ PySem.W.kitOne K (.ref (ca c)) (.ref (ca m)) = some b ∧ ExcC K (ca c) := by
  unfold Prog.isa at e
  obtain ⟨t, h1, rfl⟩ := Option.map_eq_some_iff.mp e
  have h2 := List.find?_some h1
  rw [Bool.and_eq_true, beq_iff_eq, beq_iff_eq] at h2
  have h3 := h t (List.mem_of_find?_eq_some h1)
  rw [h2.1, h2.2] at h3
  exact h3
/-- the law's walk -/
theorem walk {l : PySem.W.OpenLaw} {q : Program} {loose : List Str} {XP : (Str → Option Value) → Heap → Prop} {YP : World → Heap → Prop} {d : DefRec} {K : Params → PySem.W.Frag} (k : Nat) (g : List D → Sto → R D) (hn : l.most = some 63) (hdf : d.params.defaults = []) (hr : Room k callerA)
    (hY : ∀ (w : World) (h : Heap), YP w h → (K w.params).In h)
    (F : ∀ (w : World) (mg : Str → Option Value) (fa : Addr) (h : Heap), (K w.params).In h → h.Ns mainGlobals mg → mg d.name = some (.ref fa) →
      ∃ fd : FuncData, (∀ (s : Shared) (u : Value), BindsTo s fd ⟨[u], []⟩ [("script", u)]) ∧ ∀ base : Heap, (K w.params).In base → base.Ns mainGlobals mg → FnOk l.prog w (K w.params) mg base (L2.CX l.prog w) k fa fd ["script"] (spL (K w.params) g))
    (hL : ∀ ns : List Int, ns.length ≤ 63 → ∃ S, g [.scr ns] [] = .ok (.bl true) S) : PySem.W.WalkO q loose XP YP l.row.toRowW d [] (fun f vs => PySem.call f vs) :=
  L2.walk_of (n := 63) (k := k) (x := "script") (CX := fun w => L2.CX l.prog w) (sp := fun w => spL (K w.params) g) hn (by decide) hdf hr hY F (fun w H a ns hl hO hS => spL_law hO hS (hL ns hl)) fun w H s e s' h => by
    obtain ⟨_, _, _, _, _, _, _, _, _, _, _, _, z⟩ := h
    exact z
end PL

set_option Elab.async false
set_option linter.all false
set_option maxRecDepth 100000
set_option maxHeartbeats 1000000
/-! PLu: the law's walk, where keys are made by lambdas: the store begins with their code tables. -/
namespace PL
open PySem PySem.Spec PyProof.Rows L2
def spT (K : PySem.W.Frag) (ta : List Nat → Addr) (g : List D → Sto → R D) : Sp := fun vs H Q E => vs.length = 1 ∧ ∀ A : Ad, A.K = K → A.ta = ta → spF A 1 g vs H Q E
/-- the law's promise, at once -/
def spW (K : PySem.W.Frag) (ta : List Nat → Addr) (qs : List (List Nat)) : Sp := fun vs H Q E => ∃ (a : Addr) (ns : List Int), vs = [.ref a] ∧ ns.length ≤ 63 ∧ SqL K H a (ns.map V.int) ∧ (∀ q ∈ qs, H (ta q) = some (.tbl #[])) ∧ Q = (fun v _ => v = .bl true) ∧ E = fun _ _ _ => False
section
variable {P : Program} {w : World} {K : PySem.W.Frag} {mg : Str → Option Value} {base : Heap} {k : Nat} {f : Addr} {fd : FuncData} {x : Str} {ta : List Nat → Addr} {qs : List (List Nat)} {g : List D → Sto → R D}
theorem spT_at (nd : (qs.map ta).Nodup) {H : Hp} {a : Addr} {ns : List Int} (hT : ∀ q ∈ qs, H (ta q) = some (.tbl #[])) (hS : Scr K H a (ns.map V.int)) (h : ∃ S, g [.scr ns] (qs.map O.tab) = .ok (.bl true) S) : spT K ta g [.ref a] H (fun v _ => v = .bl true) fun _ _ _ => False := by
  refine ⟨rfl, fun A e1 e2 => ⟨rfl, qs.map ta, [.scr ns], qs.map O.tab, ⟨by simp, nd, fun b hb => ?_, fun i o b h1 h2 => ?_⟩, ⟨_, [], rfl, ⟨a, rfl, e1 ▸ hS⟩, rfl⟩, ?_⟩⟩
  · obtain ⟨q, hq, rfl⟩ := List.mem_map.mp hb
    exact ⟨_, hT q hq, trivial⟩
  · rw [List.getElem?_map] at h1 h2
    obtain ⟨q, g1, rfl⟩ := Option.map_eq_some_iff.mp h1
    rw [g1] at h2
    cases h2
    refine ⟨by rw [e2], #[], hT q (List.mem_of_getElem? g1), trivial, fun pos cv hc => ?_⟩
    have z : codeAmong pos [] = some cv := hc
    simp [codeAmong] at z
  · obtain ⟨S, h⟩ := h
    rw [h]
    exact fun m' H' b _ _ rv => rv
theorem cx_calm {outer : List PySem.Env} {H : Hp} {s s' : Shared} {e : Value} (h : L2.CX P w outer H s (fun _ _ _ => False) e s') : False := by
  obtain ⟨_, _, _, _, _, _, _, _, _, _, _, _, z⟩ := h
  exact z
theorem FnOk.script (F : FnOk P w K mg base (L2.CX P w) k f fd [x] (spT K ta g)) (nd : (qs.map ta).Nodup) (hg : ∀ ns : List Int, ns.length ≤ 63 → ∃ S, g [.scr ns] (qs.map O.tab) = .ok (.bl true) S) : FnOk P w K mg base (L2.CX P w) k f fd [x] (spW K ta qs) := by
  refine ⟨fun vs H Q E h => ?_, fun A outer s H args us vs Q E hr e0 hb rv h => ?_⟩
  · obtain ⟨a, ns, rfl, _⟩ := h
    rfl
  obtain ⟨a, ns, rfl, hl, hS, hT, rfl, rfl⟩ := h
  rcases hS with (hS | ⟨o, hS⟩) | hS
  · obtain ⟨hz, its, n, rv2, ho⟩ := e0.hok a _ hS
    generalize eo : ({ cls := .type "list", data := .seq its.toArray n } : Obj) = ob at ho
    have ne : ∀ b, H b = none → b ≠ a := fun b e z => by rw [z, hS] at e; cases e
    have up : ∀ {b : Addr} {u : HO}, b ≠ a → H b = some u → upd H a (.frz ob (.lst (ns.map V.int))) b = some u := fun h e => by rw [upd_ne h]; exact e
    have upn : ∀ {b : Addr}, H b = none → upd H a (.frz ob (.lst (ns.map V.int))) b = none := fun {b} e => by rw [upd_ne (ne b e)]; exact e
    have ok2 : HOk P w (upd H a (.frz ob (.lst (ns.map V.int)))) s.heap := fun b u e => by
      by_cases h : b = a
      · rw [h, upd_same] at e
        cases e
        rw [h]
        exact ⟨ho, hz, its, n, rv2, by rw [ho, eo]⟩
      · rw [upd_ne h] at e
        exact (e0.hok b u e).stay (fun c v _ q => q) (fun c q => up (fun z => by rw [z, hS] at q; cases q) q) fun c xs q => up (fun z => by rw [z, hS] at q; cases q) q
    have r := F.run A outer s (upd H a (.frz ob (.lst (ns.map V.int)))) args us [.ref a] _ _ hr ⟨e0.frames, e0.mod, fun b o e => ⟨(e0.bs b o e).1, upn (e0.bs b o e).2⟩, e0.bsz, e0.funs, fun b hb => upn (e0.frf b hb), ok2, e0.bare⟩ hb rv
      (spT_at nd (fun q hq => up (fun z => by have := hT q hq; rw [z, hS] at this; cases this) (hT q hq)) (.inl ⟨ob, upd_same⟩) (hg ns hl))
    refine codeAny_mono r fun r s' hq => ?_
    cases r with
    | error e => exact (cx_calm hq).elim
    | ok fl =>
      cases fl with
      | next => exact False.elim hq
      | brk => exact False.elim hq
      | cont => exact False.elim hq
      | ret u =>
        obtain ⟨v, H', os, bare, un, hok', r', q⟩ := hq
        have ha := un.frzs a _ _ upd_same
        have nh : ∀ b u, H' b = some u → (∀ z y, u ≠ .frz z y) → b ≠ a := fun b u e n z => by
          rw [z, ha] at e
          exact n _ _ (Option.some.inj e).symm
        refine ⟨v, upd H' a (.lst (ns.map V.int)), os, bare, ⟨fun b o e n => un.keep b o e (upn n), fun b o e n => un.slot b o e (upn n), fun b o e n nx => ?_, un.there, fun b xs e => ?_, fun b o u e => ?_, fun b ps e => ?_⟩, fun b u e => ?_, r', q⟩
        · rw [upd_ne (ne b n)]
          exact un.free b o e (upn n) nx
        · have h : b ≠ a := fun z => by rw [z, hS] at e; cases e
          rw [upd_ne h]
          exact un.tups b xs (up h e)
        · have h : b ≠ a := fun z => by rw [z, hS] at e; cases e
          rw [upd_ne h]
          exact un.frzs b o u (up h e)
        · have h : b ≠ a := fun z => by rw [z, hS] at e; cases e
          rw [upd_ne h]
          exact un.tbls b ps (up h e)
        · by_cases h : b = a
          · rw [h, upd_same] at e
            cases e
            rw [h]
            exact (hok' a _ ha).2
          · rw [upd_ne h] at e
            exact (hok' b u e).stay (fun c v _ q => q) (fun c q => by rw [upd_ne (nh c _ q fun _ _ z => by cases z)]; exact q) fun c xs q => by rw [upd_ne (nh c _ q fun _ _ z => by cases z)]; exact q
  · exact F.run A outer s H args us [.ref a] _ _ hr e0 hb rv (spT_at nd hT (.inl ⟨o, hS⟩) (hg ns hl))
  · exact F.run A outer s H args us [.ref a] _ _ hr e0 hb rv (spT_at nd hT (.inr hS) (hg ns hl))
end
theorem fun_code {K : PySem.W.Frag} {x q : Str} {st : Stmt} {f : Addr} {fd fd0 : FuncData} {oc : Value} {od : Option Addr} {osl : Array (Option Value)} (F : Fun K x q st f fd) (l : K.lookup f = some ⟨oc, od, .func fd0, osl⟩) : fd = fd0 := by
  obtain ⟨_, _, _, _, _, _, _, _, _, _, lk, _⟩ := F.ex
  rw [l] at lk
  injection lk with lk
  injection lk with _ _ h _
  injection h with h
  exact h.symm
/-! lists of facts -/
theorem all_nil {p : Str → Prop} : ∀ f ∈ ([] : List Str), p f := fun f h => nomatch h
theorem all_cons {p : Str → Prop} {x : Str} {l : List Str} (h : p x) (r : ∀ f ∈ l, p f) : ∀ f ∈ x :: l, p f := fun f hf => by
  rcases List.mem_cons.mp hf with rfl | hf
  · exact h
  · exact r f hf
theorem lookup_mem_n {k : Nat × Str} {v : Nat} : ∀ {l : List ((Nat × Str) × Nat)}, l.lookup k = some v → (k, v) ∈ l
  | [], h => by cases h
  | (a, b) :: l, h => by
    rw [List.lookup_cons] at h
    split at h
    · rename_i e
      cases h
      rw [beq_iff_eq.mp e]
      exact List.mem_cons_self
    · exact List.mem_cons_of_mem _ (lookup_mem_n h)
def MeAll (P : Prog) (A : Ad) (l : List ((Nat × Str) × Nat)) : Prop := ∀ t ∈ l, Cls A.K (A.ca t.1.1) ∧ Meth A.K (A.ca t.1.1) t.1.2 (A.fa t.2) ∧ ∃ e, P.ents[t.2]? = some e
theorem me_nil {P : Prog} {A : Ad} : MeAll P A [] := fun t h => nomatch h
theorem me_cons {P : Prog} {A : Ad} {t : (Nat × Str) × Nat} {l : List ((Nat × Str) × Nat)} (h : Cls A.K (A.ca t.1.1) ∧ Meth A.K (A.ca t.1.1) t.1.2 (A.fa t.2) ∧ ∃ e, P.ents[t.2]? = some e) (r : MeAll P A l) : MeAll P A (t :: l) := fun x hx => by
  rcases List.mem_cons.mp hx with rfl | hx
  · exact h
  · exact r x hx
theorem me_all {P : Prog} {A : Ad} (h : MeAll P A P.meths) {i : Nat} {m : Str} {f : Nat} (e : P.methF i m = some f) (_ : A.okc i) : Cls A.K (A.ca i) ∧ Meth A.K (A.ca i) m (A.fa f) ∧ ∃ e, P.ents[f]? = some e := h ((i, m), f) (lookup_mem_n (show P.meths.lookup (i, m) = some f from e))
def MkAll (P : Prog) (A : Ad) (mg : Str → Option Value) (l : List (Str × Nat)) : Prop := ∀ t ∈ l, mg t.1 = some (.ref (A.ca t.2)) ∧ A.okc t.2 ∧ ∃ f, P.initF t.2 = some f ∧ Mk A.K (A.ca t.2) (A.fa f) ∧ ∃ e, P.ents[f]? = some e
theorem mk_nil {P : Prog} {A : Ad} {mg : Str → Option Value} : MkAll P A mg [] := fun t h => nomatch h
theorem mk_cons {P : Prog} {A : Ad} {mg : Str → Option Value} {t : Str × Nat} {l : List (Str × Nat)} (h : mg t.1 = some (.ref (A.ca t.2)) ∧ A.okc t.2 ∧ ∃ f, P.initF t.2 = some f ∧ Mk A.K (A.ca t.2) (A.fa f) ∧ ∃ e, P.ents[f]? = some e) (r : MkAll P A mg l) : MkAll P A mg (t :: l) := fun x hx => by
  rcases List.mem_cons.mp hx with rfl | hx
  · exact h
  · exact r x hx
theorem mk_all {P : Prog} {A : Ad} {mg : Str → Option Value} (h : MkAll P A mg P.ks) {x : Str} {i : Nat} (e : (x, i) ∈ P.ks) : mg x = some (.ref (A.ca i)) ∧ A.okc i ∧ ∃ f, P.initF i = some f ∧ Mk A.K (A.ca i) (A.fa f) ∧ ∃ e, P.ents[f]? = some e := h (x, i) e
/-- the law's walk, with tables -/
theorem walkT {l : PySem.W.OpenLaw} {q : Program} {loose : List Str} {XP : (Str → Option Value) → Heap → Prop} {YP : World → Heap → Prop} {d : DefRec} {K : Params → PySem.W.Frag} (k : Nat) (g : List D → Sto → R D) (qs : List (List Nat)) (hn : l.most = some 63) (hdf : d.params.defaults = []) (hr : Room k callerA)
    (hY : ∀ (w : World) (h : Heap), YP w h → (K w.params).In h)
    (F : ∀ (w : World) (mg : Str → Option Value) (fa : Addr) (h : Heap), YP w h → (K w.params).In h → h.Ns mainGlobals mg → mg d.name = some (.ref fa) →
      ∃ (fd : FuncData) (cs : List (Addr × Addr)) (ta : List Nat → Addr), cs.map (·.2) = qs.map ta ∧ (qs.map ta).Nodup ∧ (∀ p ∈ cs, h.get? p.2 = some { cls := .none, data := .fields #[] }) ∧ (∀ p ∈ cs, (K w.params).lookup p.2 = none) ∧ (∀ p ∈ cs, PySem.W.CodeHd h p.1 p.2) ∧
        (∀ (s : Shared) (u : Value), BindsTo s fd ⟨[u], []⟩ [("script", u)]) ∧ ∀ base : Heap, (K w.params).In base → base.Ns mainGlobals mg → (∀ p ∈ cs, LamX.TabB base mg p.1 p.2) → FnOk l.prog w (K w.params) mg base (L2.CX l.prog w) k fa fd ["script"] (spT (K w.params) ta g))
    (hL : ∀ ns : List Int, ns.length ≤ 63 → ∃ S, g [.scr ns] (qs.map O.tab) = .ok (.bl true) S) : PySem.W.WalkO q loose XP YP l.row.toRowW d [] (fun f vs => PySem.call f vs) :=
  LamX.walk_ofTs (n := 63) (k := k) (x := "script") (CX := fun w => L2.CX l.prog w) hn (by decide) hdf hr hY (fun w mg fa h Y X G hm => by
    obtain ⟨fd, cs, ta, e, nd, h1, h2, h3, h4, h5⟩ := F w mg fa h Y X G hm
    refine ⟨fd, cs, spW (K w.params) ta qs, h1, h2, h3, h4, fun H a ns hl _ hH hS => ⟨a, ns, rfl, hl, hS, fun q hq => ?_, rfl, rfl⟩, fun base b1 b2 b3 => FnOk.script (h5 base b1 b2 b3) nd hL⟩
    have : ta q ∈ cs.map (·.2) := by rw [e]; exact List.mem_map.mpr ⟨q, hq, rfl⟩
    obtain ⟨p, hp, ep⟩ := List.mem_map.mp this
    rw [← ep]
    exact hH p hp) fun w H s e s' h => cx_calm h
end PL

set_option Elab.async false
set_option linter.all false
set_option maxRecDepth 100000
set_option maxHeartbeats 1000000
/-! PLE: what the evaluator computes, in plain Lean: data, stores, the draws of the laws. -/
namespace PL
open PySem
/-! ### data: ints, texts, tuples of data -/
mutual
def D.dat : D → Bool
  | .int _ => true
  | .str x => PyData.strOk ⟨x.toArray⟩
  | .tup xs => D.dats xs
  | _ => false
def D.dats : List D → Bool
  | [] => true
  | x :: xs => D.dat x && D.dats xs
end
mutual
def D.dep : D → Nat
  | .tup xs => D.deps xs + 1
  | _ => 0
def D.deps : List D → Nat
  | [] => 0
  | x :: xs => max (D.dep x) (D.deps xs)
end
mutual
theorem dat_py : ∀ x : D, x.dat = true → ∃ p, x.py = some p ∧ p.canLay0 = true ∧ p.depth = x.dep
  | .int i, _ => ⟨.int i, by simp only [D.py], by simp only [PyData.canLay0], by simp only [PyData.depth, D.dep]⟩
  | .str x, h => ⟨.str ⟨x.toArray⟩, by simp only [D.py], by simpa only [PyData.canLay0, D.dat] using h, by simp only [PyData.depth, D.dep]⟩
  | .tup xs, h => by
    obtain ⟨ps, h1, h2, h3⟩ := dats_py xs (by simpa only [D.dat] using h)
    exact ⟨.tuple ps, by simp only [D.py, h1, Option.map_some], by simpa only [PyData.canLay0] using h2, by simp only [PyData.depth, D.dep, h3]⟩
  | .non, h => by simp [D.dat] at h
  | .bl _, h => by simp [D.dat] at h
  | .scr _, h => by simp [D.dat] at h
  | .ob _, h => by simp [D.dat] at h
  | .fn _, h => by simp [D.dat] at h
theorem dats_py : ∀ xs : List D, D.dats xs = true → ∃ ps, D.pys xs = some ps ∧ PyData.canLayAll0 ps = true ∧ PyData.depthAll ps = D.deps xs
  | [], _ => ⟨[], by simp only [D.pys], by simp only [PyData.canLayAll0], by simp only [PyData.depthAll, D.deps]⟩
  | x :: xs, h => by
    have h : (D.dat x && D.dats xs) = true := by simpa only [D.dats] using h
    rw [Bool.and_eq_true] at h
    obtain ⟨p, h1, h2, h3⟩ := dat_py x h.1
    obtain ⟨ps, k1, k2, k3⟩ := dats_py xs h.2
    exact ⟨p :: ps, by simp only [D.pys, h1, k1], by simp only [PyData.canLayAll0, h2, k2, Bool.and_true], by simp only [PyData.depthAll, D.deps, h3, k3]⟩
end
theorem decide_and_cons {α : Type} [DecidableEq α] (x y : α) (xs ys : List α) : (decide (x = y) && decide (xs = ys)) = decide (x :: xs = y :: ys) := by
  by_cases h1 : x = y
  · by_cases h2 : xs = ys <;> simp [h1, h2]
  · simp [h1]
theorem str_beq (x y : List Nat) : ((⟨x.toArray⟩ : Str) == (⟨y.toArray⟩ : Str)) = decide (x = y) := by
  by_cases h : x = y
  · subst h
    simp
  · simp only [h, decide_false]
    refine beq_eq_false_iff_ne.mpr fun e => h ?_
    injection e with e
    have := congrArg Array.toList e
    simpa using this
mutual
theorem dat_eqv : ∀ (x y : D) (p q : PyData), x.dat = true → y.dat = true → x.py = some p → y.py = some q → PyData.eqv p q = decide (x = y)
  | .int i, y, p, q, hx, hy, e1, e2 => by
    simp only [D.py] at e1
    cases e1
    cases y with
    | int j =>
      simp only [D.py] at e2
      cases e2
      simp only [PyData.eqv]
      by_cases h : i = j <;> simp [h]
    | str t => simp only [D.py] at e2; cases e2; simp [PyData.eqv]
    | tup ys =>
      simp only [D.py] at e2
      obtain ⟨qs, _, rfl⟩ := Option.map_eq_some_iff.mp e2
      simp [PyData.eqv]
    | _ => simp [D.dat] at hy
  | .str t, y, p, q, hx, hy, e1, e2 => by
    simp only [D.py] at e1
    cases e1
    cases y with
    | int j => simp only [D.py] at e2; cases e2; simp [PyData.eqv]
    | str u =>
      simp only [D.py] at e2
      cases e2
      simp only [PyData.eqv]
      rw [str_beq]
      by_cases h : t = u <;> simp [h]
    | tup ys =>
      simp only [D.py] at e2
      obtain ⟨qs, _, rfl⟩ := Option.map_eq_some_iff.mp e2
      simp [PyData.eqv]
    | _ => simp [D.dat] at hy
  | .tup xs, y, p, q, hx, hy, e1, e2 => by
    simp only [D.py] at e1
    obtain ⟨ps, f1, rfl⟩ := Option.map_eq_some_iff.mp e1
    cases y with
    | int j => simp only [D.py] at e2; cases e2; simp [PyData.eqv]
    | str t => simp only [D.py] at e2; cases e2; simp [PyData.eqv]
    | tup ys =>
      simp only [D.py] at e2
      obtain ⟨qs, f2, rfl⟩ := Option.map_eq_some_iff.mp e2
      simp only [PyData.eqv]
      rw [dats_eqv xs ys ps qs (by simpa only [D.dat] using hx) (by simpa only [D.dat] using hy) f1 f2]
      by_cases h : xs = ys <;> simp [h]
    | _ => simp [D.dat] at hy
  | .non, _, _, _, h, _, _, _ => by simp [D.dat] at h
  | .bl _, _, _, _, h, _, _, _ => by simp [D.dat] at h
  | .scr _, _, _, _, h, _, _, _ => by simp [D.dat] at h
  | .ob _, _, _, _, h, _, _, _ => by simp [D.dat] at h
  | .fn _, _, _, _, h, _, _, _ => by simp [D.dat] at h
theorem dats_eqv : ∀ (xs ys : List D) (ps qs : List PyData), D.dats xs = true → D.dats ys = true → D.pys xs = some ps → D.pys ys = some qs → PyData.eqvAll ps qs = decide (xs = ys)
  | [], ys, ps, qs, hx, hy, e1, e2 => by
    simp only [D.pys] at e1
    cases e1
    cases ys with
    | nil => simp only [D.pys] at e2; cases e2; simp [PyData.eqvAll]
    | cons y ys =>
      simp only [D.pys] at e2
      split at e2
      · cases e2; simp [PyData.eqvAll]
      · cases e2
  | x :: xs, ys, ps, qs, hx, hy, e1, e2 => by
    have hx : (D.dat x && D.dats xs) = true := by simpa only [D.dats] using hx
    rw [Bool.and_eq_true] at hx
    simp only [D.pys] at e1
    split at e1
    · rename_i p ps' g1 g2
      cases e1
      cases ys with
      | nil => simp only [D.pys] at e2; cases e2; simp [PyData.eqvAll]
      | cons y ys =>
        have hy : (D.dat y && D.dats ys) = true := by simpa only [D.dats] using hy
        rw [Bool.and_eq_true] at hy
        simp only [D.pys] at e2
        split at e2
        · rename_i q qs' g3 g4
          cases e2
          simp only [PyData.eqvAll]
          rw [dat_eqv x y p q hx.1 hy.1 g1 g3, dats_eqv xs ys ps' qs' hx.2 hy.2 g2 g4, decide_and_cons]
        · cases e2
    · cases e1
end
theorem eqD_dat {x y : D} (hx : x.dat = true) (hy : y.dat = true) (dx : x.dep ≤ 64) (dy : y.dep ≤ 64) : eqD x y = some (decide (x = y)) := by
  obtain ⟨p, h1, h2, h3⟩ := dat_py x hx
  obtain ⟨q, k1, k2, k3⟩ := dat_py y hy
  unfold eqD
  rw [h1, k1]
  dsimp only
  have s1 : SeqAt.shaped p = true := by unfold SeqAt.shaped; rw [h2, h3]; simpa using dx
  have s2 : SeqAt.shaped q = true := by unfold SeqAt.shaped; rw [k2, k3]; simpa using dy
  rw [s1, s2]
  simp only [Bool.and_self, if_true]
  rw [dat_eqv x y p q hx hy h1 k1]
theorem eqD_int (i j : Int) : eqD (.int i) (.int j) = some (decide (i = j)) := by
  rw [eqD_dat (by rfl) (by rfl) (Nat.zero_le _) (Nat.zero_le _)]
  by_cases h : i = j <;> simp [h]
/-! ### stores -/
theorem lstAt_of {S : Sto} {i : Nat} {xs : List D} (h : S[i]? = some (.lst xs)) : lstAt S i = some xs := by unfold lstAt; rw [h]
theorem dctAt_of {S : Sto} {i : Nat} {xs : List D} (h : S[i]? = some (.lst xs)) : dctAt S i = none := by unfold dctAt; rw [h]
theorem idxD_of {S : Sto} {i : Nat} {xs : List D} {k : Int} (h : S[i]? = some (.lst xs)) : idxD S (.ob i) (.int k) = atI xs k := by
  unfold idxD
  simp only [dctAt_of h, lstAt_of h]
theorem setD_of {S : Sto} {i : Nat} {xs : List D} {k : Int} {v : D} (h : S[i]? = some (.lst xs)) : setD (.ob i) (.int k) v S = (ixN xs.length k).map fun n => S.set i (.lst (xs.set n v)) := by
  unfold setD
  simp only [dctAt_of h, lstAt_of h]
theorem lenD_of {S : Sto} {i : Nat} {xs : List D} (h : S[i]? = some (.lst xs)) : lenD [.ob i] S = some (.int xs.length) := by
  unfold lenD
  simp only [dctAt_of h, lstAt_of h, Option.map_some]
theorem trunc_len {S S1 : Sto} {d : D} (h : S1.length = S.length) : PL.trunc S (.ok d S1) = .ok d S1 := by
  unfold PL.trunc
  dsimp only
  split
  · rename_i hc
    rw [Bool.and_eq_true, decide_eq_true_eq] at hc
    have : S1 = S := by rw [← hc.2, ← h, List.take_length]
    rw [this]
  · rfl
theorem trunc_self {S : Sto} {d : D} : PL.trunc S (.ok d S) = .ok d S := trunc_len rfl
end PL

set_option Elab.async false
set_option linter.all false
set_option maxRecDepth 100000
set_option maxHeartbeats 1000000
/-! PLF: the draws of the laws. -/
namespace PL
open PySem
def bStart : Ss :=
    .cons (.ret (.own (.disp (.cons (.own (.listOf (.var 0))) (.cons (.cst (.int 0)) (.cons (.cst (.int 0)) (.cons (.cst (.int 0)) (.nil)))))))) <|
    .nil
def bDraw : Ss :=
    .cons (.sub (.var 0) (.cst (.int 3)) (.bin .Add (.idx (.var 0) (.cst (.int 3))) (.cst (.int 1)))) <|
    .cons (.ite (.cmp .Gt (.idx (.var 0) (.cst (.int 2))) (.cst (.int 0))) (.cons (.asg (.nm 2) (.bin .Mod (.bi .int (.cons (.idx (.var 0) (.cst (.int 2))) (.nil))) (.var 1))) <|
    .cons (.sub (.var 0) (.cst (.int 2)) (.bin .FloorDiv (.idx (.var 0) (.cst (.int 2))) (.var 1))) <|
    .cons (.ret (.var 2)) <|
    .nil) (.nil)) <|
    .cons (.asg (.nm 3) (.cst (.int 0))) <|
    .cons (.ite (.cmp .Gt (.bi .len (.cons (.idx (.var 0) (.cst (.int 0))) (.nil))) (.cst (.int 0))) (.cons (.asg (.nm 3) (.bi .abs (.cons (.idx (.idx (.var 0) (.cst (.int 0))) (.bin .Mod (.bi .int (.cons (.idx (.var 0) (.cst (.int 1))) (.nil))) (.bi .len (.cons (.idx (.var 0) (.cst (.int 0))) (.nil))))) (.nil)))) <|
    .nil) (.nil)) <|
    .cons (.sub (.var 0) (.cst (.int 1)) (.bin .Add (.idx (.var 0) (.cst (.int 1))) (.cst (.int 1)))) <|
    .cons (.ite (.cmp .GtE (.var 3) (.bin .Pow (.cst (.int 10)) (.cst (.int 18)))) (.cons (.sub (.var 0) (.cst (.int 2)) (.bin .FloorDiv (.var 3) (.var 1))) <|
    .cons (.ret (.bin .Mod (.bi .int (.cons (.var 3) (.nil))) (.var 1))) <|
    .nil) (.nil)) <|
    .cons (.asg (.nm 4) (.bin .Mod (.bi .int (.cons (.bin .Add (.bin .Mult (.bin .Add (.var 3) (.cst (.int 1))) (.cst (.int 48271))) (.bin .Mult (.idx (.var 0) (.cst (.int 3))) (.cst (.int 69621)))) (.nil))) (.cst (.int 2147483647)))) <|
    .cons (.asg (.nm 4) (.bin .Mod (.bi .int (.cons (.bin .Add (.bin .Add (.bin .Mult (.var 4) (.cst (.int 16807))) (.bin .FloorDiv (.var 3) (.cst (.int 97)))) (.idx (.var 0) (.cst (.int 3)))) (.nil))) (.cst (.int 2147483629)))) <|
    .cons (.ret (.bin .Mod (.bin .FloorDiv (.var 4) (.cst (.int 11))) (.var 1))) <|
    .nil
/-! ### steps -/
section
variable {T : Tab} {ρ ρ1 : Env} {S S1 : Sto} {f : F}
@[simp] theorem ev_cst {d : D} : evE T (.cst d) ρ S = .ok d S := rfl
@[simp] theorem ev_gv {x : Str} {d : D} : evE T (.gv x d) ρ S = .ok d S := rfl
@[simp] theorem ev_var {i : Nat} : evE T (.var i) ρ S = (match ρ[i]? with
    | some (some d) => .ok d S
    | _ => .stuck) := rfl
@[simp] theorem ev_tup {es : Es} : evE T (.tup es) ρ S = (evEs T es ρ S).bind fun ds S1 => .ok (.tup ds) S1 := rfl
@[simp] theorem ev_neg {a : E} : evE T (.neg a) ρ S = (evE T a ρ S).bind fun x S1 => match x with
    | .int i => .ok (.int (-i)) S1
    | _ => .stuck := rfl
@[simp] theorem ev_not {a : E} : evE T (.not a) ρ S = (evE T a ρ S).bind fun x S1 => (ofOpt (truD S1 x) S1).bind fun b S1 => .ok (.bl (!b)) S1 := rfl
@[simp] theorem ev_bop {k : Bool} {es : Es} : evE T (.bop k es) ρ S = evB T k es ρ S := rfl
@[simp] theorem ev_bin {o : Operator} {a b : E} : evE T (.bin o a b) ρ S = (evE T a ρ S).bind fun x S1 => (evE T b ρ S1).bind fun y S2 => ofOpt (binD o x y) S2 := rfl
@[simp] theorem ev_eq {a b : E} : evE T (.cmp .Eq a b) ρ S = (evE T a ρ S).bind fun x S1 => (evE T b ρ S1).bind fun y S2 => (ofOpt (eqD x y) S2).bind fun k S2 => .ok (.bl k) S2 := rfl
@[simp] theorem ev_ne {a b : E} : evE T (.cmp .NotEq a b) ρ S = (evE T a ρ S).bind fun x S1 => (evE T b ρ S1).bind fun y S2 => (ofOpt ((eqD x y).map (!·)) S2).bind fun k S2 => .ok (.bl k) S2 := rfl
@[simp] theorem ev_gt {a b : E} : evE T (.cmp .Gt a b) ρ S = (evE T a ρ S).bind fun x S1 => (evE T b ρ S1).bind fun y S2 => (ofOpt (cmpD .Gt x y) S2).bind fun k S2 => .ok (.bl k) S2 := rfl
@[simp] theorem ev_ge {a b : E} : evE T (.cmp .GtE a b) ρ S = (evE T a ρ S).bind fun x S1 => (evE T b ρ S1).bind fun y S2 => (ofOpt (cmpD .GtE x y) S2).bind fun k S2 => .ok (.bl k) S2 := rfl
@[simp] theorem ev_lt {a b : E} : evE T (.cmp .Lt a b) ρ S = (evE T a ρ S).bind fun x S1 => (evE T b ρ S1).bind fun y S2 => (ofOpt (cmpD .Lt x y) S2).bind fun k S2 => .ok (.bl k) S2 := rfl
@[simp] theorem ev_le {a b : E} : evE T (.cmp .LtE a b) ρ S = (evE T a ρ S).bind fun x S1 => (evE T b ρ S1).bind fun y S2 => (ofOpt (cmpD .LtE x y) S2).bind fun k S2 => .ok (.bl k) S2 := rfl
@[simp] theorem ev_in {a b : E} : evE T (.cmp .In a b) ρ S = (evE T a ρ S).bind fun x S1 => (evE T b ρ S1).bind fun y S2 => (ofOpt (inSt S2 x y) S2).bind fun k S2 => .ok (.bl k) S2 := rfl
@[simp] theorem ev_nin {a b : E} : evE T (.cmp .NotIn a b) ρ S = (evE T a ρ S).bind fun x S1 => (evE T b ρ S1).bind fun y S2 => (ofOpt ((inSt S2 x y).map (!·)) S2).bind fun k S2 => .ok (.bl k) S2 := rfl
@[simp] theorem ev_ite {c a b : E} : evE T (.ite c a b) ρ S = (evE T c ρ S).bind fun x S1 => (ofOpt (truD S1 x) S1).bind fun k S1 => if k then evE T a ρ S1 else evE T b ρ S1 := rfl
@[simp] theorem ev_idx {a i : E} : evE T (.idx a i) ρ S = (evE T a ρ S).bind fun x S1 => (evE T i ρ S1).bind fun y S2 => ofOpt (idxD S2 x y) S2 := rfl
@[simp] theorem ev_call {x : Str} {f : Nat} {es : Es} : evE T (.call x f es) ρ S = (evEs T es ρ S).bind fun ds S1 => T.cf f ds S1 := rfl
@[simp] theorem ev_bi {b : BI} {es : Es} : evE T (.bi b es) ρ S = (evEs T es ρ S).bind fun ds S1 => ofOpt (biD b ds S1) S1 := rfl
@[simp] theorem ev_bm {m : BM} {o : E} {es : Es} : evE T (.bm m o es) ρ S = (evE T o ρ S).bind fun x S1 => if recvOk m x S1 then (evEs T es ρ S1).bind fun ds S2 => bmD m x ds S2 else .stuck := rfl
@[simp] theorem ev_isi {a : E} {t : Ty} : evE T (.isi a t) ρ S = (evE T a ρ S).bind fun x S1 => (ofOpt (isiD S1 x t) S1).bind fun b S1 => .ok (.bl b) S1 := rfl
@[simp] theorem ev_own {l : L} : evE T (.own l) ρ S = (evL T l ρ S).bind fun xs S1 => .ok (.ob S1.length) (S1 ++ [.lst xs]) := rfl
@[simp] theorem ev_tupL {l : L} : evE T (.tupL l) ρ S = (evL T l ρ S).bind fun xs S1 => .ok (.tup xs) S1 := rfl
@[simp] theorem ev_allL {l : L} : evE T (.allL l) ρ S = (evL T l ρ S).bind fun xs S1 => ofOpt ((allBl xs).map fun bs => .bl (bs.all id)) S1 := rfl
@[simp] theorem ev_nil : evEs T .nil ρ S = .ok [] S := rfl
@[simp] theorem ev_cons {e : E} {es : Es} : evEs T (.cons e es) ρ S = (evE T e ρ S).bind fun x S1 => (evEs T es ρ S1).bind fun xs S2 => .ok (x :: xs) S2 := rfl
@[simp] theorem ev_b1 {k : Bool} {e : E} : evB T k (.cons e .nil) ρ S = evE T e ρ S := rfl
@[simp] theorem ev_b2 {k : Bool} {e e2 : E} {es : Es} : evB T k (.cons e (.cons e2 es)) ρ S = (evE T e ρ S).bind fun x S1 => (ofOpt (truD S1 x) S1).bind fun b S1 => if b = k then evB T k (.cons e2 es) ρ S1 else .ok x S1 := rfl
@[simp] theorem ev_t0 : evT T .nil ρ S = .ok true S := rfl
@[simp] theorem ev_t1 {e : E} {es : Es} : evT T (.cons e es) ρ S = (evE T e ρ S).bind fun x S1 => (ofOpt (truD S1 x) S1).bind fun b S1 => if b then evT T es ρ S1 else .ok false S1 := rfl
@[simp] theorem ev_disp {es : Es} : evL T (.disp es) ρ S = evEs T es ρ S := rfl
@[simp] theorem ev_listOf {e : E} : evL T (.listOf e) ρ S = (evE T e ρ S).bind fun x S1 => ofOpt (seqOf S1 x) S1 := rfl
@[simp] theorem tru_bl {b : Bool} : truD S (.bl b) = some b := rfl
@[simp] theorem bin_add {a b : Int} : binD .Add (.int a) (.int b) = some (.int (a + b)) := rfl
@[simp] theorem bin_sub {a b : Int} : binD .Sub (.int a) (.int b) = some (.int (a - b)) := rfl
@[simp] theorem bin_mul {a b : Int} : binD .Mult (.int a) (.int b) = if a.natAbs.log2 + b.natAbs.log2 < 1000000 then some (.int (a * b)) else none := rfl
@[simp] theorem bin_div {a b : Int} : binD .FloorDiv (.int a) (.int b) = if 0 < b ∧ b.natAbs.log2 < 9000 then some (.int (a / b)) else none := rfl
@[simp] theorem bin_mod {a b : Int} : binD .Mod (.int a) (.int b) = if 0 < b then some (.int (a % b)) else none := rfl
@[simp] theorem cmp_gt {a b : Int} : cmpD .Gt (.int a) (.int b) = some (decide (b < a)) := rfl
@[simp] theorem cmp_ge {a b : Int} : cmpD .GtE (.int a) (.int b) = some (decide (b ≤ a)) := rfl
@[simp] theorem cmp_lt {a b : Int} : cmpD .Lt (.int a) (.int b) = some (decide (a < b)) := rfl
@[simp] theorem cmp_le {a b : Int} : cmpD .LtE (.int a) (.int b) = some (decide (a ≤ b)) := rfl
@[simp] theorem bi_int {a : Int} : biD .int [.int a] S = some (.int a) := rfl
@[simp] theorem bi_abs {a : Int} : biD .abs [.int a] S = some (.int (if a < 0 then -a else a)) := rfl
/-- one statement after another -/
theorem ss_step {s : St} {ss : Ss} : evSs T (.cons s ss) ρ S = (evS T s ρ S).andThen fun ρ1 S1 => evSs T ss ρ1 S1 := rfl
@[simp] theorem ss_none : evSs T .nil ρ S = .nx ρ S := rfl
@[simp] theorem es_asg {i : Nat} {e : E} : evS T (.asg (.nm i) e) ρ S = (evE T e ρ S).toF ρ fun d S1 => if i < ρ.length then .nx (ρ.set i (some d)) S1 else .stuck := by
  show ((evE T e ρ S).toF ρ fun d S1 => match asgG (.nm i) d ρ with
    | some ρ1 => .nx ρ1 S1
    | none => .stuck) = _
  congr 1
  funext d S1
  unfold asgG
  by_cases h : i < ρ.length
  · rw [if_pos h, if_pos h]
  · rw [if_neg h, if_neg h]
@[simp] theorem es_asgL {i : Nat} {l : L} : evS T (.asgL i l) ρ S = (evL T l ρ S).toF ρ fun xs S1 => if i < ρ.length then .nx (ρ.set i (some (.ob S1.length))) (S1 ++ [.lst xs]) else .stuck := rfl
@[simp] theorem es_sub {o i e : E} : evS T (.sub o i e) ρ S = (evE T e ρ S).toF ρ fun v S1 => (evE T o ρ S1).toF ρ fun x S2 => (evE T i ρ S2).toF ρ fun y S3 => match setD x y v S3 with
    | some S4 => .nx ρ S4
    | none => .stuck := rfl
@[simp] theorem es_ex {e : E} : evS T (.ex e) ρ S = (evE T e ρ S).toF ρ fun _ S1 => .nx ρ S1 := rfl
@[simp] theorem es_ite {c : E} {a b : Ss} : evS T (.ite c a b) ρ S = (evE T c ρ S).toF ρ fun x S1 => (ofOpt (truD S1 x) S1).toF ρ fun k S1 => if k then evSs T a ρ S1 else evSs T b ρ S1 := rfl
@[simp] theorem es_ret {e : E} : evS T (.ret e) ρ S = (evE T e ρ S).toF ρ fun d S1 => .ret d S1 := rfl
@[simp] theorem es_brk : evS T .brk ρ S = .brk ρ S := rfl
@[simp] theorem es_pass : evS T .pass ρ S = .nx ρ S := rfl
end
theorem ten18 : binD .Pow (.int 10) (.int 18) = some (.int 1000000000000000000) := by decide +kernel
theorem log_lt {n k : Nat} (h : n < 2 ^ k) (hk : 0 < k) : n.log2 < k := by
  by_cases h0 : n = 0
  · subst h0
    rw [Nat.log2_zero]
    exact hk
  · exact (Nat.log2_lt h0).mpr h
section
variable {T : Tab} {S : Sto} {i j : Nat} {a b c most : Int} {ns : List Int}
theorem draw_ok (hi : S[i]? = some (.lst [.ob j, .int a, .int b, .int c])) (hj : S[j]? = some (.lst (ns.map .int))) (ij : i ≠ j) (hm : 0 < most) (hm2 : most.natAbs.log2 < 9000) (h0 : 0 ≤ c) (hc : c < 1000000000000) :
    ∃ r a' b', 0 ≤ r ∧ r < most ∧ endF (evSs T bDraw (startE 5 [.ob i, .int most]) S) = .ok (.int r) (S.set i (.lst [.ob j, .int a', .int b', .int (c + 1)])) := by
  have hil : i < S.length := (List.getElem?_eq_some_iff.mp hi).1
  have at0 : ∀ w x y z : D, atI [w, x, y, z] 0 = some w := fun _ _ _ _ => rfl
  have at1 : ∀ w x y z : D, atI [w, x, y, z] 1 = some x := fun _ _ _ _ => rfl
  have at2 : ∀ w x y z : D, atI [w, x, y, z] 2 = some y := fun _ _ _ _ => rfl
  have at3 : ∀ w x y z : D, atI [w, x, y, z] 3 = some z := fun _ _ _ _ => rfl
  have ix : ∀ (w x y z : D) (S' : Sto) (v : D), S'[i]? = some (.lst [w, x, y, z]) → setD (.ob i) (.int 1) v S' = some (S'.set i (.lst [w, v, y, z])) ∧ setD (.ob i) (.int 2) v S' = some (S'.set i (.lst [w, x, v, z])) ∧ setD (.ob i) (.int 3) v S' = some (S'.set i (.lst [w, x, y, v])) :=
    fun w x y z S' v h => ⟨by rw [setD_of h] <;> rfl, by rw [setD_of h] <;> rfl, by rw [setD_of h] <;> rfl⟩
  have eρ : startE 5 [.ob i, .int most] = [some (.ob i), some (.int most), none, none, none] := rfl
  have get : ∀ x, (S.set i x)[i]? = some x := fun x => List.getElem?_set_self hil
  have getj : ∀ x, (S.set i x)[j]? = some (.lst (ns.map .int)) := fun x => by rw [List.getElem?_set_ne ij]; exact hj
  rw [eρ]
  unfold bDraw
  rw [ss_step]
  simp only [es_sub, ev_bin, ev_idx, ev_var, ev_cst, List.getElem?_cons_zero, R.bind_ok, idxD_of hi, at3, ofOpt_some, bin_add, R.toF_ok, (ix _ _ _ _ _ _ hi).2.2, F.andThen_nx]
  rw [ss_step]
  have g1 := get (.lst [.ob j, .int a, .int b, .int (c + 1)])
  generalize hS1 : S.set i (.lst [.ob j, .int a, .int b, .int (c + 1)]) = S1 at g1
  have gj1 : S1[j]? = some (.lst (ns.map .int)) := by rw [← hS1]; exact getj _
  simp only [es_ite, ev_gt, ev_idx, ev_var, ev_cst, List.getElem?_cons_zero, R.bind_ok, idxD_of g1, at2, ofOpt_some, cmp_gt, R.toF_ok, tru_bl]
  by_cases hb : 0 < b
  · refine ⟨b % most, a, b / most, Int.emod_nonneg _ (by omega), Int.emod_lt_of_pos _ hm, ?_⟩
    rw [decide_eq_true hb, if_pos rfl, ss_step]
    simp only [es_asg, ev_bin, ev_bi, ev_cons, ev_nil, ev_idx, ev_var, ev_cst, List.getElem?_cons_zero, List.getElem?_cons_succ, R.bind_ok, idxD_of g1, at2, ofOpt_some, bi_int, bin_mod, if_pos hm, R.toF_ok, List.length_cons, List.length_nil]
    rw [if_pos (by omega), F.andThen_nx, ss_step]
    simp only [es_sub, List.set_cons_succ, List.set_cons_zero, ev_bin, ev_idx, ev_var, ev_cst, List.getElem?_cons_zero, List.getElem?_cons_succ, R.bind_ok, idxD_of g1, at2, ofOpt_some, bin_div, if_pos (And.intro hm hm2), R.toF_ok, (ix _ _ _ _ _ _ g1).2.1, F.andThen_nx]
    rw [ss_step]
    simp only [es_ret, ev_var, List.getElem?_cons_zero, List.getElem?_cons_succ, R.toF_ok, F.andThen_ret, endF]
    rw [← hS1, List.set_set]
  · rw [decide_eq_false hb, if_neg (by simp), ss_none, F.andThen_nx, ss_step]
    simp only [es_asg, ev_cst, R.toF_ok, List.length_cons, List.length_nil]
    rw [if_pos (by omega), F.andThen_nx, ss_step]
    simp only [List.set_cons_succ, List.set_cons_zero]
    -- the cell
    have hcell : ∃ cell : Int, 0 ≤ cell ∧ evS T (.ite (.cmp .Gt (.bi .len (.cons (.idx (.var 0) (.cst (.int 0))) (.nil))) (.cst (.int 0))) (.cons (.asg (.nm 3) (.bi .abs (.cons (.idx (.idx (.var 0) (.cst (.int 0))) (.bin .Mod (.bi .int (.cons (.idx (.var 0) (.cst (.int 1))) (.nil))) (.bi .len (.cons (.idx (.var 0) (.cst (.int 0))) (.nil))))) (.nil)))) .nil) .nil)
        [some (.ob i), some (.int most), none, some (.int 0), none] S1 = .nx [some (.ob i), some (.int most), none, some (.int cell), none] S1 := by
      have hl : biD .len [.ob j] S1 = some (.int ns.length) := by
        show lenD [.ob j] S1 = _
        rw [lenD_of gj1, List.length_map]
      simp only [es_ite, ev_gt, ev_bi, ev_cons, ev_nil, ev_idx, ev_var, ev_cst, List.getElem?_cons_zero, R.bind_ok, idxD_of g1, at0, ofOpt_some, hl, cmp_gt, R.toF_ok, tru_bl]
      by_cases hn : 0 < (ns.length : Int)
      · rw [decide_eq_true hn, if_pos rfl, ss_step]
        have h1 : 0 ≤ a % (ns.length : Int) := Int.emod_nonneg _ (by omega)
        have h2 : a % (ns.length : Int) < (ns.length : Int) := Int.emod_lt_of_pos _ hn
        obtain ⟨z, hz⟩ : ∃ z : Int, atI (ns.map D.int) (a % (ns.length : Int)) = some (.int z) := by
          unfold atI L2.atI L2.ixN
          rw [List.length_map, if_pos h1, if_pos h2]
          have h3 : (a % (ns.length : Int)).toNat < ns.length := by omega
          exact ⟨ns[(a % (ns.length : Int)).toNat], by rw [Option.bind_some, List.getElem?_map, List.getElem?_eq_getElem h3]; rfl⟩
        refine ⟨if z < 0 then -z else z, by split <;> omega, ?_⟩
        simp only [es_asg, ev_bin, ev_bi, ev_cons, ev_nil, ev_idx, ev_var, ev_cst, List.getElem?_cons_zero, List.getElem?_cons_succ, R.bind_ok, idxD_of g1, at0, at1, ofOpt_some, bi_int, hl, bin_mod, if_pos hn, idxD_of gj1, hz, bi_abs, R.toF_ok, List.length_cons, List.length_nil]
        rw [if_pos (by omega)]
        rfl
      · rw [decide_eq_false hn, if_neg (by simp)]
        exact ⟨0, by omega, rfl⟩
    obtain ⟨cell, hc0, hce⟩ := hcell
    rw [hce, F.andThen_nx, ss_step]
    simp only [es_sub, ev_bin, ev_idx, ev_var, ev_cst, List.getElem?_cons_zero, R.bind_ok, idxD_of g1, at1, ofOpt_some, bin_add, R.toF_ok, (ix _ _ _ _ _ _ g1).1, F.andThen_nx]
    have e2 : S1.set i (.lst [.ob j, .int (a + 1), .int b, .int (c + 1)]) = S.set i (.lst [.ob j, .int (a + 1), .int b, .int (c + 1)]) := by rw [← hS1, List.set_set]
    rw [e2]
    have g2 := get (.lst [.ob j, .int (a + 1), .int b, .int (c + 1)])
    generalize hS2 : S.set i (.lst [.ob j, .int (a + 1), .int b, .int (c + 1)]) = S2 at g2
    rw [ss_step]
    simp only [es_ite, ev_ge, ev_bin, ev_var, ev_cst, List.getElem?_cons_zero, List.getElem?_cons_succ, R.bind_ok, ten18, ofOpt_some, cmp_ge, R.toF_ok, tru_bl]
    by_cases hbig : 1000000000000000000 ≤ cell
    · refine ⟨cell % most, a + 1, cell / most, Int.emod_nonneg _ (by omega), Int.emod_lt_of_pos _ hm, ?_⟩
      rw [decide_eq_true hbig, if_pos rfl, ss_step]
      simp only [es_sub, ev_bin, ev_var, ev_cst, List.getElem?_cons_zero, List.getElem?_cons_succ, R.bind_ok, ofOpt_some, bin_div, if_pos (And.intro hm hm2), R.toF_ok, (ix _ _ _ _ _ _ g2).2.1, F.andThen_nx]
      rw [ss_step]
      simp only [es_ret, ev_bin, ev_bi, ev_cons, ev_nil, ev_var, List.getElem?_cons_zero, List.getElem?_cons_succ, R.bind_ok, ofOpt_some, bi_int, bin_mod, if_pos hm, R.toF_ok, F.andThen_ret, endF]
      rw [← hS2, List.set_set]
    · rw [decide_eq_false hbig, if_neg (by simp), ss_none, F.andThen_nx, ss_step]
      have l1 : (cell + 1).natAbs.log2 < 60 := log_lt (by omega) (by omega)
      have l2 : (c + 1).natAbs.log2 < 60 := log_lt (by omega) (by omega)
      have k1 : (48271 : Int).natAbs.log2 < 60 := log_lt (by decide) (by omega)
      have k2 : (69621 : Int).natAbs.log2 < 60 := log_lt (by decide) (by omega)
      have k3 : (16807 : Int).natAbs.log2 < 60 := log_lt (by decide) (by omega)
      have k4 : (97 : Int).natAbs.log2 < 60 := log_lt (by decide) (by omega)
      have k5 : (11 : Int).natAbs.log2 < 60 := log_lt (by decide) (by omega)
      simp only [es_asg, ev_bin, ev_bi, ev_cons, ev_nil, ev_idx, ev_var, ev_cst, List.getElem?_cons_zero, List.getElem?_cons_succ, R.bind_ok, idxD_of g2, at3, ofOpt_some, bin_add, bin_mul, if_pos (show (cell + 1).natAbs.log2 + (48271 : Int).natAbs.log2 < 1000000 by omega), if_pos (show (c + 1).natAbs.log2 + (69621 : Int).natAbs.log2 < 1000000 by omega), bi_int, bin_mod, if_pos (show (0 : Int) < 2147483647 by decide), R.toF_ok, List.length_cons, List.length_nil]
      rw [if_pos (by omega), F.andThen_nx, ss_step]
      generalize hx : ((cell + 1) * 48271 + (c + 1) * 69621) % 2147483647 = x
      have x0 : 0 ≤ x := by rw [← hx]; exact Int.emod_nonneg _ (by omega)
      have x1 : x < 2147483647 := by rw [← hx]; exact Int.emod_lt_of_pos _ (by omega)
      have l3 : x.natAbs.log2 < 60 := log_lt (by omega) (by omega)
      simp only [List.set_cons_succ, List.set_cons_zero, es_asg, ev_bin, ev_bi, ev_cons, ev_nil, ev_idx, ev_var, ev_cst, List.getElem?_cons_zero, List.getElem?_cons_succ, R.bind_ok, idxD_of g2, at3, ofOpt_some, bin_add, bin_mul, bin_div, if_pos (show x.natAbs.log2 + (16807 : Int).natAbs.log2 < 1000000 by omega), if_pos (show (0 : Int) < 97 ∧ (97 : Int).natAbs.log2 < 9000 from ⟨by decide, by omega⟩), bi_int, bin_mod, if_pos (show (0 : Int) < 2147483629 by decide), R.toF_ok, List.length_cons, List.length_nil]
      rw [if_pos (by omega), F.andThen_nx, ss_step]
      generalize (x * 16807 + cell / 97 + (c + 1)) % 2147483629 = y
      simp only [List.set_cons_succ, List.set_cons_zero, es_ret, ev_bin, ev_var, ev_cst, List.getElem?_cons_zero, List.getElem?_cons_succ, R.bind_ok, ofOpt_some, bin_div, bin_mod, if_pos (show (0 : Int) < 11 ∧ (11 : Int).natAbs.log2 < 9000 from ⟨by decide, by omega⟩), if_pos hm, R.toF_ok, F.andThen_ret, endF]
      refine ⟨y / 11 % most, a + 1, b, Int.emod_nonneg _ (by omega), Int.emod_lt_of_pos _ hm, ?_⟩
      rw [← hS2]
end
end PL

set_option Elab.async false
set_option linter.all false
set_option maxRecDepth 100000
set_option maxHeartbeats 1000000
/-! PLG: loops, calls; the laws' own helpers. -/
namespace PL
open PySem
section
variable {p : Pg} {k f : Nat} {ds : List D} {S : Sto} {i : Fn}
theorem callF_succ : callF p (k + 1) = runFn p (callF p k) (callF p (k - 1)) := by cases k <;> rfl
/-- a call, by its body -/
theorem call_run (hi : p.fns[f]? = some i) (hl : ds.length = i.np) : callF p (k + 1) f ds S = PL.trunc S (endF (evSs ⟨callF p k, callF p (k - 1), p.meth, p.init, p.lit, p.isx⟩ i.body (startE i.nn ds) S)) := by
  rw [callF_succ]
  unfold runFn
  rw [hi]
  dsimp only
  rw [if_pos hl]
end
/-! ### loops -/
section
variable {T : Tab} {ρ : Env} {S : Sto}
theorem it_rng1 {a : E} : evIt T (.rng1 a) ρ S = (evE T a ρ S).bind fun x S1 => match x with
    | .int j => if small j then .ok { items := rngD 0 j.toNat 1 } S1 else .stuck
    | _ => .stuck := rfl
theorem it_rng2 {a b : E} : evIt T (.rng2 a b) ρ S = (evE T a ρ S).bind fun x S1 => (evE T b ρ S1).bind fun y S2 => match x, y with
    | .int i, .int j => if small i && small j then .ok { items := rngD i (j - i).toNat 1 } S2 else .stuck
    | _, _ => .stuck := rfl
theorem it_ofE {e : E} : evIt T (.ofE e) ρ S = (evE T e ρ S).bind fun x S1 => match x with
    | .tup xs => .ok { items := xs } S1
    | .scr xs => .ok { items := xs.map .int } S1
    | .str t => .ok { items := t.map fun c => .str [c] } S1
    | .ob i => match lstAt S1 i with
      | some xs => .ok { items := xs, watch := [(i, xs)] } S1
      | none => .stuck
    | _ => .stuck := rfl
theorem it_tup {e : E} {xs : List D} {S1 : Sto} (h : evE T e ρ S = .ok (.tup xs) S1) : evIt T (.ofE e) ρ S = .ok { items := xs } S1 := by
  rw [it_ofE, h]
  rfl
theorem it_lst {e : E} {i : Nat} {xs : List D} {S1 : Sto} (h : evE T e ρ S = .ok (.ob i) S1) (hl : S1[i]? = some (.lst xs)) : evIt T (.ofE e) ρ S = .ok { items := xs, watch := [(i, xs)] } S1 := by
  rw [it_ofE, h]
  simp only [R.bind_ok, lstAt_of hl]
theorem small_of {i : Int} (h1 : i.natAbs ≤ 1000000000) : small i = true := decide_eq_true (Nat.lt_of_le_of_lt h1 (by decide))
theorem it_n {e : E} {n : Nat} {S1 : Sto} (h : evE T e ρ S = .ok (.int n) S1) (hn : n ≤ 1000000000) : evIt T (.rng1 e) ρ S = .ok { items := rngD 0 n 1 } S1 := by
  rw [it_rng1, h]
  have sm : small (n : Int) = true := small_of hn
  simp only [R.bind_ok, sm, if_true, Int.toNat_natCast]
theorem l_comp {own : List Nat} {elt : E} {g : G} {it : It} {cs : Es} : evL T (.comp own elt g it cs) ρ S = (evIt T it ρ S).bind fun v S1 => compR v.items v (turn1 g own (evT T cs) (evE T elt) ρ) [] S1 := rfl
theorem l_comp2 {own own1 : List Nat} {elt : E} {g g1 : G} {it it1 : It} {cs : Es} : evL T (.comp2 own own1 elt g it g1 it1 cs) ρ S = (evIt T it ρ S).bind fun v S1 => compR v.items v (turn2 g own own1 g1 (evIt T it1) (evT T cs) (evE T elt) ρ) [] S1 := rfl
theorem l_sortSC {own : List Nat} {elt : E} {g : G} {it : It} {cs : Es} : evL T (.sortSC own elt g it cs) ρ S = (evIt T it ρ S).bind fun v S1 => (compR v.items v (turn1 g own (evT T cs) (evE T elt) ρ) [] S1).bind fun xs S1 => ofOpt (setSortD xs) S1 := rfl
theorem nil_len {n m : Nat} (h : n ≤ m) : ([] : List D).length + n ≤ m := by
  rw [List.length_nil, Nat.zero_add]
  exact h
/-- a comprehension that makes nothing but its items -/
theorem comp_pure {own : List Nat} {elt : E} {g : G} {it : It} {cs : Es} {v : ItV} (f : D → List D) (hi : evIt T it ρ S = .ok v S) (hs : v.stays S = true) (h : ∀ x ∈ v.items, turn1 g own (evT T cs) (evE T elt) ρ x S = .ok (f x) S ∧ (f x).length ≤ 1) (hl : v.items.length ≤ 4000000)
    (cp : ∀ (xs : List D) (acc : List D), (∀ x ∈ xs, turn1 g own (evT T cs) (evE T elt) ρ x S = .ok (f x) S ∧ (f x).length ≤ 1) → acc.length + xs.length ≤ 4000000 → compR xs v (turn1 g own (evT T cs) (evE T elt) ρ) acc S = .ok (acc ++ xs.flatMap f) S) : evL T (.comp own elt g it cs) ρ S = .ok (v.items.flatMap f) S := by
  have e := cp v.items [] h (nil_len hl)
  rw [List.nil_append] at e
  rw [l_comp, hi, R.bind_ok]
  exact e
end
section
variable {v : ItV} {body : D → Env → Sto → F} {turn : D → Sto → R (List D)}
theorem forR_inv (Iv : Nat → Env → Sto → Prop) : ∀ (xs : List D) (n : Nat) (ρ : Env) (S : Sto), Iv n ρ S → (∀ i ρ S, Iv i ρ S → v.stays S = true) →
    (∀ i x ρ S, xs[i]? = some x → Iv (n + i) ρ S → ∃ ρ' S', (body x ρ S = .nx ρ' S' ∨ body x ρ S = .cnt ρ' S') ∧ Iv (n + i + 1) ρ' S') → ∃ ρ' S', forR xs v body ρ S = .nx ρ' S' ∧ Iv (n + xs.length) ρ' S'
  | [], n, ρ, S, h, st, _ => ⟨ρ, S, by simp only [forR, st n ρ S h, if_true], h⟩
  | x :: xs, n, ρ, S, h, st, step => by
    obtain ⟨ρ1, S1, e, h1⟩ := step 0 x ρ S rfl h
    have h1 : Iv (n + 1) ρ1 S1 := h1
    obtain ⟨ρ2, S2, e2, h2⟩ := forR_inv Iv xs (n + 1) ρ1 S1 h1 st fun i y ρ S hy hI => by
      have := step (i + 1) y ρ S (by simpa using hy) (by rw [show n + (i + 1) = n + 1 + i by omega]; exact hI)
      rw [show n + (i + 1) + 1 = n + 1 + i + 1 by omega] at this
      exact this
    refine ⟨ρ2, S2, ?_, by rw [List.length_cons, show n + (xs.length + 1) = n + 1 + xs.length by omega]; exact h2⟩
    simp only [forR, st n ρ S h, if_true]
    rcases e with e | e <;> rw [e] <;> exact e2
theorem compR_inv (Iv : Nat → List D → Sto → Prop) : ∀ (xs : List D) (n : Nat) (acc : List D) (S : Sto), Iv n acc S → (∀ i acc S, Iv i acc S → v.stays S = true ∧ acc.length ≤ 4000000) →
    (∀ i x acc S, xs[i]? = some x → Iv (n + i) acc S → ∃ ys S', turn x S = .ok ys S' ∧ Iv (n + i + 1) (acc ++ ys) S') → ∃ ys S', compR xs v turn acc S = .ok ys S' ∧ Iv (n + xs.length) ys S'
  | [], n, acc, S, h, st, _ => ⟨acc, S, by simp only [compR, (st n acc S h).1, if_true], h⟩
  | x :: xs, n, acc, S, h, st, step => by
    obtain ⟨ys, S1, e, h1⟩ := step 0 x acc S rfl h
    have h1 : Iv (n + 1) (acc ++ ys) S1 := h1
    obtain ⟨zs, S2, e2, h2⟩ := compR_inv Iv xs (n + 1) (acc ++ ys) S1 h1 st fun i y acc S hy hI => by
      have := step (i + 1) y acc S (by simpa using hy) (by rw [show n + (i + 1) = n + 1 + i by omega]; exact hI)
      rw [show n + (i + 1) + 1 = n + 1 + i + 1 by omega] at this
      exact this
    refine ⟨zs, S2, ?_, by rw [List.length_cons, show n + (xs.length + 1) = n + 1 + xs.length by omega]; exact h2⟩
    simp only [compR, (st n acc S h).1, if_true, e, R.calm_ok, R.bind_ok, (st _ _ _ h1).2]
    exact e2
/-- nothing is made but the items -/
theorem compR_pure {S : Sto} (g : D → List D) : ∀ (xs : List D) (acc : List D), (hs : v.stays S = true) → (∀ x ∈ xs, turn x S = .ok (g x) S ∧ (g x).length ≤ 1) → acc.length + xs.length ≤ 4000000 → compR xs v turn acc S = .ok (acc ++ xs.flatMap g) S
  | [], acc, hs, _, _ => by simp [compR, hs]
  | x :: xs, acc, hs, h, hl => by
    have hx := h x List.mem_cons_self
    have l1 : (acc ++ g x).length ≤ 4000000 := by
      rw [List.length_append]
      rw [List.length_cons] at hl
      omega
    simp only [compR, hs, if_true, hx.1, R.calm_ok, R.bind_ok, l1]
    rw [compR_pure g xs (acc ++ g x) hs (fun y hy => h y (List.mem_cons_of_mem _ hy)) (by
      rw [List.length_append]
      rw [List.length_cons] at hl
      omega), List.flatMap_cons, List.append_assoc]
end
/-! ### the draws' object -/
/-- the state of the draws at i, its numbers at j, c draws made -/
def Drw (S : Sto) (i j : Nat) (ns : List Int) (c : Int) : Prop := ∃ a b, S[i]? = some (.lst [.ob j, .int a, .int b, .int c]) ∧ S[j]? = some (.lst (ns.map .int)) ∧ i ≠ j ∧ 0 ≤ c
/-- but at i all is as it was -/
def But (i : Nat) (S S' : Sto) : Prop := S'.length = S.length ∧ ∀ q, q ≠ i → S'[q]? = S[q]?
theorem But.refl {i : Nat} {S : Sto} : But i S S := ⟨rfl, fun _ _ => rfl⟩
theorem But.trans {i : Nat} {S S1 S2 : Sto} (a : But i S S1) (b : But i S1 S2) : But i S S2 := ⟨b.1.trans a.1, fun q h => (b.2 q h).trans (a.2 q h)⟩
theorem Drw.push {S : Sto} {i j : Nat} {ns : List Int} {c : Int} (h : Drw S i j ns c) (o : O) : Drw (S ++ [o]) i j ns c := by
  obtain ⟨a, b, h1, h2, h3, h4⟩ := h
  exact ⟨a, b, by rw [List.getElem?_append_left (List.getElem?_eq_some_iff.mp h1).1]; exact h1, by rw [List.getElem?_append_left (List.getElem?_eq_some_iff.mp h2).1]; exact h2, h3, h4⟩
theorem Drw.set {S : Sto} {i j q : Nat} {ns : List Int} {c : Int} (h : Drw S i j ns c) (o : O) (hi : q ≠ i) (hj : q ≠ j) : Drw (S.set q o) i j ns c := by
  obtain ⟨a, b, h1, h2, h3, h4⟩ := h
  exact ⟨a, b, by rw [List.getElem?_set_ne hi]; exact h1, by rw [List.getElem?_set_ne hj]; exact h2, h3, h4⟩
theorem draw_call {p : Pg} {k f : Nat} {S : Sto} {i j : Nat} {ns : List Int} {c most : Int} (hf : p.fns[f]? = some ⟨2, 5, bDraw⟩) (h : Drw S i j ns c) (hm : 0 < most) (hm2 : most < 2 ^ 8000) (hc : c < 1000000000000) :
    ∃ r S', callF p (k + 1) f [.ob i, .int most] S = .ok (.int r) S' ∧ 0 ≤ r ∧ r < most ∧ Drw S' i j ns (c + 1) ∧ But i S S' := by
  obtain ⟨a, b, h1, h2, h3, h4⟩ := h
  have hl : most.natAbs.log2 < 9000 := Nat.lt_trans (log_lt (k := 8000) (by
    have e : ((most.natAbs : Nat) : Int) = most := by omega
    have : ((most.natAbs : Nat) : Int) < ((2 ^ 8000 : Nat) : Int) := by rw [e]; exact_mod_cast hm2
    exact_mod_cast this) (by omega)) (by omega)
  obtain ⟨r, a', b', r0, r1, e⟩ := draw_ok (T := ⟨callF p k, callF p (k - 1), p.meth, p.init, p.lit, p.isx⟩) h1 h2 h3 hm hl h4 hc
  have il : i < S.length := (List.getElem?_eq_some_iff.mp h1).1
  refine ⟨r, S.set i (.lst [.ob j, .int a', .int b', .int (c + 1)]), ?_, r0, r1, ⟨a', b', List.getElem?_set_self il, by rw [List.getElem?_set_ne h3]; exact h2, h3, by omega⟩, List.length_set, fun q hq => List.getElem?_set_ne (Ne.symm hq)⟩
  rw [call_run hf rfl]
  show PL.trunc S (endF (evSs _ bDraw (startE 5 _) S)) = _
  rw [e, trunc_len List.length_set]
/-- _law_start(script) -/
theorem start_call {p : Pg} {k f : Nat} {S : Sto} {ns : List Int} (hf : p.fns[f]? = some ⟨1, 1, bStart⟩) :
    callF p (k + 1) f [.scr ns] S = .ok (.ob (S.length + 1)) (S ++ [.lst (ns.map .int), .lst [.ob S.length, .int 0, .int 0, .int 0]]) := by
  rw [call_run hf rfl]
  have e : endF (evSs ⟨callF p k, callF p (k - 1), p.meth, p.init, p.lit, p.isx⟩ bStart (startE 1 [.scr ns]) S) = .ok (.ob (S.length + 1)) (S ++ [.lst (ns.map .int), .lst [.ob S.length, .int 0, .int 0, .int 0]]) := by
    unfold bStart
    rw [ss_step]
    simp [startE, seqOf, endF]
  show PL.trunc S (endF (evSs _ bStart (startE 1 _) S)) = _
  rw [e]
  unfold PL.trunc
  dsimp only
  rw [if_neg (by
    rw [Bool.and_eq_true]
    intro h
    have := h.1
    simp [D.low] at this
    omega)]
/-! ### isinstance(x, int) and not a bool; the same data -/
def bIsInt : Ss :=
    .cons (.ret (.bop true (.cons (.isi (.var 0) .int) (.cons (.not (.isi (.var 0) .bool)) (.nil))))) <|
    .nil
def bSame (fs fi : Nat) : Ss :=
    .cons (.ite (.isi (.var 1) .tuple) (.cons (.ite (.bop false (.cons (.not (.isi (.var 0) .tuple)) (.cons (.cmp .NotEq (.bi .len (.cons (.var 0) (.nil))) (.bi .len (.cons (.var 1) (.nil)))) (.nil)))) (.cons (.ret (.cst (.bl false))) <|
    .nil) (.nil)) <|
    .cons (.ret (.allL (.comp [2] (.call "_law_same" fs (.cons (.idx (.var 0) (.var 2)) (.cons (.idx (.var 1) (.var 2)) (.nil)))) (.nm 2) (.rng1 (.bi .len (.cons (.var 1) (.nil)))) (.nil)))) <|
    .nil) (.nil)) <|
    .cons (.ite (.isi (.var 1) .str) (.cons (.ret (.bop true (.cons (.isi (.var 0) .str) (.cons (.cmp .Eq (.var 0) (.var 1)) (.nil))))) <|
    .nil) (.nil)) <|
    .cons (.ret (.bop true (.cons (.call "_law_is_int" fi (.cons (.var 0) (.nil))) (.cons (.cmp .Eq (.var 0) (.var 1)) (.nil))))) <|
    .nil
theorem isInt_call {p : Pg} {k f : Nat} {S : Sto} {i : Int} (hf : p.fns[f]? = some ⟨1, 1, bIsInt⟩) : callF p (k + 1) f [.int i] S = .ok (.bl true) S := by
  rw [call_run hf rfl]
  have e : endF (evSs ⟨callF p k, callF p (k - 1), p.meth, p.init, p.lit, p.isx⟩ bIsInt (startE 1 [.int i]) S) = .ok (.bl true) S := by
    unfold bIsInt
    rw [ss_step]
    simp [startE, isiD, endF]
  show PL.trunc S (endF (evSs _ bIsInt (startE 1 _) S)) = _
  rw [e, trunc_self]
mutual
/-- no list is too long -/
def D.fits : D → Bool
  | .tup xs => decide (xs.length < 1000000) && D.fitss xs
  | _ => true
def D.fitss : List D → Bool
  | [] => true
  | x :: xs => D.fits x && D.fitss xs
end
theorem dats_mem : ∀ {xs : List D} {x : D}, D.dats xs = true → x ∈ xs → x.dat = true ∧ x.dep ≤ D.deps xs
  | [], _, _, h => by simp at h
  | y :: ys, x, hd, h => by
    simp only [D.dats, Bool.and_eq_true] at hd
    simp only [D.deps]
    rcases List.mem_cons.mp h with rfl | h
    · exact ⟨hd.1, Nat.le_max_left _ _⟩
    · have := dats_mem hd.2 h
      exact ⟨this.1, Nat.le_trans this.2 (Nat.le_max_right _ _)⟩
theorem fitss_mem : ∀ {xs : List D} {x : D}, D.fitss xs = true → x ∈ xs → x.fits = true
  | [], _, _, h => by simp at h
  | y :: ys, x, hd, h => by
    simp only [D.fitss, Bool.and_eq_true] at hd
    rcases List.mem_cons.mp h with rfl | h
    · exact hd.1
    · exact fitss_mem hd.2 h
theorem allBl_true : ∀ n : Nat, allBl (List.replicate n (.bl true)) = some (List.replicate n true)
  | 0 => rfl
  | n + 1 => by rw [List.replicate_succ, List.replicate_succ]; simp [allBl, allBl_true n]
/-- equal data are the same -/
theorem same_call {p : Pg} {fs fi : Nat} {S : Sto} (hs : p.fns[fs]? = some ⟨2, 3, bSame fs fi⟩) (hi : p.fns[fi]? = some ⟨1, 1, bIsInt⟩) : ∀ (k : Nat) (x : D), x.dat = true → x.fits = true → x.dep ≤ 64 → x.dep + 2 ≤ k → callF p k fs [x, x] S = .ok (.bl true) S := by
  intro k
  induction k with
  | zero => intro x _ _ _ h; omega
  | succ k ih =>
    intro x hd hft h64 hk
    rw [call_run hs rfl]
    have hq : eqD x x = some true := by rw [eqD_dat hd hd h64 h64]; simp
    have e : endF (evSs ⟨callF p k, callF p (k - 1), p.meth, p.init, p.lit, p.isx⟩ (bSame fs fi) (startE 3 [x, x]) S) = .ok (.bl true) S := by
      have eρ : startE 3 [x, x] = [some x, some x, none] := rfl
      rw [eρ]
      unfold bSame
      cases x with
      | int i =>
        obtain ⟨k', rfl⟩ : ∃ k', k = k' + 1 := ⟨k - 1, by simp [D.dep] at hk; omega⟩
        rw [ss_step]
        simp only [es_ite, ev_isi, ev_var, List.getElem?_cons_zero, List.getElem?_cons_succ, R.bind_ok, isiD, ofOpt_some, R.toF_ok, tru_bl]
        simp only [Bool.false_eq_true, if_false, ss_none, F.andThen_nx]
        rw [ss_step]
        simp only [es_ite, ev_isi, ev_var, List.getElem?_cons_zero, List.getElem?_cons_succ, R.bind_ok, isiD, ofOpt_some, R.toF_ok, tru_bl]
        simp only [Bool.false_eq_true, if_false, ss_none, F.andThen_nx]
        rw [ss_step]
        simp only [es_ret, ev_bop, ev_b2, ev_b1, ev_call, ev_cons, ev_nil, ev_var, ev_eq, List.getElem?_cons_zero, List.getElem?_cons_succ, R.bind_ok, isInt_call hi, tru_bl, ofOpt_some, if_true, hq, R.toF_ok, F.andThen_ret, endF]
      | str t =>
        rw [ss_step]
        simp only [es_ite, ev_isi, ev_var, List.getElem?_cons_zero, List.getElem?_cons_succ, R.bind_ok, isiD, ofOpt_some, R.toF_ok, tru_bl]
        simp only [Bool.false_eq_true, if_false, ss_none, F.andThen_nx]
        rw [ss_step]
        simp only [es_ite, ev_isi, ev_var, List.getElem?_cons_zero, List.getElem?_cons_succ, R.bind_ok, isiD, ofOpt_some, R.toF_ok, tru_bl, if_true]
        rw [ss_step]
        simp only [es_ret, ev_bop, ev_b2, ev_b1, ev_isi, ev_var, ev_eq, List.getElem?_cons_zero, List.getElem?_cons_succ, R.bind_ok, isiD, tru_bl, ofOpt_some, if_true, hq, R.toF_ok, F.andThen_ret, endF]
      | tup xs =>
        simp only [D.dat] at hd
        simp only [D.fits, Bool.and_eq_true, decide_eq_true_eq] at hft
        simp only [D.dep] at h64 hk
        have hl : biD .len [.tup xs] S = some (.int xs.length) := rfl
        have hne : eqD (.int xs.length) (.int xs.length) = some true := by rw [eqD_int]; simp
        rw [ss_step]
        simp only [es_ite, ev_isi, ev_var, List.getElem?_cons_zero, List.getElem?_cons_succ, R.bind_ok, isiD, ofOpt_some, R.toF_ok, tru_bl, if_true]
        rw [ss_step]
        simp only [es_ite, ev_bop, ev_b2, ev_b1, ev_not, ev_isi, ev_ne, ev_bi, ev_cons, ev_nil, ev_var, List.getElem?_cons_zero, List.getElem?_cons_succ, R.bind_ok, isiD, ofOpt_some, R.toF_ok, tru_bl, Bool.not_true, if_true, hl, hne, Option.map_some]
        simp only [Bool.false_eq_true, if_false, ss_none, F.andThen_nx]
        rw [ss_step]
        have hc : evL ⟨callF p k, callF p (k - 1), p.meth, p.init, p.lit, p.isx⟩ (.comp [2] (.call "_law_same" fs (.cons (.idx (.var 0) (.var 2)) (.cons (.idx (.var 1) (.var 2)) (.nil)))) (.nm 2) (.rng1 (.bi .len (.cons (.var 1) (.nil)))) (.nil)) [some (.tup xs), some (.tup xs), none] S
            = .ok (List.replicate xs.length (.bl true)) S := by
          have hit : evIt ⟨callF p k, callF p (k - 1), p.meth, p.init, p.lit, p.isx⟩ (.rng1 (.bi .len (.cons (.var 1) (.nil)))) [some (.tup xs), some (.tup xs), none] S = .ok { items := rngD 0 xs.length 1 } S := by
            refine it_n ?_ (by omega)
            simp only [ev_bi, ev_cons, ev_nil, ev_var, List.getElem?_cons_zero, List.getElem?_cons_succ, R.bind_ok, hl, ofOpt_some]
          have hlen : (rngD 0 xs.length 1).length ≤ 4000000 := by
            rw [rngD_len]
            omega
          rw [comp_pure (fun _ => [.bl true]) hit rfl (fun y hy => ?_) hlen fun xs acc h hl => compR_pure _ xs acc rfl h hl]
          · congr 1
            have : ∀ l : List D, (l.flatMap fun _ => [D.bl true]) = List.replicate l.length (.bl true) := fun l => by
              induction l with
              | nil => rfl
              | cons a l ih => rw [List.flatMap_cons, ih]; rfl
            exact (this _).trans (congrArg (fun n => List.replicate n (D.bl true)) rngD_len)
          · obtain ⟨n, hn, rfl⟩ := List.mem_map.mp hy
            have hn : n < xs.length := List.mem_range.mp hn
            refine ⟨?_, by simp⟩
            have hat : atI xs (0 + (n : Int) * 1) = some xs[n] := by
              unfold atI L2.atI L2.ixN
              rw [if_pos (by omega), if_pos (by omega), Option.bind_some]
              rw [show (0 + (n : Int) * 1).toNat = n by omega]
              exact List.getElem?_eq_getElem hn
            have hm := dats_mem hd (List.getElem_mem hn)
            have r := ih xs[n] hm.1 (fitss_mem hft.2 (List.getElem_mem hn)) (by omega) (by omega)
            have ea : asgG (.nm 2) (.int (0 + (n : Int) * 1)) (wipeE [some (D.tup xs), some (D.tup xs), none] [2]) = some [some (.tup xs), some (.tup xs), some (.int (0 + (n : Int) * 1))] := rfl
            rw [turn1_some S ea]
            simp only [ev_t0, R.bind_ok, if_true, ev_call, ev_cons, ev_nil, ev_idx, ev_var, List.getElem?_cons_zero, List.getElem?_cons_succ, idxD, hat, ofOpt_some, r]
        simp only [es_ret, ev_allL, hc, R.bind_ok, allBl_true, Option.map_some, ofOpt_some, R.toF_ok, F.andThen_ret, endF]
        have : (List.replicate xs.length true).all id = true := by rw [List.all_eq_true]; intro x hx; rw [List.eq_of_mem_replicate hx]; rfl
        rw [this]
      | _ => simp [D.dat] at hd
    show PL.trunc S (endF (evSs _ (bSame fs fi) (startE 3 _) S)) = _
    rw [e, trunc_self]
end PL

set_option Elab.async false
set_option linter.all false
set_option maxRecDepth 100000
set_option maxHeartbeats 1000000
/-! PLH: more of what the evaluator computes. -/
namespace PL
open PySem
/-- data hold no object -/
theorem dat_low {n : Nat} : ∀ {x : D}, x.dat = true → x.low n = true := by
  intro x
  induction x using D.rec (motive_2 := fun ds => D.dats ds = true → D.lowAll n ds = true) with
  | non => exact fun h => by simp [D.dat] at h
  | bl _ => exact fun h => by simp [D.dat] at h
  | int _ => exact fun _ => rfl
  | str _ => exact fun _ => rfl
  | tup xs ih => exact fun h => ih (by simpa only [D.dat] using h)
  | scr _ => exact fun h => by simp [D.dat] at h
  | ob _ => exact fun h => by simp [D.dat] at h
  | fn _ => exact fun h => by simp [D.dat] at h
  | nil => rfl
  | cons x xs ih1 ih2 =>
    rename_i h
    simp only [D.dats, Bool.and_eq_true] at h
    simp only [D.lowAll, ih1 h.1, ih2 h.2, Bool.and_self]
/-- what a call has made is dropped -/
theorem trunc_low {S S1 : Sto} {d : D} (h : d.low S.length = true) (hp : S1.take S.length = S) : PL.trunc S (.ok d S1) = .ok d S := by
  unfold PL.trunc
  dsimp only
  rw [if_pos (by rw [h, decide_eq_true hp]; rfl)]
section
variable {v : ItV} {turn : D → Sto → R (List D)}
theorem compR_all {S : Sto} (g : D → List D) : ∀ (xs : List D) (acc : List D), (hs : v.stays S = true) → (∀ x ∈ xs, turn x S = .ok (g x) S) → (acc ++ xs.flatMap g).length ≤ 4000000 → compR xs v turn acc S = .ok (acc ++ xs.flatMap g) S
  | [], acc, hs, _, _ => by simp [compR, hs]
  | x :: xs, acc, hs, h, hl => by
    have hx := h x List.mem_cons_self
    rw [List.flatMap_cons, ← List.append_assoc] at hl ⊢
    have l1 : (acc ++ g x).length ≤ 4000000 := by
      rw [List.length_append] at hl
      omega
    simp only [compR, hs, if_true, hx, R.calm_ok, R.bind_ok, l1]
    exact compR_all g xs (acc ++ g x) hs (fun y hy => h y (List.mem_cons_of_mem _ hy)) hl
end
section
variable {T : Tab} {ρ : Env} {S S1 : Sto}
theorem turn1_at {i : Nat} {own : List Nat} {fT : Env → Sto → R Bool} {fE : Env → Sto → R D} {x : D} {ρ' : Env} (hi : i < (wipeE ρ own).length) (e : (wipeE ρ own).set i (some x) = ρ') : turn1 (.nm i) own fT fE ρ x S = (fT ρ' S).bind fun b S1 => if b then (fE ρ' S1).bind fun d S2 => .ok [d] S2 else .ok [] S1 := by
  subst e
  exact turn1_some S (by unfold asgG; rw [if_pos hi])
/-- [f(x) for x in ..] -/
theorem comp_map {i : Nat} {own : List Nat} {elt : E} {it : It} {v : ItV} (f : D → D) (hi : i < (wipeE ρ own).length) (hit : evIt T it ρ S = .ok v S) (hs : v.stays S = true) (h : ∀ x ∈ v.items, evE T elt ((wipeE ρ own).set i (some x)) S = .ok (f x) S) (hl : v.items.length ≤ 4000000) :
    evL T (.comp own elt (.nm i) it .nil) ρ S = .ok (v.items.map f) S := by
  rw [l_comp, hit, R.bind_ok]
  have e : ∀ l : List D, l.flatMap (fun x => [f x]) = l.map f := fun l => by
    induction l with
    | nil => rfl
    | cons a l ih => rw [List.flatMap_cons, ih]; rfl
  have := compR_all (v := v) (S := S) (turn := turn1 (.nm i) own (evT T .nil) (evE T elt) ρ) (fun x => [f x]) v.items [] hs (fun x hx => by
    rw [turn1_at hi rfl, ev_t0, R.bind_ok, if_pos rfl, h x hx, R.bind_ok]) (by rw [e, List.nil_append, List.length_map]; exact hl)
  rw [e, List.nil_append] at this
  exact this
/-- [x for x in .. if ..] -/
theorem comp_filter {i : Nat} {own : List Nat} {c : E} {it : It} {v : ItV} (q : D → Bool) (hi : i < (wipeE ρ own).length) (hit : evIt T it ρ S = .ok v S) (hs : v.stays S = true) (h : ∀ x ∈ v.items, evE T c ((wipeE ρ own).set i (some x)) S = .ok (.bl (q x)) S) (hl : v.items.length ≤ 4000000) :
    evL T (.comp own (.var i) (.nm i) it (.cons c .nil)) ρ S = .ok (v.items.filter q) S := by
  rw [l_comp, hit, R.bind_ok]
  have e : ∀ l : List D, l.flatMap (fun x => if q x then [x] else []) = l.filter q := fun l => by
    induction l with
    | nil => rfl
    | cons a l ih =>
      rw [List.flatMap_cons, ih, List.filter_cons]
      split <;> rfl
  have := compR_all (v := v) (S := S) (turn := turn1 (.nm i) own (evT T (.cons c .nil)) (evE T (.var i)) ρ) (fun x => if q x then [x] else []) v.items [] hs (fun x hx => by
    rw [turn1_at hi rfl, ev_t1, h x hx, R.bind_ok, tru_bl, ofOpt_some, R.bind_ok]
    cases q x with
    | false => rfl
    | true =>
      rw [if_pos rfl, ev_t0, R.bind_ok, if_pos rfl, ev_var, List.getElem?_set_self hi]
      rfl) (by rw [e, List.nil_append]; exact Nat.le_trans (List.length_filter_le _ _) hl)
  rw [e, List.nil_append] at this
  exact this
end
theorem flatMap_one {α β : Type} (f : α → β) : ∀ l : List α, l.flatMap (fun x => [f x]) = l.map f
  | [] => rfl
  | a :: l => by rw [List.flatMap_cons, flatMap_one f l]; rfl
theorem app_get {S : Sto} {o : O} : (S ++ [o])[S.length]? = some o := by simp
theorem append_of {S : Sto} {i : Nat} {xs : List D} {x : D} (h : S[i]? = some (.lst xs)) (hl : xs.length < 10000000) : bmD .append (.ob i) [x] S = .ok .non (S.set i (.lst (xs ++ [x]))) := by
  show appendM (.ob i) [x] S = _
  unfold appendM
  simp only [lstAt_of h, if_pos hl]
theorem recv_app {S : Sto} {i : Nat} {xs : List D} (h : S[i]? = some (.lst xs)) : recvOk .append (.ob i) S = true := by
  show (lstAt S i).isSome = true
  rw [lstAt_of h]
  rfl
theorem es_for {T : Tab} {ρ : Env} {S : Sto} {g : G} {it : It} {b : Ss} : evS T (.for_ g it b) ρ S = (evIt T it ρ S).toF ρ fun v S1 => forR v.items v (bodyR g (evSs T b)) ρ S1 := rfl
theorem body_nm {T : Tab} {ρ : Env} {S : Sto} {i : Nat} {b : Ss} {x : D} (hi : i < ρ.length) : bodyR (.nm i) (evSs T b) x ρ S = evSs T b (ρ.set i (some x)) S := by
  unfold bodyR asgG
  rw [if_pos hi]
theorem Drw.but {S S' : Sto} {i j : Nat} {ns : List Int} {c : Int} (h : Drw S i j ns c) : i < S.length ∧ j < S.length := by
  obtain ⟨a, b, h1, h2, _⟩ := h
  exact ⟨(List.getElem?_eq_some_iff.mp h1).1, (List.getElem?_eq_some_iff.mp h2).1⟩
theorem tupOf_of {S : Sto} {i : Nat} {xs : List D} (h : S[i]? = some (.lst xs)) : biD .tupOf [.ob i] S = some (.tup xs) := by
  show (lstAt S i).map D.tup = _
  rw [lstAt_of h]
  rfl
end PL

set_option Elab.async false
set_option linter.all false
set_option maxRecDepth 100000
set_option maxHeartbeats 1000000
/-! PLN: whole numbers and their figures. -/
namespace PL
open PySem
open PySem.NumText (AllDigits digitsVal)
abbrev dg (n : Nat) : List Nat := TL.numL n
theorem fold_val : ∀ (b : List Nat) (acc : Nat), b.foldl (fun acc c => acc * 10 + (c - 48)) acc = acc * 10 ^ b.length + digitsVal b
  | [], acc => by simp [digitsVal]
  | c :: b, acc => by
    have h1 := fold_val b (acc * 10 + (c - 48))
    have h2 := fold_val b (0 * 10 + (c - 48))
    have e2 : digitsVal (c :: b) = b.foldl (fun acc c => acc * 10 + (c - 48)) (0 * 10 + (c - 48)) := rfl
    rw [List.foldl_cons, h1, e2, h2, List.length_cons, Nat.pow_succ, Nat.add_mul, Nat.add_mul]
    have : acc * 10 * 10 ^ b.length = acc * (10 ^ b.length * 10) := by rw [Nat.mul_assoc, Nat.mul_comm 10]
    omega
theorem digitsVal_cons (c : Nat) (b : List Nat) : digitsVal (c :: b) = (c - 48) * 10 ^ b.length + digitsVal b := by
  have e2 : digitsVal (c :: b) = b.foldl (fun acc c => acc * 10 + (c - 48)) (0 * 10 + (c - 48)) := rfl
  rw [e2, fold_val b, Nat.zero_mul, Nat.zero_add]
theorem digitsVal_app (b a : List Nat) : digitsVal (a ++ b) = digitsVal a * 10 ^ b.length + digitsVal b := by
  unfold digitsVal
  rw [List.foldl_append, fold_val b]
  rfl
theorem val_lt : ∀ (cs : List Nat), AllDigits cs → digitsVal cs < 10 ^ cs.length
  | [], _ => by decide
  | c :: b, h => by
    have h1 := val_lt b h.tail
    have h2 := h.head
    rw [digitsVal_cons, List.length_cons, Nat.pow_succ]
    have h3 : (c - 48) * 10 ^ b.length ≤ 9 * 10 ^ b.length := Nat.mul_le_mul_right _ (by omega)
    omega
/-- figures that a number is written by -/
def Canon (cs : List Nat) : Prop := AllDigits cs ∧ (cs = [48] ∨ ∃ c r, cs = c :: r ∧ 49 ≤ c)
theorem char_back : ∀ c : Nat, c ≤ 57 → (Char.ofNat c).toNat = c := by decide
theorem dg_val {cs : List Nat} (h : Canon cs) : dg (digitsVal cs) = cs := by
  obtain ⟨h1, h2⟩ := h
  have hne : cs ≠ [] := by
    rcases h2 with rfl | ⟨c, r, rfl, _⟩ <;> simp
  obtain ⟨n, hn⟩ : ∃ n, cs.length = n + 1 := ⟨cs.length - 1, by have := List.length_pos_iff.mpr hne; omega⟩
  have e := NumText.toDigits_digitsVal n cs hn h1 (by
    rcases h2 with rfl | h2
    · simp at hn
      exact .inl hn
    · exact .inr h2)
  show (Nat.toDigits 10 (digitsVal cs)).map Char.toNat = cs
  rw [e, List.map_map]
  have : ∀ l : List Nat, AllDigits l → l.map (Char.toNat ∘ Char.ofNat) = l := fun l => by
    induction l with
    | nil => exact fun _ => rfl
    | cons a l ih =>
      intro h
      rw [List.map_cons, ih h.tail]
      congr 1
      exact char_back a h.head.2
  exact this cs h1
theorem dg_canon (n : Nat) : Canon (dg n) := by
  refine ⟨TL.numL_digits n, ?_⟩
  induction n using Nat.strongRecOn with
  | ind n ih =>
    by_cases h : n < 10
    · rw [show dg n = [48 + n] from TL.numL_lt h]
      by_cases h0 : n = 0
      · subst h0
        exact .inl rfl
      · exact .inr ⟨48 + n, [], rfl, by omega⟩
    · rw [show dg n = dg (n / 10) ++ [48 + n % 10] from TL.numL_step (by omega)]
      rcases ih (n / 10) (by omega) with e | ⟨c, r, e, hc⟩
      · have : n / 10 = 0 := by
          have h2 := TL.numL_val (n / 10)
          rw [show TL.numL (n / 10) = [48] from e] at h2
          exact h2.symm
        omega
      · exact .inr ⟨c, r ++ [48 + n % 10], by rw [e]; rfl, hc⟩
theorem dg_pos {n : Nat} (h : 0 < n) : ∃ c r, dg n = c :: r ∧ 49 ≤ c := by
  rcases (dg_canon n).2 with e | h2
  · have h2 := TL.numL_val n
    rw [show TL.numL n = [48] from e] at h2
    have : n = 0 := h2.symm
    omega
  · exact h2
/-- a number by k figures -/
def pad (k m : Nat) : List Nat := List.replicate (k - (dg m).length) 48 ++ dg m
theorem pad_digits (k m : Nat) : AllDigits (pad k m) := fun c hc => by
  rcases List.mem_append.mp hc with hc | hc
  · rw [List.eq_of_mem_replicate hc]
    omega
  · exact TL.numL_digits m c hc
theorem pad_len {k m : Nat} (hk : 0 < k) (h : m < 10 ^ k) : (pad k m).length = k := by
  have : (dg m).length ≤ k := TL.numL_len hk h
  unfold pad
  rw [List.length_append, List.length_replicate]
  omega
theorem val_zeros : ∀ (j : Nat) (cs : List Nat), digitsVal (List.replicate j 48 ++ cs) = digitsVal cs
  | 0, cs => rfl
  | j + 1, cs => by
    rw [List.replicate_succ, List.cons_append, NumText.digitsVal_zero, val_zeros j cs]
theorem pad_val (k m : Nat) : digitsVal (pad k m) = m := by
  unfold pad
  rw [val_zeros]
  exact TL.numL_val m
/-- figures by places -/
theorem dg_split {k q m : Nat} (hk : 0 < k) (hm : m < 10 ^ k) (hq : 0 < q) : dg (q * 10 ^ k + m) = dg q ++ pad k m := by
  obtain ⟨c, r, e, hc⟩ := dg_pos hq
  have h : Canon (dg q ++ pad k m) := ⟨fun d hd => by
    rcases List.mem_append.mp hd with hd | hd
    · exact TL.numL_digits q d hd
    · exact pad_digits k m d hd, .inr ⟨c, r ++ pad k m, by rw [e]; rfl, hc⟩⟩
  have := dg_val h
  rw [digitsVal_app, pad_len hk hm, pad_val, show digitsVal (dg q) = q from TL.numL_val q] at this
  exact this
theorem dg_one {k m : Nat} (hk : 0 < k) (hm : m < 10 ^ k) : (dg (10 ^ k + m)).drop 1 = pad k m := by
  have := dg_split (q := 1) hk hm (by omega)
  rw [Nat.one_mul] at this
  rw [this]
  rfl
/-- an int's text -/
def itx (i : Int) : List Nat := if i < 0 then 45 :: dg i.natAbs else dg i.natAbs
theorem decI_nat (n : Nat) : decI (n : Int) = dg n := by
  unfold decI
  exact TL.tl_num n
theorem dg_len {n k : Nat} (hk : 0 < k) (h : n < 10 ^ k) : (dg n).length ≤ k := TL.numL_len hk h
/-- zfill -/
theorem zfill_dg {m k : Nat} (hk : 0 < k) (hm : m < 10 ^ k) : (Txt.zfill ⟨(dg m).toArray⟩ (k : Int)).cps.toList = pad k m := by
  have hl := dg_len hk hm
  have hlen : (⟨(dg m).toArray⟩ : Str).length = (dg m).length := by simp [Str.length]
  unfold Txt.zfill
  rw [hlen]
  by_cases h : (k : Int) ≤ ((dg m).length : Int)
  · rw [if_pos h]
    unfold pad
    rw [show k - (dg m).length = 0 by omega]
    simp
  · rw [if_neg h, Int.toNat_natCast]
    have hd := TL.numL_digits m
    have hne := TL.numL_ne m
    unfold zfilled pad
    cases hcs : dg m with
    | nil => exact absurd hcs hne
    | cons c r =>
      have hc : 48 ≤ c ∧ c ≤ 57 := hd c (by rw [show TL.numL m = c :: r from hcs]; exact List.mem_cons_self)
      have e : (⟨(c :: r).toArray⟩ : Str).cps[0]? = some c := by simp
      rw [e]
      split
      · rename_i q
        cases q
        omega
      · rename_i q
        cases q
        omega
      · unfold Builtin.Str.padded
        simp
end PL

set_option Elab.async false
set_option linter.all false
set_option maxRecDepth 100000
set_option maxHeartbeats 1000000
/-! PLK: more steps of the evaluator. -/
namespace PL
open PySem
section
variable {T : Tab} {ρ ρ1 : Env} {S S1 S2 : Sto}
theorem ev_slc {a lo hi : E} : evE T (.slc a lo hi) ρ S = (evE T a ρ S).bind fun x S1 => (if lo.isN then .ok none S1 else (evE T lo ρ S1).bind partR).bind fun l S2 => (if hi.isN then .ok none S2 else (evE T hi ρ S2).bind partR).bind fun h S3 => match x with
    | .str t => if t.length ≤ sizeLine then .ok (.str (cut t l h)) S3 else .stuck
    | .tup xs => .ok (.tup (cut xs l h)) S3
    | _ => .stuck := rfl
theorem ev_joinL {e : E} {l : L} : evE T (.joinL e l) ρ S = (evE T e ρ S).bind fun x S1 => match x with
    | .str t => (evL T l ρ S1).bind fun xs S2 => ofOpt ((allStr xs).bind fun ys => if (ys.map List.length).sum + ys.length * t.length ≤ 16777216 then some (.str (joinT t ys)) else none) S2
    | _ => .stuck := rfl
theorem it_rng3 {a b c : E} : evIt T (.rng3 a b c) ρ S = (evE T a ρ S).bind fun x S1 => (evE T b ρ S1).bind fun y S2 => (evE T c ρ S2).bind fun z S3 => match x, y, z with
    | .int i, .int j, .int k => if decide (k ≠ 0 ∧ k.natAbs < 1073741824) && Builtin.Range.small i j k then .ok { items := rngD i (Builtin.Range.rangeSize i j k).toNat k } S3 else .stuck
    | _, _, _ => .stuck := rfl
theorem l_rev {e : E} : evL T (.rev e) ρ S = (evE T e ρ S).bind fun x S1 => match x with
    | .ob i => match lstAt S1 i with
      | some xs => .ok xs.reverse S1
      | none => .stuck
    | _ => .stuck := rfl
theorem l_catE {a : E} {b : L} : evL T (.catE a b) ρ S = (evE T a ρ S).bind fun x S1 => (evL T b ρ S1).bind fun ys S2 => match x with
    | .ob i => match lstAt S2 i with
      | some xs => if xs.length + ys.length ≤ 10000000 then .ok (xs ++ ys) S2 else .stuck
      | none => .stuck
    | _ => .stuck := rfl
theorem allStr_map : ∀ l : List (List Nat), allStr (l.map .str) = some l
  | [] => rfl
  | x :: l => by simp [allStr, allStr_map l]
theorem joinT_nil : ∀ ys : List (List Nat), joinT [] ys = ys.flatten
  | [] => rfl
  | [x] => by simp [joinT]
  | x :: y :: r => by
    have h := joinT_nil (y :: r)
    show x ++ [] ++ joinT [] (y :: r) = _
    rw [h, List.append_nil]
    rfl
theorem es_asgG {g : G} {e : E} : evS T (.asg g e) ρ S = (evE T e ρ S).toF ρ fun d S1 => match asgG g d ρ with
    | some ρ1 => .nx ρ1 S1
    | none => .stuck := rfl
theorem es_whl {c : E} {b : Ss} : evS T (.whl c b) ρ S = whlR fuel (fun ρ S => (evE T c ρ S).bind fun x S1 => ofOpt (truD S1 x) S1) (evSs T b) ρ S := rfl
end
section
variable {t : Env → Sto → R Bool} {b : Env → Sto → F} {ρ ρ1 : Env} {S S1 S2 : Sto} {n : Nat} {f : F}
theorem whl_end (h : t ρ S = .ok false S1) : whlR (n + 1) t b ρ S = .nx ρ S1 := by
  simp only [whlR, h]
theorem whl_next (h : t ρ S = .ok true S1) (hb : b ρ S1 = .nx ρ1 S2) : whlR (n + 1) t b ρ S = whlR n t b ρ1 S2 := by
  simp only [whlR, h, hb]
theorem whl_exc {c : Nat} {fs : List (List Nat × D)} (h : t ρ S = .ok true S1) (hb : b ρ S1 = .exc c fs ρ1 S2) : whlR (n + 1) t b ρ S = .exc c fs ρ1 S2 := by
  simp only [whlR, h, hb]
end
theorem for_brk {v : ItV} {body : D → Env → Sto → F} {x : D} {xs : List D} {ρ ρ1 : Env} {S S1 : Sto} (hs : v.stays S = true) (h : body x ρ S = .brk ρ1 S1) : forR (x :: xs) v body ρ S = .nx ρ1 S1 := by
  simp only [forR, hs, if_true, h]
theorem for_nx {v : ItV} {body : D → Env → Sto → F} {x : D} {xs : List D} {ρ ρ1 : Env} {S S1 : Sto} (hs : v.stays S = true) (h : body x ρ S = .nx ρ1 S1) : forR (x :: xs) v body ρ S = forR xs v body ρ1 S1 := by
  simp only [forR, hs, if_true, h]
theorem size_64 {h m : Nat} : (Builtin.Range.rangeSize (h : Int) ((h + 64 * m : Nat) : Int) 64).toNat = m := by
  unfold Builtin.Range.rangeSize
  rw [if_pos (by decide)]
  by_cases hm : m = 0
  · subst hm
    rw [if_neg (by omega)]
    rfl
  · rw [if_pos (by omega)]
    omega
theorem small_64 {h l : Nat} (hh : h ≤ 1000000) (hl : l ≤ 1000000) : Builtin.Range.small (h : Int) (l : Int) 64 = true := by
  have e : (2 : Int) ^ 63 = 9223372036854775808 := by decide +kernel
  have hr : 0 ≤ Builtin.Range.rangeSize (h : Int) (l : Int) 64 ∧ Builtin.Range.rangeSize (h : Int) (l : Int) 64 ≤ 1000001 := by
    unfold Builtin.Range.rangeSize
    rw [if_pos (by decide)]
    split <;> omega
  unfold Builtin.Range.small Builtin.Range.rangeFitsLong
  generalize Builtin.Range.rangeSize (h : Int) (l : Int) 64 = n at hr
  obtain ⟨hi, ehi⟩ : ∃ i : Int, i = (h : Int) := ⟨_, rfl⟩
  obtain ⟨li, eli⟩ : ∃ i : Int, i = (l : Int) := ⟨_, rfl⟩
  rw [← ehi, ← eli]
  have b1 : 0 ≤ hi ∧ hi ≤ 1000000 := by omega
  have b2 : 0 ≤ li ∧ li ≤ 1000000 := by omega
  clear ehi eli
  rw [if_pos (by decide)]
  simp only [e, Bool.and_eq_true, Bool.or_eq_true, decide_eq_true_eq, beq_iff_eq]
  omega
theorem set_same {S : Sto} {i : Nat} {o : O} (h : S[i]? = some o) : S.set i o = S := by
  apply List.ext_getElem?
  intro j
  by_cases e : i = j
  · subst e
    rw [List.getElem?_set_self (List.getElem?_eq_some_iff.mp h).1, h]
  · rw [List.getElem?_set_ne e]
/-- what one has made stays behind -/
theorem take_app {S : Sto} {l : List O} : (S ++ l).take S.length = S := List.take_left
end PL

set_option Elab.async false
set_option linter.all false
set_option maxRecDepth 100000
set_option maxHeartbeats 1000000
/-! PLS: steps of the evaluator without binders, so that simp walks each piece once. -/
namespace PL
open PySem
/-! ### pieces -/
def jvR (o : Option (Option D)) (S : Sto) : R D := match o with
  | some (some d) => .ok d S
  | _ => .stuck
def jbR (o : Option Bool) (S : Sto) : R D := match o with
  | some d => .ok (.bl d) S
  | none => .stuck
def jnegR : R D → R D
  | .ok (.int i) S => .ok (.int (-i)) S
  | .ok _ _ => .stuck
  | r => r
def jnotR : R D → R D
  | .ok x S => jbR ((truD S x).map (!·)) S
  | r => r
def jtupR : R (List D) → R D
  | .ok ds S => .ok (.tup ds) S
  | .exc c fs S => .exc c fs S
  | .stuck => .stuck
def jownR : R (List D) → R D
  | .ok ds S => .ok (.ob S.length) (S ++ [.lst ds])
  | .exc c fs S => .exc c fs S
  | .stuck => .stuck
def jallR : R (List D) → R D
  | .ok ds S => ofOpt ((allBl ds).map fun bs => .bl (bs.all id)) S
  | .exc c fs S => .exc c fs S
  | .stuck => .stuck
def janyR : R (List D) → R D
  | .ok ds S => ofOpt ((allBl ds).map fun bs => .bl (bs.any id)) S
  | .exc c fs S => .exc c fs S
  | .stuck => .stuck
def jsumR : R (List D) → R D
  | .ok ds S => ofOpt ((allInt ds).map fun bs => .int bs.sum) S
  | .exc c fs S => .exc c fs S
  | .stuck => .stuck
def jlenR : R (List D) → R D
  | .ok ds S => .ok (.int ds.length) S
  | .exc c fs S => .exc c fs S
  | .stuck => .stuck
section
variable (T : Tab)
def jbin1 (o : Operator) (b : E) (ρ : Env) : R D → R D
  | .ok x S => (match evE T b ρ S with
    | .ok y S2 => ofOpt (binD o x y) S2
    | r => r)
  | r => r
def jbin2 (o : Operator) (x : D) : R D → R D
  | .ok y S2 => ofOpt (binD o x y) S2
  | r => r
def jcmpI (S : Sto) (o : CmpOp) (x y : D) : Option Bool := match o with
  | .In => inSt S x y
  | .NotIn => (inSt S x y).map (!·)
  | o => cmpD o x y
def jcmp2 (o : CmpOp) (x : D) : R D → R D
  | .ok y S2 => jbR (jcmpI S2 o x y) S2
  | r => r
def jcmp1 (o : CmpOp) (b : E) (ρ : Env) : R D → R D
  | .ok x S => jcmp2 o x (evE T b ρ S)
  | r => r
def jite2 (a b : E) (ρ : Env) (S : Sto) : Option Bool → R D
  | some true => evE T a ρ S
  | some false => evE T b ρ S
  | none => .stuck
def jite1 (a b : E) (ρ : Env) : R D → R D
  | .ok x S => jite2 T a b ρ S (truD S x)
  | r => r
def jidx2 (x : D) : R D → R D
  | .ok y S2 => ofOpt (idxD S2 x y) S2
  | r => r
def jidx1 (b : E) (ρ : Env) : R D → R D
  | .ok x S => jidx2 x (evE T b ρ S)
  | r => r
def jcall1 (f : Nat) : R (List D) → R D
  | .ok ds S => T.cf f ds S
  | .exc c fs S => .exc c fs S
  | .stuck => .stuck
def jbi1 (b : BI) : R (List D) → R D
  | .ok ds S => ofOpt (biD b ds S) S
  | .exc c fs S => .exc c fs S
  | .stuck => .stuck
def jbm2 (m : BM) (x : D) : R (List D) → R D
  | .ok ds S => bmD m x ds S
  | .exc c fs S => .exc c fs S
  | .stuck => .stuck
def jbm1 (m : BM) (es : Es) (ρ : Env) : R D → R D
  | .ok x S => if recvOk m x S = true then jbm2 m x (evEs T es ρ S) else .stuck
  | r => r
def jisi1 (t : Ty) : R D → R D
  | .ok x S => jbR (isiD S x t) S
  | r => r
def jcons2 (x : D) : R (List D) → R (List D)
  | .ok xs S => .ok (x :: xs) S
  | r => r
def jcons1 (es : Es) (ρ : Env) : R D → R (List D)
  | .ok x S => jcons2 x (evEs T es ρ S)
  | .exc c fs S => .exc c fs S
  | .stuck => .stuck
def jb2 (k : Bool) (es : Es) (ρ : Env) (x : D) (S : Sto) : Option Bool → R D
  | some b => if b = k then evB T k es ρ S else .ok x S
  | none => .stuck
def jb1 (k : Bool) (es : Es) (ρ : Env) : R D → R D
  | .ok x S => jb2 T k es ρ x S (truD S x)
  | r => r
end
section
variable {T : Tab} {ρ ρ1 : Env} {S S1 : Sto} {f : F} {x y : D} {xs ys : List D} {c : Nat} {fs : List (List Nat × D)}
theorem k_var {i : Nat} : evE T (.var i) ρ S = jvR ρ[i]? S := rfl
theorem jvR_ok : jvR (some (some x)) S = .ok x S := rfl
theorem jbR_ok {b : Bool} : jbR (some b) S = .ok (.bl b) S := rfl
theorem k_tup {es : Es} : evE T (.tup es) ρ S = jtupR (evEs T es ρ S) := by
  rw [ev_tup]; cases evEs T es ρ S <;> rfl
theorem jtupR_ok : jtupR (.ok xs S) = .ok (.tup xs) S := rfl
theorem k_neg {a : E} : evE T (.neg a) ρ S = jnegR (evE T a ρ S) := by
  rw [ev_neg]; cases evE T a ρ S with
  | ok x S => cases x <;> rfl
  | _ => rfl
theorem jnegR_ok {i : Int} : jnegR (.ok (.int i) S) = .ok (.int (-i)) S := rfl
theorem k_not {a : E} : evE T (.not a) ρ S = jnotR (evE T a ρ S) := by
  rw [ev_not]; cases evE T a ρ S with
  | ok x S => show (ofOpt (truD S x) S).bind _ = jbR ((truD S x).map (!·)) S; cases truD S x <;> rfl
  | _ => rfl
theorem jnotR_ok : jnotR (.ok x S) = jbR ((truD S x).map (!·)) S := rfl
theorem k_bop {k : Bool} {es : Es} : evE T (.bop k es) ρ S = evB T k es ρ S := rfl
theorem k_b1 {k : Bool} {e : E} : evB T k (.cons e .nil) ρ S = evE T e ρ S := rfl
theorem k_b2 {k : Bool} {e e2 : E} {es : Es} : evB T k (.cons e (.cons e2 es)) ρ S = jb1 T k (.cons e2 es) ρ (evE T e ρ S) := by
  rw [ev_b2]; cases evE T e ρ S with
  | ok x S => show (ofOpt (truD S x) S).bind _ = jb2 T k _ ρ x S (truD S x); cases truD S x <;> rfl
  | _ => rfl
theorem jb1_ok {k : Bool} {es : Es} : jb1 T k es ρ (.ok x S) = jb2 T k es ρ x S (truD S x) := rfl
theorem jb2_tt {es : Es} : jb2 T true es ρ x S (some true) = evB T true es ρ S := rfl
theorem jb2_tf {es : Es} : jb2 T true es ρ x S (some false) = .ok x S := rfl
theorem jb2_ff {es : Es} : jb2 T false es ρ x S (some false) = evB T false es ρ S := rfl
theorem jb2_ft {es : Es} : jb2 T false es ρ x S (some true) = .ok x S := rfl
theorem k_bin {o : Operator} {a b : E} : evE T (.bin o a b) ρ S = jbin1 T o b ρ (evE T a ρ S) := by
  rw [ev_bin]; cases evE T a ρ S with
  | ok x S => show (evE T b ρ S).bind _ = (match evE T b ρ S with | .ok y S2 => ofOpt (binD o x y) S2 | r => r); cases evE T b ρ S <;> rfl
  | _ => rfl
theorem jbin1_ok {o : Operator} {b : E} : jbin1 T o b ρ (.ok x S) = jbin2 o x (evE T b ρ S) := by
  show (match evE T b ρ S with | .ok y S2 => ofOpt (binD o x y) S2 | r => r) = _; cases evE T b ρ S <;> rfl
theorem jbin2_ok {o : Operator} : jbin2 o x (.ok y S) = ofOpt (binD o x y) S := rfl
theorem k_cmp {o : CmpOp} {a b : E} : evE T (.cmp o a b) ρ S = jcmp1 T o b ρ (evE T a ρ S) := by
  show (evE T a ρ S).bind _ = _
  cases evE T a ρ S with
  | ok x S =>
    show (evE T b ρ S).bind _ = jcmp2 o x (evE T b ρ S)
    cases evE T b ρ S with
    | ok y S2 =>
      show (match o with | .In => _ | .NotIn => _ | _ => _) = jbR (jcmpI S2 o x y) S2
      cases o <;> (dsimp only [jcmpI]; first | (cases inSt S2 x y <;> rfl) | (rename_i op; cases cmpD _ x y <;> rfl) | (cases cmpD _ x y <;> rfl))
    | _ => rfl
  | _ => rfl
theorem jcmp1_ok {o : CmpOp} {b : E} : jcmp1 T o b ρ (.ok x S) = jcmp2 o x (evE T b ρ S) := rfl
theorem jcmp2_ok {o : CmpOp} : jcmp2 o x (.ok y S) = jbR (jcmpI S o x y) S := rfl
theorem cI_in : jcmpI S .In x y = inSt S x y := rfl
theorem cI_nin : jcmpI S .NotIn x y = (inSt S x y).map (!·) := rfl
theorem cI_eq : jcmpI S .Eq x y = eqD x y := rfl
theorem cI_ne : jcmpI S .NotEq x y = (eqD x y).map (!·) := rfl
theorem cI_lt : jcmpI S .Lt x y = cmpD .Lt x y := rfl
theorem cI_le : jcmpI S .LtE x y = cmpD .LtE x y := rfl
theorem cI_gt : jcmpI S .Gt x y = cmpD .Gt x y := rfl
theorem cI_ge : jcmpI S .GtE x y = cmpD .GtE x y := rfl
theorem cI_is : jcmpI S .Is x .non = some (isNon x) := rfl
theorem cI_isn : jcmpI S .IsNot x .non = some (!isNon x) := rfl
theorem k_ite {c a b : E} : evE T (.ite c a b) ρ S = jite1 T a b ρ (evE T c ρ S) := by
  rw [ev_ite]; cases evE T c ρ S with
  | ok x S => show (ofOpt (truD S x) S).bind _ = jite2 T a b ρ S (truD S x); cases truD S x with
    | none => rfl
    | some k => cases k <;> rfl
  | _ => rfl
theorem jite1_ok {a b : E} : jite1 T a b ρ (.ok x S) = jite2 T a b ρ S (truD S x) := rfl
theorem jite2_t {a b : E} : jite2 T a b ρ S (some true) = evE T a ρ S := rfl
theorem jite2_f {a b : E} : jite2 T a b ρ S (some false) = evE T b ρ S := rfl
theorem k_idx {a b : E} : evE T (.idx a b) ρ S = jidx1 T b ρ (evE T a ρ S) := by
  rw [ev_idx]; cases evE T a ρ S with
  | ok x S => show (evE T b ρ S).bind _ = jidx2 x (evE T b ρ S); cases evE T b ρ S <;> rfl
  | _ => rfl
theorem jidx1_ok {b : E} : jidx1 T b ρ (.ok x S) = jidx2 x (evE T b ρ S) := rfl
theorem jidx2_ok : jidx2 x (.ok y S) = ofOpt (idxD S x y) S := rfl
theorem k_call {nm : Str} {f : Nat} {es : Es} : evE T (.call nm f es) ρ S = jcall1 T f (evEs T es ρ S) := by
  rw [ev_call]; cases evEs T es ρ S <;> rfl
theorem jcall1_ok {f : Nat} : jcall1 T f (.ok xs S) = T.cf f xs S := rfl
theorem k_bi {b : BI} {es : Es} : evE T (.bi b es) ρ S = jbi1 b (evEs T es ρ S) := by
  rw [ev_bi]; cases evEs T es ρ S with
  | ok ds S => show ofOpt (biD b ds S) S = ofOpt (biD b ds S) S; cases biD b ds S <;> rfl
  | _ => rfl
theorem jbi1_ok {b : BI} : jbi1 b (.ok xs S) = ofOpt (biD b xs S) S := rfl
theorem k_bm {m : BM} {o : E} {es : Es} : evE T (.bm m o es) ρ S = jbm1 T m es ρ (evE T o ρ S) := by
  rw [ev_bm]; cases evE T o ρ S with
  | ok x S =>
    show (if recvOk m x S = true then _ else _) = (if recvOk m x S = true then _ else _)
    by_cases h : recvOk m x S = true
    · rw [if_pos h, if_pos h]; cases evEs T es ρ S <;> rfl
    · rw [if_neg h, if_neg h]
  | _ => rfl
theorem jbm1_ok {m : BM} {es : Es} (h : recvOk m x S = true) : jbm1 T m es ρ (.ok x S) = jbm2 m x (evEs T es ρ S) := if_pos h
theorem jbm2_ok {m : BM} : jbm2 m x (.ok ys S) = bmD m x ys S := rfl
theorem k_isi {a : E} {t : Ty} : evE T (.isi a t) ρ S = jisi1 t (evE T a ρ S) := by
  rw [ev_isi]; cases evE T a ρ S with
  | ok x S => show (ofOpt (isiD S x t) S).bind _ = jbR (isiD S x t) S; cases isiD S x t <;> rfl
  | _ => rfl
theorem jisi1_ok {t : Ty} : jisi1 t (.ok x S) = jbR (isiD S x t) S := rfl
theorem k_own {l : L} : evE T (.own l) ρ S = jownR (evL T l ρ S) := by
  rw [ev_own]; cases evL T l ρ S <;> rfl
theorem jownR_ok : jownR (.ok xs S) = .ok (.ob S.length) (S ++ [.lst xs]) := rfl
theorem k_tupL {l : L} : evE T (.tupL l) ρ S = jtupR (evL T l ρ S) := by
  rw [ev_tupL]; cases evL T l ρ S <;> rfl
theorem k_allL {l : L} : evE T (.allL l) ρ S = jallR (evL T l ρ S) := by
  rw [ev_allL]; cases evL T l ρ S with
  | ok ds S => show ofOpt _ S = ofOpt _ S; cases (allBl ds) <;> rfl
  | _ => rfl
theorem jallR_ok : jallR (.ok xs S) = ofOpt ((allBl xs).map fun bs => .bl (bs.all id)) S := rfl
theorem k_anyL {l : L} : evE T (.anyL l) ρ S = janyR (evL T l ρ S) := by
  show (evL T l ρ S).bind _ = _; cases evL T l ρ S with
  | ok ds S => show ofOpt _ S = ofOpt _ S; cases (allBl ds) <;> rfl
  | _ => rfl
theorem janyR_ok : janyR (.ok xs S) = ofOpt ((allBl xs).map fun bs => .bl (bs.any id)) S := rfl
theorem k_sumL {l : L} : evE T (.sumL l) ρ S = jsumR (evL T l ρ S) := by
  show (evL T l ρ S).bind _ = _; cases evL T l ρ S with
  | ok ds S => show ofOpt _ S = ofOpt _ S; cases (allInt ds) <;> rfl
  | _ => rfl
theorem jsumR_ok : jsumR (.ok xs S) = ofOpt ((allInt xs).map fun bs => .int bs.sum) S := rfl
theorem k_lenL {l : L} : evE T (.lenL l) ρ S = jlenR (evL T l ρ S) := by
  show (evL T l ρ S).bind _ = _; cases evL T l ρ S <;> rfl
theorem jlenR_ok : jlenR (.ok xs S) = .ok (.int xs.length) S := rfl
theorem k_nil : evEs T .nil ρ S = .ok [] S := rfl
theorem k_cons {e : E} {es : Es} : evEs T (.cons e es) ρ S = jcons1 T es ρ (evE T e ρ S) := by
  rw [ev_cons]; cases evE T e ρ S with
  | ok x S => show (evEs T es ρ S).bind _ = jcons2 x (evEs T es ρ S); cases evEs T es ρ S <;> rfl
  | _ => rfl
theorem jcons1_ok {es : Es} : jcons1 T es ρ (.ok x S) = jcons2 x (evEs T es ρ S) := rfl
theorem jcons2_ok : jcons2 x (.ok xs S) = .ok (x :: xs) S := rfl
end
/-! ### statements -/
def jasgF (i : Nat) (ρ : Env) : R D → F
  | .ok d S => if i < ρ.length then .nx (ρ.set i (some d)) S else .stuck
  | .exc c fs S => .exc c fs ρ S
  | .stuck => .stuck
def jasgLF (i : Nat) (ρ : Env) : R (List D) → F
  | .ok xs S => if i < ρ.length then .nx (ρ.set i (some (.ob S.length))) (S ++ [.lst xs]) else .stuck
  | .exc c fs S => .exc c fs ρ S
  | .stuck => .stuck
def jenvF (S : Sto) : Option Env → F
  | some ρ => .nx ρ S
  | none => .stuck
def jasgGF (g : G) (ρ : Env) : R D → F
  | .ok d S => jenvF S (asgG g d ρ)
  | .exc c fs S => .exc c fs ρ S
  | .stuck => .stuck
def jexF (ρ : Env) : R D → F
  | .ok _ S => .nx ρ S
  | .exc c fs S => .exc c fs ρ S
  | .stuck => .stuck
def jretF (ρ : Env) : R D → F
  | .ok d S => .ret d S
  | .exc c fs S => .exc c fs ρ S
  | .stuck => .stuck
def jstoF (ρ : Env) : Option Sto → F
  | some S => .nx ρ S
  | none => .stuck
def jsub3 (ρ : Env) (v x : D) : R D → F
  | .ok y S => jstoF ρ (setD x y v S)
  | .exc c fs S => .exc c fs ρ S
  | .stuck => .stuck
section
variable (T : Tab)
def jsub2 (i : E) (ρ : Env) (v : D) : R D → F
  | .ok x S => jsub3 ρ v x (evE T i ρ S)
  | .exc c fs S => .exc c fs ρ S
  | .stuck => .stuck
def jsub1 (o i : E) (ρ : Env) : R D → F
  | .ok v S => jsub2 T i ρ v (evE T o ρ S)
  | .exc c fs S => .exc c fs ρ S
  | .stuck => .stuck
def jif2 (a b : Ss) (ρ : Env) (S : Sto) : Option Bool → F
  | some true => evSs T a ρ S
  | some false => evSs T b ρ S
  | none => .stuck
def jif1 (a b : Ss) (ρ : Env) : R D → F
  | .ok x S => jif2 T a b ρ S (truD S x)
  | .exc c fs S => .exc c fs ρ S
  | .stuck => .stuck
def jfor1 (g : G) (b : Ss) (ρ : Env) : R ItV → F
  | .ok v S => forR v.items v (bodyR g (evSs T b)) ρ S
  | .exc c fs S => .exc c fs ρ S
  | .stuck => .stuck
def jsq (ss : Ss) : F → F
  | .nx ρ S => evSs T ss ρ S
  | f => f
end
def jaug2 (i : Nat) (ρ : Env) (S : Sto) : Option D → F
  | some z => .nx (ρ.set i (some z)) S
  | none => .stuck
def jaug1 (i : Nat) (o : Operator) (ρ : Env) (x : D) : R D → F
  | .ok y S => jaug2 i ρ S (augD o x y)
  | .exc c fs S => .exc c fs ρ S
  | .stuck => .stuck
def jaug0 (T : Tab) (i : Nat) (o : Operator) (e : E) (ρ : Env) (S : Sto) : Option (Option D) → F
  | some (some x) => jaug1 i o ρ x (evE T e ρ S)
  | _ => .stuck
section
variable {T : Tab} {ρ ρ1 : Env} {S S1 : Sto} {f : F} {x y v : D} {xs ys : List D} {c : Nat} {fs : List (List Nat × D)}
theorem k_step {s : St} {ss : Ss} : evSs T (.cons s ss) ρ S = jsq T ss (evS T s ρ S) := by
  rw [ss_step]; cases evS T s ρ S <;> rfl
theorem k_none : evSs T .nil ρ S = .nx ρ S := rfl
theorem jsq_nx {ss : Ss} : jsq T ss (.nx ρ S) = evSs T ss ρ S := rfl
theorem jsq_ret {ss : Ss} : jsq T ss (.ret x S) = .ret x S := rfl
theorem jsq_brk {ss : Ss} : jsq T ss (.brk ρ S) = .brk ρ S := rfl
theorem jsq_cnt {ss : Ss} : jsq T ss (.cnt ρ S) = .cnt ρ S := rfl
theorem jsq_exc {ss : Ss} : jsq T ss (.exc c fs ρ S) = .exc c fs ρ S := rfl
theorem k_asg {i : Nat} {e : E} : evS T (.asg (.nm i) e) ρ S = jasgF i ρ (evE T e ρ S) := by
  rw [es_asg]; cases evE T e ρ S <;> rfl
theorem jasgF_ok {i : Nat} : jasgF i ρ (.ok x S) = if i < ρ.length then .nx (ρ.set i (some x)) S else .stuck := rfl
theorem jasgF_exc {i : Nat} : jasgF i ρ (.exc c fs S) = .exc c fs ρ S := rfl
theorem k_asgL {i : Nat} {l : L} : evS T (.asgL i l) ρ S = jasgLF i ρ (evL T l ρ S) := by
  rw [es_asgL]; cases evL T l ρ S <;> rfl
theorem jasgLF_ok {i : Nat} : jasgLF i ρ (.ok xs S) = if i < ρ.length then .nx (ρ.set i (some (.ob S.length))) (S ++ [.lst xs]) else .stuck := rfl
theorem k_asgG {gs : Gs} {e : E} : evS T (.asg (.tup gs) e) ρ S = jasgGF (.tup gs) ρ (evE T e ρ S) := by
  rw [es_asgG]; cases evE T e ρ S with
  | ok d S => show (match asgG (.tup gs) d ρ with | some ρ1 => F.nx ρ1 S | none => .stuck) = jenvF S (asgG (.tup gs) d ρ); cases asgG (.tup gs) d ρ <;> rfl
  | _ => rfl
theorem jasgGF_ok {g : G} : jasgGF g ρ (.ok x S) = jenvF S (asgG g x ρ) := rfl
theorem jasgGF_exc {g : G} : jasgGF g ρ (.exc c fs S) = .exc c fs ρ S := rfl
theorem jenvF_ok : jenvF S (some ρ) = .nx ρ S := rfl
theorem aG_nm {i : Nat} : asgG (.nm i) x ρ = if i < ρ.length then some (ρ.set i (some x)) else none := by simp [asgG]
theorem aG_tup {gs : Gs} : asgG (.tup gs) (.tup xs) ρ = asgGs gs xs ρ := by simp [asgG]
theorem aG_nil : asgGs .nil [] ρ = some ρ := by simp [asgGs]
theorem aG_cons {g : G} {gs : Gs} : asgGs (.cons g gs) (x :: xs) ρ = (asgG g x ρ).bind (asgGs gs xs) := by simp [asgGs]
theorem k_ex {e : E} : evS T (.ex e) ρ S = jexF ρ (evE T e ρ S) := by
  rw [es_ex]; cases evE T e ρ S <;> rfl
theorem jexF_ok : jexF ρ (.ok x S) = .nx ρ S := rfl
theorem jexF_exc : jexF ρ (.exc c fs S) = .exc c fs ρ S := rfl
theorem k_ret {e : E} : evS T (.ret e) ρ S = jretF ρ (evE T e ρ S) := by
  rw [es_ret]; cases evE T e ρ S <;> rfl
theorem jretF_ok : jretF ρ (.ok x S) = .ret x S := rfl
theorem jretF_exc : jretF ρ (.exc c fs S) = .exc c fs ρ S := rfl
theorem k_ret0 : evS T .ret0 ρ S = .ret .non S := rfl
theorem k_brk : evS T .brk ρ S = .brk ρ S := rfl
theorem k_cnt : evS T .cnt ρ S = .cnt ρ S := rfl
theorem k_pass : evS T .pass ρ S = .nx ρ S := rfl
theorem k_raise {nm : Str} {m : List Nat} : evS T (.raise nm c m) ρ S = .exc c [] ρ S := rfl
theorem k_sub {o i e : E} : evS T (.sub o i e) ρ S = jsub1 T o i ρ (evE T e ρ S) := by
  rw [es_sub]; cases evE T e ρ S with
  | ok v S =>
    show (evE T o ρ S).toF ρ _ = jsub2 T i ρ v (evE T o ρ S)
    cases evE T o ρ S with
    | ok x S =>
      show (evE T i ρ S).toF ρ _ = jsub3 ρ v x (evE T i ρ S)
      cases evE T i ρ S with
      | ok y S => show (match setD x y v S with | some S4 => F.nx ρ S4 | none => .stuck) = jstoF ρ (setD x y v S); cases setD x y v S <;> rfl
      | _ => rfl
    | _ => rfl
  | _ => rfl
theorem jsub1_ok {o i : E} : jsub1 T o i ρ (.ok v S) = jsub2 T i ρ v (evE T o ρ S) := rfl
theorem jsub2_ok {i : E} : jsub2 T i ρ v (.ok x S) = jsub3 ρ v x (evE T i ρ S) := rfl
theorem jsub3_ok : jsub3 ρ v x (.ok y S) = jstoF ρ (setD x y v S) := rfl
theorem jstoF_ok : jstoF ρ (some S) = .nx ρ S := rfl
theorem k_if {c : E} {a b : Ss} : evS T (.ite c a b) ρ S = jif1 T a b ρ (evE T c ρ S) := by
  rw [es_ite]; cases evE T c ρ S with
  | ok x S => show (ofOpt (truD S x) S).toF ρ _ = jif2 T a b ρ S (truD S x); cases truD S x with
    | none => rfl
    | some k => cases k <;> rfl
  | _ => rfl
theorem jif1_ok {a b : Ss} : jif1 T a b ρ (.ok x S) = jif2 T a b ρ S (truD S x) := rfl
theorem jif1_exc {a b : Ss} : jif1 T a b ρ (.exc c fs S) = .exc c fs ρ S := rfl
theorem jif2_t {a b : Ss} : jif2 T a b ρ S (some true) = evSs T a ρ S := rfl
theorem jif2_f {a b : Ss} : jif2 T a b ρ S (some false) = evSs T b ρ S := rfl
theorem k_for {g : G} {it : It} {b : Ss} : evS T (.for_ g it b) ρ S = jfor1 T g b ρ (evIt T it ρ S) := by
  rw [es_for]; cases evIt T it ρ S <;> rfl
theorem jfor1_ok {g : G} {b : Ss} {v : ItV} : jfor1 T g b ρ (.ok v S) = forR v.items v (bodyR g (evSs T b)) ρ S := rfl
theorem k_aug {i : Nat} {o : Operator} {e : E} : evS T (.aug i o e) ρ S = jaug0 T i o e ρ S ρ[i]? := by
  show (match ρ[i]? with | some (some x) => _ | _ => _) = _
  cases ρ[i]? with
  | none => rfl
  | some q => cases q with
    | none => rfl
    | some x =>
      show (evE T e ρ S).toF ρ _ = jaug1 i o ρ x (evE T e ρ S)
      cases evE T e ρ S with
      | ok y S => show (match augD o x y with | some z => F.nx (ρ.set i (some z)) S | none => .stuck) = jaug2 i ρ S (augD o x y); cases augD o x y <;> rfl
      | _ => rfl
theorem jaug0_ok {i : Nat} {o : Operator} {e : E} : jaug0 T i o e ρ S (some (some x)) = jaug1 i o ρ x (evE T e ρ S) := rfl
theorem jaug1_ok {i : Nat} {o : Operator} : jaug1 i o ρ x (.ok y S) = jaug2 i ρ S (augD o x y) := rfl
theorem jaug2_ok {i : Nat} : jaug2 i ρ S (some x) = .nx (ρ.set i (some x)) S := rfl
theorem augD_add {a b : Int} : augD .Add (.int a) (.int b) = some (.int (a + b)) := rfl
theorem augD_sub {a b : Int} : augD .Sub (.int a) (.int b) = some (.int (a - b)) := rfl
end
/-! ### stores: what a def has made lies behind -/
section
variable {S : Sto} {l l' : List O} {o : O} {k : Nat}
theorem sto_get0 : (S ++ l)[S.length]? = l[0]? := by rw [List.getElem?_append_right (Nat.le_refl _), Nat.sub_self]
theorem sto_get : (S ++ l)[S.length + k]? = l[k]? := by rw [List.getElem?_append_right (Nat.le_add_right _ _), Nat.add_sub_cancel_left]
theorem sto_set0 : (S ++ l).set S.length o = S ++ l.set 0 o := by rw [List.set_append_right _ _ (Nat.le_refl _), Nat.sub_self]
theorem sto_set : (S ++ l).set (S.length + k) o = S ++ l.set k o := by rw [List.set_append_right _ _ (Nat.le_add_right _ _), Nat.add_sub_cancel_left]
end
def lstO : Option O → Option (List D)
  | some (.lst xs) => some xs
  | _ => none
def dctO : Option O → Option (Bool × List (D × D))
  | some (.dK kvs) => some (false, kvs)
  | some (.dT kvs) => some (true, kvs)
  | _ => none
def insO : Option O → Option (Nat × List (List Nat × D))
  | some (.ins c fs) => some (c, fs)
  | _ => none
section
variable {S : Sto} {i : Nat} {xs : List D} {kvs : List (D × D)} {fs : List (List Nat × D)} {c : Nat}
theorem k_lst : lstAt S i = lstO S[i]? := rfl
theorem k_dct : dctAt S i = dctO S[i]? := rfl
theorem k_ins : insAt S i = insO S[i]? := rfl
theorem lstO_l : lstO (some (.lst xs)) = some xs := rfl
theorem dctO_l : dctO (some (.lst xs)) = none := rfl
theorem dctO_K : dctO (some (.dK kvs)) = some (false, kvs) := rfl
theorem dctO_T : dctO (some (.dT kvs)) = some (true, kvs) := rfl
theorem insO_i : insO (some (.ins c fs)) = some (c, fs) := rfl
end
/-! ### old steps into the set -/
section
variable {T : Tab} {ρ : Env} {S S1 : Sto} {x : D} {xs : List D} {a b : Int}
theorem s_cst {d : D} : evE T (.cst d) ρ S = .ok d S := rfl
theorem s_gv {x : Str} {d : D} : evE T (.gv x d) ρ S = .ok d S := rfl
theorem s_disp {es : Es} : evL T (.disp es) ρ S = evEs T es ρ S := rfl
theorem s_tru_bl {b : Bool} : truD S (.bl b) = some b := rfl
theorem s_add : binD .Add (.int a) (.int b) = some (.int (a + b)) := rfl
theorem s_sub : binD .Sub (.int a) (.int b) = some (.int (a - b)) := rfl
theorem s_gt : cmpD .Gt (.int a) (.int b) = some (decide (b < a)) := rfl
theorem s_ge : cmpD .GtE (.int a) (.int b) = some (decide (b ≤ a)) := rfl
theorem s_lt : cmpD .Lt (.int a) (.int b) = some (decide (a < b)) := rfl
theorem s_le : cmpD .LtE (.int a) (.int b) = some (decide (a ≤ b)) := rfl
theorem s_eqi : eqD (.int a) (.int b) = some (decide (a = b)) := eqD_int a b
theorem s_int : biD .int [.int a] S = some (.int a) := rfl
theorem s_ofOpt {α : Type} {x : α} : ofOpt (some x) S = .ok x S := rfl
theorem s_map {α β : Type} {f : α → β} {x : α} : (some x).map f = some (f x) := rfl
theorem s_bind {α β : Type} {f : α → Option β} {x : α} : (some x).bind f = f x := rfl
theorem s_if {α : Type} {x y : α} : (if True then x else y) = x := if_pos trivial
theorem s_if' {α : Type} {x y : α} : (if False then x else y) = y := if_neg id
theorem s_ifb {α : Type} {x y : α} : (if true = true then x else y) = x := if_pos rfl
theorem s_ifb' {α : Type} {x y : α} : (if false = true then x else y) = y := if_neg Bool.false_ne_true
theorem s_dt : decide True = true := rfl
theorem s_df : decide False = false := rfl
theorem s_nt : (!true) = false := rfl
theorem s_nf : (!false) = true := rfl
theorem s_g0 {α : Type} {a : α} {l : List α} : (a :: l)[0]? = some a := rfl
theorem s_g1 {α : Type} {a : α} {l : List α} {n : Nat} : (a :: l)[n + 1]? = l[n]? := rfl
theorem s_s0 {α : Type} {a b : α} {l : List α} : (a :: l).set 0 b = b :: l := rfl
theorem s_s1 {α : Type} {a b : α} {l : List α} {n : Nat} : (a :: l).set (n + 1) b = a :: l.set n b := rfl
theorem s_l0 {α : Type} : ([] : List α).length = 0 := rfl
theorem s_l1 {α : Type} {a : α} {l : List α} : (a :: l).length = l.length + 1 := rfl
theorem s_lt0 {n : Nat} : (0 < n + 1) = True := eq_true (Nat.succ_pos n)
theorem s_lt1 {n m : Nat} : (n + 1 < m + 1) = (n < m) := propext Nat.succ_lt_succ_iff
theorem s_app {α : Type} {l l1 l2 : List α} : (l ++ l1) ++ l2 = l ++ (l1 ++ l2) := List.append_assoc l l1 l2
theorem s_ap0 {α : Type} {l : List α} : [] ++ l = l := rfl
theorem s_ap1 {α : Type} {a : α} {l l1 : List α} : (a :: l) ++ l1 = a :: (l ++ l1) := rfl
theorem s_lap {α : Type} {l l1 : List α} : (l ++ l1).length = l.length + l1.length := List.length_append
theorem s_isi_i {i : Int} : isiD S (.int i) .int = some true := rfl
theorem s_isi_it {i : Int} : isiD S (.int i) .tuple = some false := rfl
theorem s_isi_is {i : Int} : isiD S (.int i) .str = some false := rfl
theorem s_isi_ib {i : Int} : isiD S (.int i) .bool = some false := rfl
theorem s_isi_tt : isiD S (.tup xs) .tuple = some true := rfl
theorem s_isi_ti : isiD S (.tup xs) .int = some false := rfl
theorem s_isi_ts : isiD S (.tup xs) .str = some false := rfl
theorem s_isi_tb : isiD S (.tup xs) .bool = some false := rfl
theorem s_isi_ss {t : List Nat} : isiD S (.str t) .str = some true := rfl
theorem s_isi_st {t : List Nat} : isiD S (.str t) .tuple = some false := rfl
theorem s_isi_si {t : List Nat} : isiD S (.str t) .int = some false := rfl
end
theorem call_of {p : Pg} {k f : Nat} {ds : List D} {S S1 : Sto} {i : Fn} {d : D} (hi : p.fns[f]? = some i) (hl : ds.length = i.np) (h : evSs ⟨callF p k, callF p (k - 1), p.meth, p.init, p.lit, p.isx⟩ i.body (startE i.nn ds) S = .ret d S1) (hd : d.low S.length = true) (hp : S1.take S.length = S) : callF p (k + 1) f ds S = .ok d S := by
  rw [call_run hi hl, h]
  exact trunc_low hd hp
theorem call_exc {p : Pg} {k f c : Nat} {ds : List D} {S S1 : Sto} {i : Fn} {ρ : Env} {fs : List (List Nat × D)} (hi : p.fns[f]? = some i) (hl : ds.length = i.np) (h : evSs ⟨callF p k, callF p (k - 1), p.meth, p.init, p.lit, p.isx⟩ i.body (startE i.nn ds) S = .exc c fs ρ S1) : callF p (k + 1) f ds S = .exc c fs S1 := by
  rw [call_run hi hl, h]
  rfl
/-- all the steps at once -/
def ev := And.intro @k_var <| And.intro @jvR_ok <| And.intro @jbR_ok <| And.intro @k_tup <| And.intro @jtupR_ok <| And.intro @k_neg <| And.intro @jnegR_ok <| And.intro @k_not <| And.intro @jnotR_ok <| And.intro @k_bop <| And.intro @k_b1 <| And.intro @k_b2 <| And.intro @jb1_ok <| And.intro @jb2_tt <| And.intro @jb2_tf <| And.intro @jb2_ff <| And.intro @jb2_ft <| And.intro @k_bin <| And.intro @jbin1_ok <| And.intro @jbin2_ok <| And.intro @k_cmp <| And.intro @jcmp1_ok <| And.intro @jcmp2_ok <| And.intro @cI_in <| And.intro @cI_nin <| And.intro @cI_eq <| And.intro @cI_ne <| And.intro @cI_lt <| And.intro @cI_le <| And.intro @cI_gt <| And.intro @cI_ge <| And.intro @cI_is <| And.intro @cI_isn <| And.intro @k_ite <| And.intro @jite1_ok <| And.intro @jite2_t <| And.intro @jite2_f <| And.intro @k_idx <| And.intro @jidx1_ok <| And.intro @jidx2_ok <| And.intro @k_call <| And.intro @jcall1_ok <| And.intro @k_bi <| And.intro @jbi1_ok <| And.intro @k_bm <| And.intro @jbm1_ok <| And.intro @jbm2_ok <| And.intro @k_isi <| And.intro @jisi1_ok <| And.intro @k_own <| And.intro @jownR_ok <| And.intro @k_tupL <| And.intro @k_allL <| And.intro @jallR_ok <| And.intro @k_anyL <| And.intro @janyR_ok <| And.intro @k_sumL <| And.intro @jsumR_ok <| And.intro @k_lenL <| And.intro @jlenR_ok <| And.intro @k_nil <| And.intro @k_cons <| And.intro @jcons1_ok <| And.intro @jcons2_ok <| And.intro @k_step <| And.intro @k_none <| And.intro @jsq_nx <| And.intro @jsq_ret <| And.intro @jsq_brk <| And.intro @jsq_cnt <| And.intro @jsq_exc <| And.intro @k_asg <| And.intro @jasgF_ok <| And.intro @jasgF_exc <| And.intro @k_asgL <| And.intro @jasgLF_ok <| And.intro @k_asgG <| And.intro @jasgGF_ok <| And.intro @jasgGF_exc <| And.intro @jenvF_ok <| And.intro @aG_nm <| And.intro @aG_tup <| And.intro @aG_nil <| And.intro @aG_cons <| And.intro @k_ex <| And.intro @jexF_ok <| And.intro @jexF_exc <| And.intro @k_ret <| And.intro @jretF_ok <| And.intro @jretF_exc <| And.intro @k_ret0 <| And.intro @k_brk <| And.intro @k_cnt <| And.intro @k_pass <| And.intro @k_raise <| And.intro @k_sub <| And.intro @jsub1_ok <| And.intro @jsub2_ok <| And.intro @jsub3_ok <| And.intro @jstoF_ok <| And.intro @k_if <| And.intro @jif1_ok <| And.intro @jif1_exc <| And.intro @jif2_t <| And.intro @jif2_f <| And.intro @k_for <| And.intro @jfor1_ok <| And.intro @k_aug <| And.intro @jaug0_ok <| And.intro @jaug1_ok <| And.intro @jaug2_ok <| And.intro @augD_add <| And.intro @augD_sub <| And.intro @sto_get0 <| And.intro @sto_get <| And.intro @sto_set0 <| And.intro @sto_set <| And.intro @k_lst <| And.intro @k_dct <| And.intro @k_ins <| And.intro @lstO_l <| And.intro @dctO_l <| And.intro @dctO_K <| And.intro @dctO_T <| And.intro @insO_i <| And.intro @s_cst <| And.intro @s_gv <| And.intro @s_disp <| And.intro @s_tru_bl <| And.intro @s_add <| And.intro @s_sub <| And.intro @s_gt <| And.intro @s_ge <| And.intro @s_lt <| And.intro @s_le <| And.intro @s_eqi <| And.intro @s_int <| And.intro @s_ofOpt <| And.intro @s_map <| And.intro @s_bind <| And.intro @s_if <| And.intro @s_if' <| And.intro @s_ifb <| And.intro @s_ifb' <| And.intro @s_dt <| And.intro @s_df <| And.intro @s_nt <| And.intro @s_nf <| And.intro @s_g0 <| And.intro @s_g1 <| And.intro @s_s0 <| And.intro @s_s1 <| And.intro @s_l0 <| And.intro @s_l1 <| And.intro @s_lt0 <| And.intro @s_lt1 <| And.intro @s_app <| And.intro @s_ap0 <| And.intro @s_ap1 <| And.intro @s_lap <| And.intro @s_isi_i <| And.intro @s_isi_it <| And.intro @s_isi_is <| And.intro @s_isi_ib <| And.intro @s_isi_tt <| And.intro @s_isi_ti <| And.intro @s_isi_ts <| And.intro @s_isi_tb <| And.intro @s_isi_ss <| And.intro @s_isi_st <| @s_isi_si
end PL

set_option Elab.async false
set_option linter.all false
set_option maxRecDepth 100000
set_option maxHeartbeats 1000000
/-! PLS2: more steps without binders: slices, walks, comprehensions, lists. -/
namespace PL
open PySem
def jpart : R D → R (Option Int)
  | .ok (.int i) S => .ok (some i) S
  | .ok _ _ => .stuck
  | .exc c fs S => .exc c fs S
  | .stuck => .stuck
def jslcD (x : D) (lo hi : Option Int) (S : Sto) : R D := match x with
  | .str t => if t.length ≤ sizeLine then .ok (.str (cut t lo hi)) S else .stuck
  | .tup xs => .ok (.tup (cut xs lo hi)) S
  | _ => .stuck
def jslc3 (x : D) (lo : Option Int) : R (Option Int) → R D
  | .ok hi S => jslcD x lo hi S
  | .exc c fs S => .exc c fs S
  | .stuck => .stuck
def jslcLD (x : D) (lo hi : Option Int) (S : Sto) : R (List D) := match x with
  | .ob i => (match lstAt S i with
    | some xs => .ok (cut xs lo hi) S
    | none => .stuck)
  | _ => .stuck
def jslcL3 (x : D) (lo : Option Int) : R (Option Int) → R (List D)
  | .ok hi S => jslcLD x lo hi S
  | .exc c fs S => .exc c fs S
  | .stuck => .stuck
section
variable (T : Tab)
def jprt (e : E) (ρ : Env) (S : Sto) : R (Option Int) := if e.isN then .ok none S else (evE T e ρ S).bind partR
def jslc2 (hi : E) (ρ : Env) (x : D) : R (Option Int) → R D
  | .ok lo S => jslc3 x lo (jprt T hi ρ S)
  | .exc c fs S => .exc c fs S
  | .stuck => .stuck
def jslc1 (lo hi : E) (ρ : Env) : R D → R D
  | .ok x S => jslc2 T hi ρ x (jprt T lo ρ S)
  | r => r
def jslcL2 (hi : E) (ρ : Env) (x : D) : R (Option Int) → R (List D)
  | .ok lo S => jslcL3 x lo (jprt T hi ρ S)
  | .exc c fs S => .exc c fs S
  | .stuck => .stuck
def jslcL1 (lo hi : E) (ρ : Env) : R D → R (List D)
  | .ok x S => jslcL2 T hi ρ x (jprt T lo ρ S)
  | .exc c fs S => .exc c fs S
  | .stuck => .stuck
def jjoin1 (l : L) (ρ : Env) : R D → R D
  | .ok (.str t) S => (match evL T l ρ S with
    | .ok xs S => ofOpt ((allStr xs).bind fun ys => if (ys.map List.length).sum + ys.length * t.length ≤ 16777216 then some (.str (joinT t ys)) else none) S
    | .exc c fs S => .exc c fs S
    | .stuck => .stuck)
  | .ok _ _ => .stuck
  | r => r
end
def jjoin2 (t : List Nat) : R (List D) → R D
  | .ok xs S => ofOpt ((allStr xs).bind fun ys => if (ys.map List.length).sum + ys.length * t.length ≤ 16777216 then some (.str (joinT t ys)) else none) S
  | .exc c fs S => .exc c fs S
  | .stuck => .stuck
/-- walks -/
def jlstIt (i : Nat) (S : Sto) : Option (List D) → R ItV
  | some xs => .ok { items := xs, watch := [(i, xs)] } S
  | none => .stuck
def jitE : R D → R ItV
  | .ok (.tup xs) S => .ok { items := xs } S
  | .ok (.scr xs) S => .ok { items := xs.map .int } S
  | .ok (.str t) S => .ok { items := t.map fun c => .str [c] } S
  | .ok (.ob i) S => jlstIt i S (lstAt S i)
  | .ok _ _ => .stuck
  | .exc c fs S => .exc c fs S
  | .stuck => .stuck
def jitL : R (List D) → R ItV
  | .ok xs S => .ok { items := xs } S
  | .exc c fs S => .exc c fs S
  | .stuck => .stuck
def jr1 : R D → R ItV
  | .ok (.int j) S => if small j then .ok { items := rngD 0 j.toNat 1 } S else .stuck
  | .ok _ _ => .stuck
  | .exc c fs S => .exc c fs S
  | .stuck => .stuck
def jr2b (x : D) : R D → R ItV
  | .ok y S2 => (match x, y with
    | .int i, .int j => if small i && small j then .ok { items := rngD i (j - i).toNat 1 } S2 else .stuck
    | _, _ => .stuck)
  | .exc c fs S => .exc c fs S
  | .stuck => .stuck
def jr2 (T : Tab) (b : E) (ρ : Env) : R D → R ItV
  | .ok x S => jr2b x (evE T b ρ S)
  | .exc c fs S => .exc c fs S
  | .stuck => .stuck
def jr3c (x y : D) : R D → R ItV
  | .ok z S3 => (match x, y, z with
    | .int i, .int j, .int k => if decide (k ≠ 0 ∧ k.natAbs < 1073741824) && Builtin.Range.small i j k then .ok { items := rngD i (Builtin.Range.rangeSize i j k).toNat k } S3 else .stuck
    | _, _, _ => .stuck)
  | .exc c fs S => .exc c fs S
  | .stuck => .stuck
def jr3b (T : Tab) (c : E) (ρ : Env) (x : D) : R D → R ItV
  | .ok y S => jr3c x y (evE T c ρ S)
  | .exc c fs S => .exc c fs S
  | .stuck => .stuck
def jr3 (T : Tab) (b c : E) (ρ : Env) : R D → R ItV
  | .ok x S => jr3b T c ρ x (evE T b ρ S)
  | .exc c fs S => .exc c fs S
  | .stuck => .stuck
def jcomp (T : Tab) (own : List Nat) (elt : E) (g : G) (cs : Es) (ρ : Env) : R ItV → R (List D)
  | .ok v S => compR v.items v (turn1 g own (evT T cs) (evE T elt) ρ) [] S
  | .exc c fs S => .exc c fs S
  | .stuck => .stuck
def jcomp2 (T : Tab) (own own1 : List Nat) (elt : E) (g g1 : G) (it1 : It) (cs : Es) (ρ : Env) : R ItV → R (List D)
  | .ok v S => compR v.items v (turn2 g own own1 g1 (evIt T it1) (evT T cs) (evE T elt) ρ) [] S
  | .exc c fs S => .exc c fs S
  | .stuck => .stuck
def jlO (S : Sto) : Option (List D) → R (List D)
  | some xs => .ok xs S
  | none => .stuck
def jlistOf : R D → R (List D)
  | .ok x S => jlO S (seqOf S x)
  | .exc c fs S => .exc c fs S
  | .stuck => .stuck
def jsortL : R (List D) → R (List D)
  | .ok x S => jlO S (sortD x)
  | .exc c fs S => .exc c fs S
  | .stuck => .stuck
def jrev : R D → R (List D)
  | .ok (.ob i) S => jlO S ((lstAt S i).map List.reverse)
  | .ok _ _ => .stuck
  | .exc c fs S => .exc c fs S
  | .stuck => .stuck
def jcat2 (xs : List D) : R (List D) → R (List D)
  | .ok ys S => if xs.length + ys.length ≤ 10000000 then .ok (xs ++ ys) S else .stuck
  | .exc c fs S => .exc c fs S
  | .stuck => .stuck
def jcat1 (T : Tab) (b : L) (ρ : Env) : R (List D) → R (List D)
  | .ok xs S => jcat2 xs (evL T b ρ S)
  | .exc c fs S => .exc c fs S
  | .stuck => .stuck
def jcatO (S : Sto) (ys : List D) : Option (List D) → R (List D)
  | some xs => if xs.length + ys.length ≤ 10000000 then .ok (xs ++ ys) S else .stuck
  | none => .stuck
def jcatE2 (x : D) : R (List D) → R (List D)
  | .ok ys S => (match x with
    | .ob i => jcatO S ys (lstAt S i)
    | _ => .stuck)
  | .exc c fs S => .exc c fs S
  | .stuck => .stuck
def jcatE1 (T : Tab) (b : L) (ρ : Env) : R D → R (List D)
  | .ok x S => jcatE2 x (evL T b ρ S)
  | .exc c fs S => .exc c fs S
  | .stuck => .stuck
section
variable {T : Tab} {ρ ρ1 : Env} {S S1 : Sto} {f : F} {x y : D} {xs ys : List D} {c : Nat} {fs : List (List Nat × D)}
theorem m_n0 : jprt T (.cst .non) ρ S = .ok none S := rfl
theorem m_n {e : E} (h : e.isN = false) : jprt T e ρ S = jpart (evE T e ρ S) := by
  unfold jprt
  rw [h]
  simp only [Bool.false_eq_true, if_false]
  cases evE T e ρ S with
  | ok x S => cases x <;> rfl
  | _ => rfl
theorem m_isn1 {i : Nat} : E.isN (.var i) = false := rfl
theorem m_isn2 {i : Int} : E.isN (.cst (.int i)) = false := rfl
theorem m_isn3 {o : Operator} {a b : E} : E.isN (.bin o a b) = false := rfl
theorem m_isn4 {a : E} : E.isN (.neg a) = false := rfl
theorem m_isn5 {b : BI} {es : Es} : E.isN (.bi b es) = false := rfl
theorem m_isn6 {x : Str} {d : Int} : E.isN (.gv x (.int d)) = false := rfl
theorem m_part {i : Int} : jpart (.ok (.int i) S) = .ok (some i) S := rfl
theorem m_slc {a lo hi : E} : evE T (.slc a lo hi) ρ S = jslc1 T lo hi ρ (evE T a ρ S) := by
  rw [ev_slc]
  cases evE T a ρ S with
  | ok x S =>
    show (jprt T lo ρ S).bind _ = jslc2 T hi ρ x (jprt T lo ρ S)
    cases jprt T lo ρ S with
    | ok l S2 =>
      show (jprt T hi ρ S2).bind _ = jslc3 x l (jprt T hi ρ S2)
      cases jprt T hi ρ S2 <;> rfl
    | _ => rfl
  | _ => rfl
theorem m_slc1 {lo hi : E} : jslc1 T lo hi ρ (.ok x S) = jslc2 T hi ρ x (jprt T lo ρ S) := rfl
theorem m_slc2 {hi : E} {l : Option Int} : jslc2 T hi ρ x (.ok l S) = jslc3 x l (jprt T hi ρ S) := rfl
theorem m_slc3 {l h : Option Int} : jslc3 x l (.ok h S) = jslcD x l h S := rfl
theorem m_slcT {l h : Option Int} : jslcD (.tup xs) l h S = .ok (.tup (cut xs l h)) S := rfl
theorem m_slcS {l h : Option Int} {t : List Nat} (hl : t.length ≤ sizeLine) : jslcD (.str t) l h S = .ok (.str (cut t l h)) S := if_pos hl
theorem m_slcL {a lo hi : E} : evL T (.slc a lo hi) ρ S = jslcL1 T lo hi ρ (evE T a ρ S) := by
  show (evE T a ρ S).bind _ = _
  cases evE T a ρ S with
  | ok x S =>
    show (jprt T lo ρ S).bind _ = jslcL2 T hi ρ x (jprt T lo ρ S)
    cases jprt T lo ρ S with
    | ok l S2 =>
      show (jprt T hi ρ S2).bind _ = jslcL3 x l (jprt T hi ρ S2)
      cases jprt T hi ρ S2 <;> rfl
    | _ => rfl
  | _ => rfl
theorem m_slcL1 {lo hi : E} : jslcL1 T lo hi ρ (.ok x S) = jslcL2 T hi ρ x (jprt T lo ρ S) := rfl
theorem m_slcL2 {hi : E} {l : Option Int} : jslcL2 T hi ρ x (.ok l S) = jslcL3 x l (jprt T hi ρ S) := rfl
theorem m_slcL3 {i : Nat} {l h : Option Int} (e : lstAt S i = some xs) : jslcL3 (.ob i) l (.ok h S) = .ok (cut xs l h) S := by
  show (match lstAt S i with | some xs => R.ok (cut xs l h) S | none => .stuck) = _
  rw [e]
theorem m_join {e : E} {l : L} : evE T (.joinL e l) ρ S = jjoin1 T l ρ (evE T e ρ S) := by
  rw [ev_joinL]
  cases evE T e ρ S with
  | ok x S => cases x with
    | str t =>
      show (evL T l ρ S).bind _ = (match evL T l ρ S with | .ok xs S => _ | .exc c fs S => _ | .stuck => _)
      cases evL T l ρ S <;> rfl
    | _ => rfl
  | _ => rfl
theorem m_join1 {l : L} {t : List Nat} : jjoin1 T l ρ (.ok (.str t) S) = jjoin2 t (evL T l ρ S) := by
  show (match evL T l ρ S with | .ok xs S => _ | .exc c fs S => _ | .stuck => _) = _
  cases evL T l ρ S <;> rfl
theorem m_join2 {t : List Nat} : jjoin2 t (.ok xs S) = ofOpt ((allStr xs).bind fun ys => if (ys.map List.length).sum + ys.length * t.length ≤ 16777216 then some (.str (joinT t ys)) else none) S := rfl
theorem m_itE {e : E} : evIt T (.ofE e) ρ S = jitE (evE T e ρ S) := by
  rw [it_ofE]
  cases evE T e ρ S with
  | ok x S => cases x with
    | ob i =>
      show (match lstAt S i with | some xs => _ | none => _) = jlstIt i S (lstAt S i)
      cases lstAt S i <;> rfl
    | _ => rfl
  | _ => rfl
theorem m_itE_t : jitE (.ok (.tup xs) S) = .ok { items := xs } S := rfl
theorem m_itE_s {t : List Nat} : jitE (.ok (.str t) S) = .ok { items := t.map fun c => .str [c] } S := rfl
theorem m_itE_o {i : Nat} : jitE (.ok (.ob i) S) = jlstIt i S (lstAt S i) := rfl
theorem m_itE_l {i : Nat} : jlstIt i S (some xs) = .ok { items := xs, watch := [(i, xs)] } S := rfl
theorem m_itE_r {ns : List Int} : jitE (.ok (.scr ns) S) = .ok { items := ns.map .int } S := rfl
theorem m_itL {l : L} : evIt T (.ofL l) ρ S = jitL (evL T l ρ S) := by
  show (evL T l ρ S).bind _ = _
  cases evL T l ρ S <;> rfl
theorem m_itL1 : jitL (.ok xs S) = .ok { items := xs } S := rfl
theorem m_r1 {a : E} : evIt T (.rng1 a) ρ S = jr1 (evE T a ρ S) := by
  rw [it_rng1]
  cases evE T a ρ S with
  | ok x S => cases x <;> rfl
  | _ => rfl
theorem m_r1_ok {j : Int} (h : small j = true) : jr1 (.ok (.int j) S) = .ok { items := rngD 0 j.toNat 1 } S := if_pos h
theorem m_r2 {a b : E} : evIt T (.rng2 a b) ρ S = jr2 T b ρ (evE T a ρ S) := by
  rw [it_rng2]
  cases evE T a ρ S with
  | ok x S =>
    show (evE T b ρ S).bind _ = jr2b x (evE T b ρ S)
    cases evE T b ρ S <;> rfl
  | _ => rfl
theorem m_r2a {b : E} : jr2 T b ρ (.ok x S) = jr2b x (evE T b ρ S) := rfl
theorem m_r2_ok {i j : Int} (h : small i = true) (h' : small j = true) : jr2b (.int i) (.ok (.int j) S) = .ok { items := rngD i (j - i).toNat 1 } S := by
  show (if small i && small j then _ else _) = _
  rw [h, h']
  rfl
theorem m_r3 {a b c : E} : evIt T (.rng3 a b c) ρ S = jr3 T b c ρ (evE T a ρ S) := by
  rw [it_rng3]
  cases evE T a ρ S with
  | ok x S =>
    show (evE T b ρ S).bind _ = jr3b T c ρ x (evE T b ρ S)
    cases evE T b ρ S with
    | ok y S =>
      show (evE T c ρ S).bind _ = jr3c x y (evE T c ρ S)
      cases evE T c ρ S <;> rfl
    | _ => rfl
  | _ => rfl
theorem m_r3a {b c : E} : jr3 T b c ρ (.ok x S) = jr3b T c ρ x (evE T b ρ S) := rfl
theorem m_r3b {c : E} : jr3b T c ρ x (.ok y S) = jr3c x y (evE T c ρ S) := rfl
theorem m_r3_ok {i j k : Int} (h : decide (k ≠ 0 ∧ k.natAbs < 1073741824) = true) (h' : Builtin.Range.small i j k = true) : jr3c (.int i) (.int j) (.ok (.int k) S) = .ok { items := rngD i (Builtin.Range.rangeSize i j k).toNat k } S := by
  show (if decide (k ≠ 0 ∧ k.natAbs < 1073741824) && Builtin.Range.small i j k then _ else _) = _
  rw [h, h']
  rfl
theorem m_comp {own : List Nat} {elt : E} {g : G} {it : It} {cs : Es} : evL T (.comp own elt g it cs) ρ S = jcomp T own elt g cs ρ (evIt T it ρ S) := by
  rw [l_comp]
  cases evIt T it ρ S <;> rfl
theorem m_comp1 {own : List Nat} {elt : E} {g : G} {cs : Es} {v : ItV} : jcomp T own elt g cs ρ (.ok v S) = compR v.items v (turn1 g own (evT T cs) (evE T elt) ρ) [] S := rfl
theorem m_compb {own own1 : List Nat} {elt : E} {g g1 : G} {it it1 : It} {cs : Es} : evL T (.comp2 own own1 elt g it g1 it1 cs) ρ S = jcomp2 T own own1 elt g g1 it1 cs ρ (evIt T it ρ S) := by
  rw [l_comp2]
  cases evIt T it ρ S <;> rfl
theorem m_compb1 {own own1 : List Nat} {elt : E} {g g1 : G} {it1 : It} {cs : Es} {v : ItV} : jcomp2 T own own1 elt g g1 it1 cs ρ (.ok v S) = compR v.items v (turn2 g own own1 g1 (evIt T it1) (evT T cs) (evE T elt) ρ) [] S := rfl
theorem m_lO : jlO S (some xs) = .ok xs S := rfl
theorem m_listOf {e : E} : evL T (.listOf e) ρ S = jlistOf (evE T e ρ S) := by
  rw [ev_listOf]
  cases evE T e ρ S with
  | ok x S => show ofOpt (seqOf S x) S = jlO S (seqOf S x); cases seqOf S x <;> rfl
  | _ => rfl
theorem m_listOf1 : jlistOf (.ok x S) = jlO S (seqOf S x) := rfl
theorem m_seq_t : seqOf S (.tup xs) = some xs := rfl
theorem m_seq_r {ns : List Int} : seqOf S (.scr ns) = some (ns.map D.int) := rfl
theorem m_seq_o {i : Nat} : seqOf S (.ob i) = lstAt S i := rfl
theorem m_sortL {l : L} : evL T (.sortL l) ρ S = jsortL (evL T l ρ S) := by
  show (evL T l ρ S).bind _ = _
  cases evL T l ρ S with
  | ok x S => show ofOpt (sortD x) S = jlO S (sortD x); cases sortD x <;> rfl
  | _ => rfl
theorem m_sortL1 : jsortL (.ok xs S) = jlO S (sortD xs) := rfl
theorem m_rev {e : E} : evL T (.rev e) ρ S = jrev (evE T e ρ S) := by
  rw [l_rev]
  cases evE T e ρ S with
  | ok x S => cases x with
    | ob i =>
      show (match lstAt S i with | some xs => _ | none => _) = jlO S ((lstAt S i).map List.reverse)
      cases lstAt S i <;> rfl
    | _ => rfl
  | _ => rfl
theorem m_rev1 {i : Nat} : jrev (.ok (.ob i) S) = jlO S ((lstAt S i).map List.reverse) := rfl
theorem m_cat {a b : L} : evL T (.cat a b) ρ S = jcat1 T b ρ (evL T a ρ S) := by
  show (evL T a ρ S).bind _ = _
  cases evL T a ρ S with
  | ok x S => show (evL T b ρ S).bind _ = jcat2 x (evL T b ρ S); cases evL T b ρ S <;> rfl
  | _ => rfl
theorem m_cat1 {b : L} : jcat1 T b ρ (.ok xs S) = jcat2 xs (evL T b ρ S) := rfl
theorem m_cat2 (h : xs.length + ys.length ≤ 10000000) : jcat2 xs (.ok ys S) = .ok (xs ++ ys) S := if_pos h
theorem m_catE {a : E} {b : L} : evL T (.catE a b) ρ S = jcatE1 T b ρ (evE T a ρ S) := by
  rw [l_catE]
  cases evE T a ρ S with
  | ok x S =>
    show (evL T b ρ S).bind _ = jcatE2 x (evL T b ρ S)
    cases evL T b ρ S with
    | ok ys S => cases x with
      | ob i =>
        show (match lstAt S i with | some xs => _ | none => _) = jcatO S ys (lstAt S i)
        cases lstAt S i <;> rfl
      | _ => rfl
    | _ => rfl
  | _ => rfl
theorem m_catE1 {b : L} : jcatE1 T b ρ (.ok x S) = jcatE2 x (evL T b ρ S) := rfl
theorem m_catE2 {i : Nat} : jcatE2 (.ob i) (.ok ys S) = jcatO S ys (lstAt S i) := rfl
theorem m_catO (h : xs.length + ys.length ≤ 10000000) : jcatO S ys (some xs) = .ok (xs ++ ys) S := if_pos h
theorem m_recvA {i : Nat} : recvOk .append (.ob i) S = (lstAt S i).isSome := rfl
theorem m_recvP {i : Nat} : recvOk .pop (.ob i) S = (lstAt S i).isSome := rfl
theorem m_recvX {i : Nat} : recvOk .extend (.ob i) S = (lstAt S i).isSome := rfl
theorem m_recvF {t : List Nat} : recvOk .find2 (.str t) S = true := rfl
theorem m_recvZ {t : List Nat} : recvOk .zfill (.str t) S = true := rfl
theorem m_some {α : Type} {a : α} : (some a).isSome = true := rfl
def japp (i : Nat) (x : D) (S : Sto) : Option (List D) → R D
  | some xs => if xs.length < 10000000 then .ok .non (S.set i (.lst (xs ++ [x]))) else .stuck
  | none => .stuck
theorem m_app {i : Nat} : bmD .append (.ob i) [x] S = japp i x S (lstAt S i) := by
  show appendM (.ob i) [x] S = _
  unfold appendM
  dsimp only
  cases lstAt S i <;> rfl
theorem m_app1 {i : Nat} (h : xs.length < 10000000) : japp i x S (some xs) = .ok .non (S.set i (.lst (xs ++ [x]))) := if_pos h
theorem m_len_t : biD .len [.tup xs] S = some (.int xs.length) := rfl
theorem m_len_s {t : List Nat} (h : t.length ≤ sizeLine) : biD .len [.str t] S = some (.int t.length) := if_pos h
def jlenO (S : Sto) (i : Nat) : Option (Bool × List (D × D)) → Option D
  | some (false, kvs) => some (.int kvs.length)
  | some (true, _) => none
  | none => (lstAt S i).map fun xs => .int xs.length
theorem m_len_o {i : Nat} : biD .len [.ob i] S = jlenO S i (dctAt S i) := by
  show lenD [.ob i] S = _
  unfold lenD
  dsimp only
  cases dctAt S i with
  | none => rfl
  | some p => obtain ⟨b, kvs⟩ := p; cases b <;> rfl
theorem m_len_l {i : Nat} : jlenO S i none = (lstAt S i).map fun xs => .int xs.length := rfl
theorem m_tupOf : biD .tupOf [x] S = (seqOf S x).map .tup := rfl
def jidxO (S : Sto) (j : Nat) (y : D) : Option (Bool × List (D × D)) → Option D
  | some (b, kvs) => if okKey b y then dlook kvs y else none
  | none => (match lstAt S j, y with
      | some xs, .int i => atI xs i
      | _, _ => none)
theorem m_idx_t {i : Int} : idxD S (.tup xs) (.int i) = atI xs i := rfl
theorem m_idx_s {i : Int} {t : List Nat} (h : t.length ≤ sizeLine) : idxD S (.str t) (.int i) = (atI t i).map fun c => .str [c] := if_pos h
theorem m_idx_o {i : Nat} : idxD S (.ob i) y = jidxO S i y (dctAt S i) := by
  unfold idxD
  dsimp only
  cases dctAt S i with
  | none => rfl
  | some p => rfl
def jatO : Option (List D) → Int → Option D
  | some xs, i => atI xs i
  | none, _ => none
theorem m_idx_l {j : Nat} {i : Int} : jidxO S j (.int i) none = jatO (lstAt S j) i := by
  show (match lstAt S j, D.int i with | some xs, .int i => atI xs i | _, _ => none) = _
  cases lstAt S j <;> rfl
theorem m_at1 {i : Int} : jatO (some xs) i = atI xs i := rfl
theorem m_tru_i {i : Int} : truD S (.int i) = some (i != 0) := rfl
theorem m_tru_n : truD S .non = some false := rfl
theorem m_isn_n : isNon .non = true := rfl
theorem m_isn_t : isNon (.tup xs) = false := rfl
theorem m_isn_i {i : Int} : isNon (.int i) = false := rfl
end
section
variable {T : Tab} {ρ : Env} {S : Sto} {v : ItV} {own : List Nat} {elt : E} {i : Nat} {xs : List D}
/-- [f(x) for x in ..] behind its walk -/
theorem cm {f : D → D} (hi : i < (wipeE ρ own).length) (hs : v.stays S = true) (h : ∀ x ∈ xs, evE T elt ((wipeE ρ own).set i (some x)) S = .ok (f x) S) (hl : xs.length ≤ 4000000) : compR xs v (turn1 (.nm i) own (evT T .nil) (evE T elt) ρ) [] S = .ok (xs.map f) S := by
  have e : ∀ l : List D, l.flatMap (fun x => [f x]) = l.map f := flatMap_one f
  have := compR_all (v := v) (S := S) (turn := turn1 (.nm i) own (evT T .nil) (evE T elt) ρ) (fun x => [f x]) xs [] hs (fun x hx => by
    rw [turn1_at hi rfl, ev_t0, R.bind_ok, if_pos rfl, h x hx, R.bind_ok]) (by rw [e, List.nil_append, List.length_map]; exact hl)
  rw [e, List.nil_append] at this
  exact this
/-- [f(x) for x in .. if q(x)] -/
theorem cf {c : E} {f : D → D} (q : D → Bool) (hi : i < (wipeE ρ own).length) (hs : v.stays S = true) (hq : ∀ x ∈ xs, evE T c ((wipeE ρ own).set i (some x)) S = .ok (.bl (q x)) S) (h : ∀ x ∈ xs, q x = true → evE T elt ((wipeE ρ own).set i (some x)) S = .ok (f x) S) (hl : xs.length ≤ 4000000) : compR xs v (turn1 (.nm i) own (evT T (.cons c .nil)) (evE T elt) ρ) [] S = .ok ((xs.filter q).map f) S := by
  have e : ∀ l : List D, l.flatMap (fun x => if q x then [f x] else []) = (l.filter q).map f := fun l => by
    induction l with
    | nil => rfl
    | cons a l ih =>
      rw [List.flatMap_cons, ih, List.filter_cons]
      split <;> rfl
  have := compR_all (v := v) (S := S) (turn := turn1 (.nm i) own (evT T (.cons c .nil)) (evE T elt) ρ) (fun x => if q x then [f x] else []) xs [] hs (fun x hx => by
    rw [turn1_at hi rfl, ev_t1, hq x hx, R.bind_ok, tru_bl, ofOpt_some, R.bind_ok]
    cases hx2 : q x with
    | false => rfl
    | true =>
      rw [if_pos rfl, ev_t0, R.bind_ok, if_pos rfl, h x hx hx2]
      rfl) (by rw [e, List.nil_append, List.length_map]; exact Nat.le_trans (List.length_filter_le _ _) hl)
  rw [e, List.nil_append] at this
  exact this
end
/-- all the further steps at once -/
def ew := And.intro ev <| And.intro @m_n0 <| And.intro @m_n <| And.intro @m_isn1 <| And.intro @m_isn2 <| And.intro @m_isn3 <| And.intro @m_isn4 <| And.intro @m_isn5 <| And.intro @m_isn6 <| And.intro @m_part <| And.intro @m_slc <| And.intro @m_slc1 <| And.intro @m_slc2 <| And.intro @m_slc3 <| And.intro @m_slcT <| And.intro @m_slcS <| And.intro @m_slcL <| And.intro @m_slcL1 <| And.intro @m_slcL2 <| And.intro @m_slcL3 <| And.intro @m_join <| And.intro @m_join1 <| And.intro @m_join2 <| And.intro @m_itE <| And.intro @m_itE_t <| And.intro @m_itE_s <| And.intro @m_itE_o <| And.intro @m_itE_l <| And.intro @m_itE_r <| And.intro @m_itL <| And.intro @m_itL1 <| And.intro @m_r1 <| And.intro @m_r1_ok <| And.intro @m_r2 <| And.intro @m_r2a <| And.intro @m_r2_ok <| And.intro @m_r3 <| And.intro @m_r3a <| And.intro @m_r3b <| And.intro @m_r3_ok <| And.intro @m_comp <| And.intro @m_comp1 <| And.intro @m_compb <| And.intro @m_compb1 <| And.intro @m_lO <| And.intro @m_listOf <| And.intro @m_listOf1 <| And.intro @m_seq_t <| And.intro @m_seq_r <| And.intro @m_seq_o <| And.intro @m_sortL <| And.intro @m_sortL1 <| And.intro @m_rev <| And.intro @m_rev1 <| And.intro @m_cat <| And.intro @m_cat1 <| And.intro @m_cat2 <| And.intro @m_catE <| And.intro @m_catE1 <| And.intro @m_catE2 <| And.intro @m_catO <| And.intro @m_recvA <| And.intro @m_recvP <| And.intro @m_recvX <| And.intro @m_recvF <| And.intro @m_recvZ <| And.intro @m_some <| And.intro @m_app <| And.intro @m_app1 <| And.intro @m_len_t <| And.intro @m_len_s <| And.intro @m_len_o <| And.intro @m_len_l <| And.intro @m_tupOf <| And.intro @m_idx_t <| And.intro @m_idx_s <| And.intro @m_idx_o <| And.intro @m_idx_l <| And.intro @m_at1 <| And.intro @m_tru_i <| And.intro @m_tru_n <| And.intro @m_isn_n <| And.intro @m_isn_t <| @m_isn_i
end PL

set_option Elab.async false
set_option linter.all false
set_option maxRecDepth 100000
set_option maxHeartbeats 1000000
/-! PLO: the order of data: sorted, min, max. Plain Lean. -/
namespace PL
open PySem
mutual
def dlt : D → D → Bool
  | .int a, .int b => decide (a < b)
  | .str a, .str b => decide (a < b)
  | .tup a, .tup b => dlts a b
  | _, _ => false
def dlts : List D → List D → Bool
  | [], [] => false
  | [], _ :: _ => true
  | _ :: _, [] => false
  | a :: as, b :: bs => if a = b then dlts as bs else dlt a b
end
mutual
/-- the two can be compared -/
def alk : D → D → Bool
  | .int _, .int _ => true
  | .str _, .str _ => true
  | .tup a, .tup b => alks a b
  | _, _ => false
def alks : List D → List D → Bool
  | x :: xs, y :: ys => alk x y && alks xs ys
  | [], _ => true
  | _ :: _, [] => true
end
theorem pyOf_dat {x : D} (h : x.dat = true) : x.py = some (pyOf x) := by
  obtain ⟨p, e, _⟩ := dat_py x h
  unfold pyOf
  rw [e]
  rfl
theorem pys_dat {xs : List D} (h : D.dats xs = true) : D.pys xs = some (xs.map pyOf) := by
  obtain ⟨ps, e, _⟩ := dats_py xs h
  rw [e]
  exact congrArg some (pys_map e)
theorem pyOf_tup {xs : List D} (h : D.dats xs = true) : pyOf (.tup xs) = .tuple (xs.map pyOf) := by
  unfold pyOf
  simp only [D.py, pys_dat h, Option.map_some, Option.getD_some]
  rfl
theorem pyOf_int (i : Int) : pyOf (.int i) = .int i := rfl
theorem pyOf_str (t : List Nat) : pyOf (.str t) = .str ⟨t.toArray⟩ := rfl
theorem dats_cons {x : D} {xs : List D} : D.dats (x :: xs) = (x.dat && D.dats xs) := by simp only [D.dats]
theorem dats_all : ∀ {xs : List D}, D.dats xs = true ↔ ∀ x ∈ xs, x.dat = true
  | [] => by simp [D.dats]
  | x :: xs => by rw [dats_cons, Bool.and_eq_true, dats_all]; simp
mutual
theorem dlt_py : ∀ (x y : D), x.dat = true → y.dat = true → alk x y = true → PySem.W.dataLt (pyOf x) (pyOf y) = dlt x y ∧ PySem.W.alike (pyOf x) (pyOf y) = true
  | .int a, .int b, _, _, _ => by
    rw [pyOf_int, pyOf_int]
    exact ⟨PySem.W.dataLt_int a b, by simp only [PySem.W.alike]⟩
  | .str a, .str b, _, _, _ => by
    rw [pyOf_str, pyOf_str]
    refine ⟨?_, by simp only [PySem.W.alike]⟩
    rw [PySem.W.dataLt_str]
    simp only [dlt]
  | .tup a, .tup b, hx, hy, h => by
    have hx : D.dats a = true := by simpa only [D.dat] using hx
    have hy : D.dats b = true := by simpa only [D.dat] using hy
    rw [pyOf_tup hx, pyOf_tup hy, PySem.W.dataLt_tuple]
    have := dlts_py a b hx hy (by simpa only [alk] using h)
    refine ⟨?_, ?_⟩
    · rw [this.1]; simp only [dlt]
    · simp only [PySem.W.alike]; exact this.2
  | .int _, .str _, _, _, h => by simp [alk] at h
  | .int _, .tup _, _, _, h => by simp [alk] at h
  | .str _, .int _, _, _, h => by simp [alk] at h
  | .str _, .tup _, _, _, h => by simp [alk] at h
  | .tup _, .int _, _, _, h => by simp [alk] at h
  | .tup _, .str _, _, _, h => by simp [alk] at h
  | .non, _, h, _, _ => by simp [D.dat] at h
  | .bl _, _, h, _, _ => by simp [D.dat] at h
  | .scr _, _, h, _, _ => by simp [D.dat] at h
  | .ob _, _, h, _, _ => by simp [D.dat] at h
  | .fn _, _, h, _, _ => by simp [D.dat] at h
  | _, .non, _, h, _ => by simp [D.dat] at h
  | _, .bl _, _, h, _ => by simp [D.dat] at h
  | _, .scr _, _, h, _ => by simp [D.dat] at h
  | _, .ob _, _, h, _ => by simp [D.dat] at h
  | _, .fn _, _, h, _ => by simp [D.dat] at h
theorem dlts_py : ∀ (xs ys : List D), D.dats xs = true → D.dats ys = true → alks xs ys = true → PyProof.Rows.lexLt PyProof.Rows.itemOrd (PySem.W.keyToksAll (xs.map pyOf)) (PySem.W.keyToksAll (ys.map pyOf)) = dlts xs ys ∧ PySem.W.alikeAll (xs.map pyOf) (ys.map pyOf) = true
  | [], [], _, _, _ => ⟨by decide, by decide⟩
  | [], y :: ys, _, _, _ => by
    refine ⟨?_, by simp only [List.map_nil, PySem.W.alikeAll]⟩
    rw [List.map_cons, List.map_nil, PySem.W.toks_all_cons]
    simp only [dlts, PySem.W.keyToksAll]
    rw [PySem.W.lex_atom (by decide)]
    decide
  | x :: xs, [], _, _, _ => by
    refine ⟨?_, by simp only [List.map_cons, List.map_nil, PySem.W.alikeAll]⟩
    rw [List.map_cons, List.map_nil, PySem.W.toks_all_cons]
    simp only [dlts, PySem.W.keyToksAll]
    rw [PySem.W.lex_atom (by decide)]
    decide
  | x :: xs, y :: ys, hx, hy, h => by
    rw [dats_cons, Bool.and_eq_true] at hx hy
    simp only [alks, Bool.and_eq_true] at h
    have h1 := dlt_py x y hx.1 hy.1 h.1
    have h2 := dlts_py xs ys hx.2 hy.2 h.2
    have he := dat_eqv x y _ _ hx.1 hy.1 (pyOf_dat hx.1) (pyOf_dat hy.1)
    rw [List.map_cons, List.map_cons]
    refine ⟨?_, by simp only [PySem.W.alikeAll, h1.2, h2.2, Bool.and_self]⟩
    by_cases e : x = y
    · rw [PySem.W.dataLt_all_yes h1.2 (by rw [he, decide_eq_true e]), h2.1]
      simp only [dlts, if_pos e]
    · rw [PySem.W.dataLt_all_no h1.2 (by rw [he, decide_eq_false e]), h1.1]
      simp only [dlts, if_neg e]
end
theorem pyLe_dlt {x y : D} (hx : x.dat = true) (hy : y.dat = true) (h : alk y x = true) : pyLe x y = !dlt y x := by
  unfold pyLe
  rw [(dlt_py y x hy hx h).1]
/-! ### a total order -/
theorem slt_irr : ∀ a : List Nat, ¬ a < a := fun a => List.lt_irrefl a
mutual
theorem dlt_irr : ∀ x : D, dlt x x = false
  | .int a => by simp [dlt]
  | .str a => by simp [dlt, slt_irr]
  | .tup a => by simp only [dlt]; exact dlts_irr a
  | .non => rfl
  | .bl _ => rfl
  | .scr _ => rfl
  | .ob _ => rfl
  | .fn _ => rfl
theorem dlts_irr : ∀ xs : List D, dlts xs xs = false
  | [] => rfl
  | x :: xs => by simp only [dlts, if_true]; exact dlts_irr xs
end
mutual
theorem dlt_tot : ∀ (x y : D), x.dat = true → y.dat = true → alk x y = true → x ≠ y → dlt x y = !dlt y x
  | .int a, .int b, _, _, _, n => by
    have : a ≠ b := fun e => n (by rw [e])
    simp only [dlt]
    by_cases h : a < b
    · rw [decide_eq_true h, decide_eq_false (by omega)]; rfl
    · rw [decide_eq_false h, decide_eq_true (by omega)]; rfl
  | .str a, .str b, _, _, _, n => by
    have ne : a ≠ b := fun e => n (by rw [e])
    simp only [dlt]
    by_cases h : a < b
    · rw [decide_eq_true h, decide_eq_false (List.lt_asymm h)]; rfl
    · rw [decide_eq_false h, decide_eq_true (by
        rcases Std.lt_trichotomy a b with h1 | h1 | h1
        · exact absurd h1 h
        · exact absurd h1 ne
        · exact h1)]; rfl
  | .tup a, .tup b, hx, hy, h, n => by
    have hx : D.dats a = true := by simpa only [D.dat] using hx
    have hy : D.dats b = true := by simpa only [D.dat] using hy
    simp only [dlt]
    exact dlts_tot a b hx hy (by simpa only [alk] using h) fun e => n (by rw [e])
  | .int _, .str _, _, _, h, _ => by simp [alk] at h
  | .int _, .tup _, _, _, h, _ => by simp [alk] at h
  | .str _, .int _, _, _, h, _ => by simp [alk] at h
  | .str _, .tup _, _, _, h, _ => by simp [alk] at h
  | .tup _, .int _, _, _, h, _ => by simp [alk] at h
  | .tup _, .str _, _, _, h, _ => by simp [alk] at h
  | .non, _, h, _, _, _ => by simp [D.dat] at h
  | .bl _, _, h, _, _, _ => by simp [D.dat] at h
  | .scr _, _, h, _, _, _ => by simp [D.dat] at h
  | .ob _, _, h, _, _, _ => by simp [D.dat] at h
  | .fn _, _, h, _, _, _ => by simp [D.dat] at h
  | _, .non, _, h, _, _ => by simp [D.dat] at h
  | _, .bl _, _, h, _, _ => by simp [D.dat] at h
  | _, .scr _, _, h, _, _ => by simp [D.dat] at h
  | _, .ob _, _, h, _, _ => by simp [D.dat] at h
  | _, .fn _, _, h, _, _ => by simp [D.dat] at h
theorem dlts_tot : ∀ (xs ys : List D), D.dats xs = true → D.dats ys = true → alks xs ys = true → xs ≠ ys → dlts xs ys = !dlts ys xs
  | [], [], _, _, _, n => absurd rfl n
  | [], _ :: _, _, _, _, _ => rfl
  | _ :: _, [], _, _, _, _ => rfl
  | x :: xs, y :: ys, hx, hy, h, n => by
    rw [dats_cons, Bool.and_eq_true] at hx hy
    simp only [alks, Bool.and_eq_true] at h
    simp only [dlts]
    by_cases e : x = y
    · subst e
      rw [if_pos rfl, if_pos rfl]
      exact dlts_tot xs ys hx.2 hy.2 h.2 fun z => n (by rw [z])
    · rw [if_neg e, if_neg (Ne.symm e)]
      exact dlt_tot x y hx.1 hy.1 h.1 e
end
mutual
theorem alk_tr : ∀ (x y z : D), dlt x y = true → dlt y z = true → dlt x z = true
  | .int a, .int b, .int c, h, k => by simp only [dlt, decide_eq_true_eq] at *; omega
  | .str a, .str b, .str c, h, k => by simp only [dlt, decide_eq_true_eq] at *; exact List.lt_trans h k
  | .tup a, .tup b, .tup c, h, k => by simp only [dlt] at *; exact alks_tr a b c h k
  | .int _, .int _, .str _, _, k => by simp [dlt] at k
  | .int _, .int _, .tup _, _, k => by simp [dlt] at k
  | .int _, .int _, .non, _, k => by simp [dlt] at k
  | .int _, .int _, .bl _, _, k => by simp [dlt] at k
  | .int _, .int _, .scr _, _, k => by simp [dlt] at k
  | .int _, .int _, .ob _, _, k => by simp [dlt] at k
  | .int _, .int _, .fn _, _, k => by simp [dlt] at k
  | .str _, .str _, .int _, _, k => by simp [dlt] at k
  | .str _, .str _, .tup _, _, k => by simp [dlt] at k
  | .str _, .str _, .non, _, k => by simp [dlt] at k
  | .str _, .str _, .bl _, _, k => by simp [dlt] at k
  | .str _, .str _, .scr _, _, k => by simp [dlt] at k
  | .str _, .str _, .ob _, _, k => by simp [dlt] at k
  | .str _, .str _, .fn _, _, k => by simp [dlt] at k
  | .tup _, .tup _, .int _, _, k => by simp [dlt] at k
  | .tup _, .tup _, .str _, _, k => by simp [dlt] at k
  | .tup _, .tup _, .non, _, k => by simp [dlt] at k
  | .tup _, .tup _, .bl _, _, k => by simp [dlt] at k
  | .tup _, .tup _, .scr _, _, k => by simp [dlt] at k
  | .tup _, .tup _, .ob _, _, k => by simp [dlt] at k
  | .tup _, .tup _, .fn _, _, k => by simp [dlt] at k
  | .int _, .str _, _, h, _ => by simp [dlt] at h
  | .int _, .tup _, _, h, _ => by simp [dlt] at h
  | .int _, .non, _, h, _ => by simp [dlt] at h
  | .int _, .bl _, _, h, _ => by simp [dlt] at h
  | .int _, .scr _, _, h, _ => by simp [dlt] at h
  | .int _, .ob _, _, h, _ => by simp [dlt] at h
  | .int _, .fn _, _, h, _ => by simp [dlt] at h
  | .str _, .int _, _, h, _ => by simp [dlt] at h
  | .str _, .tup _, _, h, _ => by simp [dlt] at h
  | .str _, .non, _, h, _ => by simp [dlt] at h
  | .str _, .bl _, _, h, _ => by simp [dlt] at h
  | .str _, .scr _, _, h, _ => by simp [dlt] at h
  | .str _, .ob _, _, h, _ => by simp [dlt] at h
  | .str _, .fn _, _, h, _ => by simp [dlt] at h
  | .tup _, .int _, _, h, _ => by simp [dlt] at h
  | .tup _, .str _, _, h, _ => by simp [dlt] at h
  | .tup _, .non, _, h, _ => by simp [dlt] at h
  | .tup _, .bl _, _, h, _ => by simp [dlt] at h
  | .tup _, .scr _, _, h, _ => by simp [dlt] at h
  | .tup _, .ob _, _, h, _ => by simp [dlt] at h
  | .tup _, .fn _, _, h, _ => by simp [dlt] at h
  | .non, _, _, h, _ => by simp [dlt] at h
  | .bl _, _, _, h, _ => by simp [dlt] at h
  | .scr _, _, _, h, _ => by simp [dlt] at h
  | .ob _, _, _, h, _ => by simp [dlt] at h
  | .fn _, _, _, h, _ => by simp [dlt] at h
theorem alks_tr : ∀ (xs ys zs : List D), dlts xs ys = true → dlts ys zs = true → dlts xs zs = true
  | [], [], _, h, _ => by simp [dlts] at h
  | [], _ :: _, [], _, k => by simp [dlts] at k
  | [], _ :: _, _ :: _, _, _ => by simp [dlts]
  | _ :: _, [], _, h, _ => by simp [dlts] at h
  | _ :: _, _ :: _, [], _, k => by simp [dlts] at k
  | x :: xs, y :: ys, z :: zs, h, k => by
    simp only [dlts] at h k ⊢
    by_cases e1 : x = y
    · subst e1
      rw [if_pos rfl] at h
      by_cases e2 : x = z
      · rw [if_pos e2] at k ⊢
        exact alks_tr xs ys zs h k
      · rw [if_neg e2] at k ⊢
        exact k
    · rw [if_neg e1] at h
      by_cases e2 : y = z
      · subst e2
        rw [if_neg e1]
        exact h
      · rw [if_neg e2] at k
        have t := alk_tr x y z h k
        have n : x ≠ z := fun e => by
          subst e
          rw [dlt_irr] at t
          cases t
        rw [if_neg n]
        exact t
end
/-- data that can be compared with one another -/
def Cmp (xs : List D) : Prop := (∀ x ∈ xs, x.dat = true) ∧ ∀ x ∈ xs, ∀ y ∈ xs, alk x y = true
theorem Cmp.le {xs : List D} (h : Cmp xs) {x y : D} (hx : x ∈ xs) (hy : y ∈ xs) : pyLe x y = !dlt y x := pyLe_dlt (h.1 x hx) (h.1 y hy) (h.2 y hy x hx)
theorem Cmp.tri {xs : List D} (h : Cmp xs) {x y : D} (hx : x ∈ xs) (hy : y ∈ xs) : dlt x y = true ∨ x = y ∨ dlt y x = true := by
  by_cases e : x = y
  · exact .inr (.inl e)
  · have := dlt_tot x y (h.1 x hx) (h.1 y hy) (h.2 x hx y hy) e
    cases q : dlt y x with
    | true => exact .inr (.inr rfl)
    | false => rw [q] at this; exact .inl this
theorem Cmp.le_iff {xs : List D} (h : Cmp xs) {x y : D} (hx : x ∈ xs) (hy : y ∈ xs) : pyLe x y = true ↔ dlt x y = true ∨ x = y := by
  rw [h.le hx hy, Bool.not_eq_true']
  constructor
  · intro q
    rcases h.tri hx hy with t | t | t
    · exact .inl t
    · exact .inr t
    · rw [q] at t; cases t
  · rintro (t | rfl)
    · cases q : dlt y x with
      | false => rfl
      | true =>
        have := alk_tr x y x t q
        rw [dlt_irr] at this
        cases this
    · exact dlt_irr _
theorem Cmp.trans {xs : List D} (h : Cmp xs) {x y z : D} (hx : x ∈ xs) (hy : y ∈ xs) (hz : z ∈ xs) (a : pyLe x y = true) (b : pyLe y z = true) : pyLe x z = true := by
  rw [h.le_iff hx hy] at a
  rw [h.le_iff hy hz] at b
  rw [h.le_iff hx hz]
  rcases a with a | rfl
  · rcases b with b | rfl
    · exact .inl (alk_tr x y z a b)
    · exact .inl a
  · exact b
theorem Cmp.total {xs : List D} (h : Cmp xs) {x y : D} (hx : x ∈ xs) (hy : y ∈ xs) : pyLe x y = true ∨ pyLe y x = true := by
  rw [h.le_iff hx hy, h.le_iff hy hx]
  rcases h.tri hx hy with t | t | t
  · exact .inl (.inl t)
  · exact .inl (.inr t)
  · exact .inr (.inl t)
theorem Cmp.perm {xs ys : List D} (h : Cmp xs) (p : xs.Perm ys) : Cmp ys := ⟨fun x hx => h.1 x (p.mem_iff.mpr hx), fun x hx y hy => h.2 x (p.mem_iff.mpr hx) y (p.mem_iff.mpr hy)⟩
/-- sorted: by attaching the list, the order is total on it -/
theorem Cmp.sorted {xs : List D} (h : Cmp xs) : (xs.mergeSort pyLe).Pairwise fun a b => pyLe a b = true := by
  have e : xs = xs.attach.map (·.1) := by simp
  have m := List.map_mergeSort (r := fun a b : { x // x ∈ xs } => pyLe a.1 b.1) (s := pyLe) (f := fun a : { x // x ∈ xs } => a.1) (l := xs.attach) (fun a _ b _ => rfl)
  rw [← e] at m
  rw [← m, List.pairwise_map]
  exact List.pairwise_mergeSort (le := fun a b : { x // x ∈ xs } => pyLe a.1 b.1) (fun a b c k1 k2 => h.trans a.2 b.2 c.2 k1 k2) (fun a b => by
    have := h.total a.2 b.2
    simpa using this) xs.attach
theorem Cmp.uniq {xs ys : List D} (h : Cmp xs) (p : xs.Perm ys) (s1 : xs.Pairwise fun a b => pyLe a b = true) (s2 : ys.Pairwise fun a b => pyLe a b = true) : xs = ys :=
  p.eq_of_pairwise (fun a b ha hb k1 k2 => by
    have hb := p.mem_iff.mpr hb
    rw [h.le_iff ha hb] at k1
    rw [h.le_iff hb ha] at k2
    rcases k1 with k1 | k1
    · rcases k2 with k2 | k2
      · have := alk_tr a b a k1 k2
        rw [dlt_irr] at this
        cases this
      · exact k2.symm
    · exact k1) s1 s2
theorem Cmp.sort_eq {xs ys : List D} (h : Cmp xs) (p : xs.Perm ys) : xs.mergeSort pyLe = ys.mergeSort pyLe :=
  (h.perm (List.mergeSort_perm xs pyLe).symm).uniq ((List.mergeSort_perm xs pyLe).trans (p.trans (List.mergeSort_perm ys pyLe).symm)) h.sorted (h.perm p).sorted
/-! ### the checks -/
theorem Cmp.alike {xs : List D} (h : Cmp xs) : pyAlike (xs.map pyOf) = true := by
  unfold pyAlike
  rw [List.all_eq_true]
  intro a ha
  rw [List.all_eq_true]
  intro b hb
  obtain ⟨x, hx, rfl⟩ := List.mem_map.mp ha
  obtain ⟨y, hy, rfl⟩ := List.mem_map.mp hb
  exact (dlt_py x y (h.1 x hx) (h.1 y hy) (h.2 x hx y hy)).2
theorem deps_le {n : Nat} : ∀ {xs : List D}, D.deps xs ≤ n ↔ ∀ x ∈ xs, x.dep ≤ n
  | [] => by simp [D.deps]
  | x :: xs => by
    simp only [D.deps, List.mem_cons, forall_eq_or_imp, ← deps_le (xs := xs)]
    omega
theorem depth_dats {xs : List D} (h : D.dats xs = true) : PyData.depthAll (xs.map pyOf) = D.deps xs := by
  obtain ⟨ps, e1, _, e3⟩ := dats_py xs h
  rw [pys_dat h] at e1
  cases e1
  exact e3
/-- nonempty tuples -/
def tup1 : D → Bool
  | .tup (_ :: _) => true
  | _ => false
theorem tup1_ok {xs : List D} (h : Cmp xs) (ht : ∀ x ∈ xs, tup1 x = true) : pySortable (xs.map pyOf) = true := by
  unfold pySortable
  rw [Bool.or_eq_true]
  refine .inl ?_
  rw [List.all_eq_true]
  intro a ha
  obtain ⟨x, hx, rfl⟩ := List.mem_map.mp ha
  have h1 := ht x hx
  have h2 := h.1 x hx
  unfold tup1 at h1
  split at h1
  · rename_i y ys
    rw [pyOf_tup (by simpa only [D.dat] using h2)]
    rfl
  · cases h1
theorem sort_dat {xs : List D} (h : Cmp xs) (ht : xs.length < 2 ∨ ∀ x ∈ xs, tup1 x = true) (hd : ∀ x ∈ xs, x.dep ≤ 16) (hl : xs.length ≤ 1000000) : sortPy xs = some (xs.mergeSort pyLe) := by
  have hx : D.dats xs = true := dats_all.mpr h.1
  unfold sortPy
  rw [pys_dat hx]
  dsimp only
  have d : PyData.depthAll (xs.map pyOf) ≤ 16 := by rw [depth_dats hx]; exact deps_le.mpr hd
  rw [if_pos]
  rw [h.alike, decide_eq_true d, decide_eq_true hl, Bool.and_true, Bool.and_true, Bool.true_and, Bool.or_eq_true, List.length_map, decide_eq_true_eq]
  rcases ht with ht | ht
  · exact .inl ht
  · exact .inr (tup1_ok h ht)
theorem sortD_tup {xs : List D} (h : Cmp xs) (ht : ∀ x ∈ xs, tup1 x = true) (hd : ∀ x ∈ xs, x.dep ≤ 16) (hl : xs.length ≤ 1000000) : sortD xs = some (xs.mergeSort pyLe) := by
  unfold sortD
  cases q : allInt xs with
  | none => exact sort_dat h (.inr ht) hd hl
  | some ns =>
    cases xs with
    | nil => cases q; simp [sortI]
    | cons x xs =>
      have h1 := ht x List.mem_cons_self
      cases x with
      | int i => cases h1
      | _ => simp [allInt] at q
/-! ### min, max -/
theorem shaped_dat {x : D} (h : x.dat = true) (hd : x.dep ≤ 16) : SeqAt.shaped (pyOf x) = true := by
  obtain ⟨p, h1, h2, h3⟩ := dat_py x h
  rw [pyOf_dat h] at h1
  cases h1
  unfold SeqAt.shaped
  rw [h2, h3]
  simp only [Bool.true_and, decide_eq_true_eq]
  omega
theorem noN_dat {x : D} (h : x.dat = true) : pyNoN (pyOf x) = true := by
  cases x with
  | int i => rfl
  | str t => rfl
  | tup xs => rw [pyOf_tup (by simpa only [D.dat] using h)]; rfl
  | _ => simp [D.dat] at h
theorem minOk_dat {xs : List D} (h : Cmp xs) (hd : ∀ x ∈ xs, x.dep ≤ 16) : pyMinOk (xs.map pyOf) = true := by
  have hx : D.dats xs = true := dats_all.mpr h.1
  unfold pyMinOk
  have d : PyData.depthAll (xs.map pyOf) ≤ 16 := by rw [depth_dats hx]; exact deps_le.mpr hd
  rw [h.alike, decide_eq_true d, Bool.and_true, Bool.true_and, Bool.and_eq_true, List.all_eq_true, List.all_eq_true]
  refine ⟨fun a ha => ?_, fun a ha => ?_⟩
  · obtain ⟨x, hx, rfl⟩ := List.mem_map.mp ha
    exact noN_dat (h.1 x hx)
  · obtain ⟨x, hx, rfl⟩ := List.mem_map.mp ha
    exact shaped_dat (h.1 x hx) (hd x hx)
theorem min2_dat {x y : D} (h : Cmp [x, y]) (hd : x.dep ≤ 16 ∧ y.dep ≤ 16) : minPy2 x y = some (if dlt y x = true then y else x) := by
  unfold minPy2
  have := pys_dat (dats_all.mpr h.1)
  rw [this]
  dsimp only
  rw [if_pos (minOk_dat h (by simpa using hd)), (dlt_py y x (h.1 y (by simp)) (h.1 x (by simp)) (h.2 y (by simp) x (by simp))).1]
theorem max2_dat {x y : D} (h : Cmp [x, y]) (hd : x.dep ≤ 16 ∧ y.dep ≤ 16) : maxPy2 x y = some (if dlt x y = true then y else x) := by
  unfold maxPy2
  have := pys_dat (dats_all.mpr h.1)
  rw [this]
  dsimp only
  rw [if_pos (minOk_dat h (by simpa using hd)), (dlt_py x y (h.1 x (by simp)) (h.1 y (by simp)) (h.2 x (by simp) y (by simp))).1]
/-- the least of some data -/
theorem minL_ok : ∀ (r : List D) (x : D), Cmp (x :: r) → minL x r ∈ x :: r ∧ ∀ y ∈ x :: r, dlt y (minL x r) = false
  | [], x, h => ⟨by simp [minL], fun y hy => by
    have : y = x := by simpa using hy
    rw [this]
    exact dlt_irr x⟩
  | z :: r, x, h => by
    have e : minL x (z :: r) = minL (if PySem.W.dataLt (pyOf z) (pyOf x) = true then z else x) r := rfl
    have hx : x ∈ x :: z :: r := by simp
    have hz : z ∈ x :: z :: r := by simp
    rw [(dlt_py z x (h.1 z hz) (h.1 x hx) (h.2 z hz x hx)).1] at e
    by_cases c : dlt z x = true
    · rw [if_pos c] at e
      have h' : Cmp (z :: r) := ⟨fun y hy => h.1 y (List.mem_cons_of_mem _ hy), fun y hy w hw => h.2 y (List.mem_cons_of_mem _ hy) w (List.mem_cons_of_mem _ hw)⟩
      obtain ⟨k1, k2⟩ := minL_ok r z h'
      rw [e]
      refine ⟨List.mem_cons_of_mem _ k1, fun y hy => ?_⟩
      rcases List.mem_cons.mp hy with rfl | hy
      · cases q : dlt y (minL z r) with
        | false => rfl
        | true =>
          have := alk_tr z y _ c q
          rw [k2 z List.mem_cons_self] at this
          cases this
      · exact k2 y hy
    · rw [if_neg c] at e
      have h' : Cmp (x :: r) := ⟨fun y hy => h.1 y (by rcases List.mem_cons.mp hy with rfl | hy <;> simp [*]), fun y hy w hw => h.2 y (by rcases List.mem_cons.mp hy with rfl | hy <;> simp [*]) w (by rcases List.mem_cons.mp hw with rfl | hw <;> simp [*])⟩
      obtain ⟨k1, k2⟩ := minL_ok r x h'
      rw [e]
      refine ⟨by rcases List.mem_cons.mp k1 with q | q <;> simp [q], fun y hy => ?_⟩
      rcases List.mem_cons.mp hy with rfl | hy
      · exact k2 _ List.mem_cons_self
      · rcases List.mem_cons.mp hy with rfl | hy
        · cases q : dlt y (minL x r) with
          | false => rfl
          | true =>
            rcases h.tri hx hz with t | t | t
            · have := alk_tr x y _ t q
              rw [k2 x List.mem_cons_self] at this
              cases this
            · rw [← t, k2 x List.mem_cons_self] at q
              cases q
            · exact absurd t c
        · exact k2 y (List.mem_cons_of_mem _ hy)
theorem min1_dat {x : D} {r : List D} (h : Cmp (x :: r)) (hd : ∀ y ∈ x :: r, y.dep ≤ 16) : minPy (x :: r) = some (minL x r) := by
  unfold minPy
  dsimp only
  rw [pys_dat (dats_all.mpr h.1)]
  dsimp only
  rw [if_pos (minOk_dat h hd)]
end PL

set_option Elab.async false
set_option linter.all false
set_option maxRecDepth 100000
set_option maxHeartbeats 1000000
/-! PLS3: still more steps without binders: instances, dicts, keys, chains. -/
namespace PL
open PySem
def jfldO (f : Str) (S : Sto) : Option (Nat × List (List Nat × D)) → R D
  | some (_, fs) => ofOpt (lookFs f.cps.toList fs) S
  | none => .stuck
def jfld (f : Str) : R D → R D
  | .ok (.ob i) S => jfldO f S (insAt S i)
  | .ok _ _ => .stuck
  | r => r
def jcallO (T : Tab) (f i : Nat) : R (List D) → R D
  | .ok ds S => T.cf f (.ob i :: ds) S
  | .exc c fs S => .exc c fs S
  | .stuck => .stuck
def jmeth3 (T : Tab) (i : Nat) (es : Es) (ρ : Env) (S : Sto) : Option D → Option Nat → R D
  | none, some f => jcallO T f i (evEs T es ρ S)
  | _, _ => .stuck
def jmeth2 (T : Tab) (i : Nat) (m : Str) (es : Es) (ρ : Env) (S : Sto) : Option (Nat × List (List Nat × D)) → R D
  | some (c, fs) => jmeth3 T i es ρ S (lookFs m.cps.toList fs) (T.meth c m)
  | none => .stuck
def jmeth1 (T : Tab) (m : Str) (es : Es) (ρ : Env) : R D → R D
  | .ok (.ob i) S => jmeth2 T i m es ρ S (insAt S i)
  | .ok _ _ => .stuck
  | r => r
def jnew3 (n : Nat) : R D → R D
  | .ok .non S => .ok (.ob n) S
  | .ok _ _ => .stuck
  | r => r
def jnew2 (T : Tab) (c : Nat) (ds : List D) (S : Sto) : Option Nat → R D
  | some f => jnew3 S.length (T.cn f (.ob S.length :: ds) (S ++ [.ins c []]))
  | none => .stuck
def jnew1 (T : Tab) (c : Nat) : R (List D) → R D
  | .ok ds S => jnew2 T c ds S (T.init c)
  | .exc c fs S => .exc c fs S
  | .stuck => .stuck
def jdnew3 (t : Bool) (x : D) : R D → R D
  | .ok y S => if okKey t x = true then .ok (.ob S.length) (S ++ [mkDct t [(x, y)]]) else .stuck
  | r => r
def jdnew2 (T : Tab) (t : Bool) (v : E) (ρ : Env) : R D → R D
  | .ok x S => jdnew3 t x (evE T v ρ S)
  | r => r
def jchn4 (o2 : CmpOp) (y : D) : R D → R D
  | .ok z S => jbR (cmpD o2 y z) S
  | r => r
def jchn3 (T : Tab) (o2 : CmpOp) (y : D) (c : E) (ρ : Env) (S : Sto) : Option Bool → R D
  | some true => jchn4 o2 y (evE T c ρ S)
  | some false => .ok (.bl false) S
  | none => .stuck
def jchn2 (T : Tab) (o1 o2 : CmpOp) (x : D) (c : E) (ρ : Env) : R D → R D
  | .ok y S => jchn3 T o2 y c ρ S (cmpD o1 x y)
  | r => r
def jchn1 (T : Tab) (o1 o2 : CmpOp) (b c : E) (ρ : Env) : R D → R D
  | .ok x S => jchn2 T o1 o2 x c ρ (evE T b ρ S)
  | r => r
def jenmO (i : Nat) (S : Sto) : Option (List D) → R ItV
  | some xs => .ok { items := enumD 0 xs, watch := [(i, xs)] } S
  | none => .stuck
def jenm : R D → R ItV
  | .ok (.tup xs) S => .ok { items := enumD 0 xs } S
  | .ok (.ob i) S => jenmO i S (lstAt S i)
  | .ok _ _ => .stuck
  | .exc c fs S => .exc c fs S
  | .stuck => .stuck
def jsortE : R D → R (List D)
  | .ok x S => jlO S (sortOf S x)
  | .exc c fs S => .exc c fs S
  | .stuck => .stuck
def jsortKO (T : Tab) (t : Nat) (q : List Nat) (i : Nat) (k : E) (ρ : Env) (S : Sto) : Option (List D) → R (List D)
  | some xs => if S[t]? = some (.tab q) ∧ i < ρ.length then jlO S ((keysR (fun x => evE T k (ρ.set i (some x)) S) S xs).bind fun ks => sortByK ks xs) else .stuck
  | none => .stuck
def jsortK (T : Tab) (t : Nat) (q : List Nat) (i : Nat) (k : E) (ρ : Env) : R D → R (List D)
  | .ok (.ob j) S => jsortKO T t q i k ρ S (lstAt S j)
  | .ok _ _ => .stuck
  | .exc c fs S => .exc c fs S
  | .stuck => .stuck
def jcatEE3 (S : Sto) : Option (List D) → Option (List D) → R (List D)
  | some xs, some ys => if xs.length + ys.length ≤ 10000000 then .ok (xs ++ ys) S else .stuck
  | _, _ => .stuck
def jcatEE2 (x : D) : R D → R (List D)
  | .ok y S => (match x, y with
    | .ob i, .ob j => jcatEE3 S (lstAt S i) (lstAt S j)
    | _, _ => .stuck)
  | .exc c fs S => .exc c fs S
  | .stuck => .stuck
def jcatEE1 (T : Tab) (b : E) (ρ : Env) : R D → R (List D)
  | .ok x S => jcatEE2 x (evE T b ρ S)
  | .exc c fs S => .exc c fs S
  | .stuck => .stuck
def jrep2 (xs : List D) : R D → R (List D)
  | .ok (.int k) S => if small k = true ∧ xs.length * k.toNat ≤ 10000000 then .ok (List.replicate k.toNat xs).flatten S else .stuck
  | .ok _ _ => .stuck
  | .exc c fs S => .exc c fs S
  | .stuck => .stuck
def jrep1 (T : Tab) (n : E) (ρ : Env) : R (List D) → R (List D)
  | .ok xs S => jrep2 xs (evE T n ρ S)
  | .exc c fs S => .exc c fs S
  | .stuck => .stuck
def jfstO (f : Str) (ρ : Env) (v : D) (i : Nat) (S : Sto) : Option (Nat × List (List Nat × D)) → F
  | some (c, fs) => if fs.length < 100 then .nx ρ (S.set i (.ins c (putFs f.cps.toList v fs))) else .stuck
  | none => .stuck
def jfst2 (f : Str) (ρ : Env) (v : D) : R D → F
  | .ok (.ob i) S => jfstO f ρ v i S (insAt S i)
  | .ok _ _ => .stuck
  | .exc c fs S => .exc c fs ρ S
  | .stuck => .stuck
def jfst1 (T : Tab) (o : E) (f : Str) (ρ : Env) : R D → F
  | .ok v S => jfst2 f ρ v (evE T o ρ S)
  | .exc c fs S => .exc c fs ρ S
  | .stuck => .stuck
def jforD2 (T : Tab) (g : G) (its : Bool) (b : Ss) (ρ : Env) (S : Sto) (i : Nat) : Option O → F
  | some (.dT kvs) => unlockF i (.dT kvs) (forR (walkD its kvs) { items := walkD its kvs } (bodyR g (evSs T b)) ρ (S.set i .gone))
  | _ => .stuck
def jforD1 (T : Tab) (g : G) (its : Bool) (b : Ss) (ρ : Env) (S : Sto) : Option (Option D) → F
  | some (some (.ob i)) => jforD2 T g its b ρ S i S[i]?
  | _ => .stuck
def jinO (S : Sto) (i : Nat) (x : D) : Option (Bool × List (D × D)) → Option Bool
  | some (b, kvs) => if okKey b x then some (dlook kvs x).isSome else none
  | none => (match lstAt S i with
    | some ys => inD x ys
    | none => none)
def jinL (x : D) : Option (List D) → Option Bool
  | some ys => inD x ys
  | none => none
def jsetd (i : Nat) (k x : D) (S : Sto) : Option (Bool × List (D × D)) → R D
  | some (b, kvs) => if okKey b k = true ∧ kvs.length < 1000000 then (match dlook kvs k with
      | some v => .ok v S
      | none => .ok x (S.set i (mkDct b (dput kvs k x)))) else .stuck
  | none => .stuck
def jsetDO (j : Nat) (i v : D) (S : Sto) : Option (Bool × List (D × D)) → Option Sto
  | some (b, kvs) => if okKey b i = true ∧ kvs.length < 1000000 then some (S.set j (mkDct b (dput kvs i v))) else none
  | none => (match lstAt S j, i with
      | some xs, .int k => (ixN xs.length k).map fun n => S.set j (.lst (xs.set n v))
      | _, _ => none)
def jext (i : Nat) (S : Sto) : Option (List D) → Option (List D) → R D
  | some xs, some ys => if xs.length + ys.length ≤ 10000000 then .ok .non (S.set i (.lst (xs ++ ys))) else .stuck
  | _, _ => .stuck
def jminO : Option (List D) → Option D
  | some xs => minPy xs
  | none => none
section
variable {T : Tab} {ρ ρ1 : Env} {S S1 : Sto} {f : F} {x y z : D} {xs ys : List D} {c : Nat} {fs : List (List Nat × D)} {kvs : List (D × D)}
theorem n_fld {o : E} {f : Str} : evE T (.fld o f) ρ S = jfld f (evE T o ρ S) := by
  show (evE T o ρ S).bind _ = _
  cases evE T o ρ S with
  | ok x S => cases x with
    | ob i => show (match insAt S i with | some (_, fs) => ofOpt (lookFs f.cps.toList fs) S | none => .stuck) = jfldO f S (insAt S i); cases insAt S i <;> rfl
    | _ => rfl
  | _ => rfl
theorem n_fld1 {f : Str} {i : Nat} : jfld f (.ok (.ob i) S) = jfldO f S (insAt S i) := rfl
theorem n_fld2 {f : Str} : jfldO f S (some (c, fs)) = ofOpt (lookFs f.cps.toList fs) S := rfl
theorem n_meth {o : E} {m : Str} {es : Es} : evE T (.meth o m es) ρ S = jmeth1 T m es ρ (evE T o ρ S) := by
  show (evE T o ρ S).bind _ = _
  cases evE T o ρ S with
  | ok x S => cases x with
    | ob i =>
      show (match insAt S i with | some (c, fs) => (if (lookFs m.cps.toList fs).isSome then R.stuck else match T.meth c m with | some f => (evEs T es ρ S).bind fun ds S2 => T.cf f (.ob i :: ds) S2 | none => .stuck) | none => .stuck) = jmeth2 T i m es ρ S (insAt S i)
      cases insAt S i with
      | none => rfl
      | some p =>
        obtain ⟨c, fs⟩ := p
        show (if (lookFs m.cps.toList fs).isSome then R.stuck else _) = jmeth3 T i es ρ S (lookFs m.cps.toList fs) (T.meth c m)
        cases lookFs m.cps.toList fs with
        | some d => rfl
        | none =>
          cases T.meth c m with
          | none => rfl
          | some f =>
            show (evEs T es ρ S).bind _ = jcallO T f i (evEs T es ρ S)
            cases evEs T es ρ S <;> rfl
    | _ => rfl
  | _ => rfl
theorem n_meth1 {m : Str} {es : Es} {i : Nat} : jmeth1 T m es ρ (.ok (.ob i) S) = jmeth2 T i m es ρ S (insAt S i) := rfl
theorem n_meth2 {m : Str} {es : Es} {i : Nat} : jmeth2 T i m es ρ S (some (c, fs)) = jmeth3 T i es ρ S (lookFs m.cps.toList fs) (T.meth c m) := rfl
theorem n_meth3 {es : Es} {i f : Nat} : jmeth3 T i es ρ S none (some f) = jcallO T f i (evEs T es ρ S) := rfl
theorem n_meth4 {i f : Nat} : jcallO T f i (.ok xs S) = T.cf f (.ob i :: xs) S := rfl
theorem n_new {nm : Str} {es : Es} : evE T (.new nm c es) ρ S = jnew1 T c (evEs T es ρ S) := by
  show (evEs T es ρ S).bind _ = _
  cases evEs T es ρ S with
  | ok ds S1 =>
    show (match T.init c with | some f => (T.cn f (.ob S1.length :: ds) (S1 ++ [.ins c []])).bind fun r S2 => (match r with | .non => R.ok (.ob S1.length) S2 | _ => .stuck) | none => .stuck) = jnew2 T c ds S1 (T.init c)
    cases T.init c with
    | none => rfl
    | some f =>
      show (T.cn f (.ob S1.length :: ds) (S1 ++ [.ins c []])).bind _ = jnew3 S1.length (T.cn f (.ob S1.length :: ds) (S1 ++ [.ins c []]))
      cases T.cn f (.ob S1.length :: ds) (S1 ++ [.ins c []]) with
      | ok r S2 => cases r <;> rfl
      | _ => rfl
  | _ => rfl
theorem n_new1 : jnew1 T c (.ok xs S) = jnew2 T c xs S (T.init c) := rfl
theorem n_new2 {f : Nat} : jnew2 T c xs S (some f) = jnew3 S.length (T.cn f (.ob S.length :: xs) (S ++ [.ins c []])) := rfl
theorem n_new3 {n : Nat} : jnew3 n (.ok .non S) = .ok (.ob n) S := rfl
theorem n_dnew {t : Bool} : evE T (.dnew t) ρ S = .ok (.ob S.length) (S ++ [mkDct t []]) := rfl
theorem n_mkT : mkDct true kvs = .dT kvs := rfl
theorem n_mkK : mkDct false kvs = .dK kvs := rfl
theorem n_dnew1 {t : Bool} {k v : E} : evE T (.dnew1 t k v) ρ S = jdnew2 T t v ρ (evE T k ρ S) := by
  show (evE T k ρ S).bind _ = _
  cases evE T k ρ S with
  | ok x S =>
    show (evE T v ρ S).bind _ = jdnew3 t x (evE T v ρ S)
    cases evE T v ρ S <;> rfl
  | _ => rfl
theorem n_dnew2 {t : Bool} {v : E} : jdnew2 T t v ρ (.ok x S) = jdnew3 t x (evE T v ρ S) := rfl
theorem n_dnew3 {t : Bool} (h : okKey t x = true) : jdnew3 t x (.ok y S) = .ok (.ob S.length) (S ++ [mkDct t [(x, y)]]) := if_pos h
theorem n_chn {o1 o2 : CmpOp} {a b e : E} : evE T (.chn o1 o2 a b e) ρ S = jchn1 T o1 o2 b e ρ (evE T a ρ S) := by
  show (evE T a ρ S).bind _ = _
  cases evE T a ρ S with
  | ok x S =>
    show (evE T b ρ S).bind _ = jchn2 T o1 o2 x e ρ (evE T b ρ S)
    cases evE T b ρ S with
    | ok y S2 =>
      show (ofOpt (cmpD o1 x y) S2).bind _ = jchn3 T o2 y e ρ S2 (cmpD o1 x y)
      cases cmpD o1 x y with
      | none => rfl
      | some k => cases k with
        | false => rfl
        | true =>
          show (evE T e ρ S2).bind _ = jchn4 o2 y (evE T e ρ S2)
          cases evE T e ρ S2 with
          | ok z S3 => show (ofOpt (cmpD o2 y z) S3).bind _ = jbR (cmpD o2 y z) S3; cases cmpD o2 y z <;> rfl
          | _ => rfl
    | _ => rfl
  | _ => rfl
theorem n_chn1 {o1 o2 : CmpOp} {b e : E} : jchn1 T o1 o2 b e ρ (.ok x S) = jchn2 T o1 o2 x e ρ (evE T b ρ S) := rfl
theorem n_chn2 {o1 o2 : CmpOp} {e : E} : jchn2 T o1 o2 x e ρ (.ok y S) = jchn3 T o2 y e ρ S (cmpD o1 x y) := rfl
theorem n_chn3 {o2 : CmpOp} {e : E} : jchn3 T o2 y e ρ S (some true) = jchn4 o2 y (evE T e ρ S) := rfl
theorem n_chn3' {o2 : CmpOp} {e : E} : jchn3 T o2 y e ρ S (some false) = .ok (.bl false) S := rfl
theorem n_chn4 {o2 : CmpOp} : jchn4 o2 y (.ok z S) = jbR (cmpD o2 y z) S := rfl
theorem n_enm {e : E} : evIt T (.enm e) ρ S = jenm (evE T e ρ S) := by
  show (evE T e ρ S).bind _ = _
  cases evE T e ρ S with
  | ok x S => cases x with
    | ob i => show (match lstAt S i with | some xs => _ | none => _) = jenmO i S (lstAt S i); cases lstAt S i <;> rfl
    | _ => rfl
  | _ => rfl
theorem n_enm_t : jenm (.ok (.tup xs) S) = .ok { items := enumD 0 xs } S := rfl
theorem n_enm_o {i : Nat} : jenm (.ok (.ob i) S) = jenmO i S (lstAt S i) := rfl
theorem n_enm_l {i : Nat} : jenmO i S (some xs) = .ok { items := enumD 0 xs, watch := [(i, xs)] } S := rfl
theorem n_sortE {e : E} : evL T (.sortE e) ρ S = jsortE (evE T e ρ S) := by
  show (evE T e ρ S).bind _ = _
  cases evE T e ρ S with
  | ok x S => show ofOpt (sortOf S x) S = jlO S (sortOf S x); cases sortOf S x <;> rfl
  | _ => rfl
theorem n_sortE1 : jsortE (.ok x S) = jlO S (sortOf S x) := rfl
theorem n_sortOb {i : Nat} : sortOf S (.ob i) = (lstAt S i).bind sortD := rfl
theorem n_sortOt : sortOf S (.tup xs) = (allInt xs).map fun ns => (sortI ns).map .int := rfl
theorem n_sortK {t : Nat} {q : List Nat} {e k : E} {i : Nat} : evL T (.sortK t q e i k) ρ S = jsortK T t q i k ρ (evE T e ρ S) := by
  show (evE T e ρ S).bind _ = _
  cases evE T e ρ S with
  | ok x S => cases x with
    | ob j =>
      show (match lstAt S j with | some xs => _ | none => _) = jsortKO T t q i k ρ S (lstAt S j)
      cases lstAt S j with
      | none => rfl
      | some xs =>
        show (if S[t]? = some (.tab q) ∧ i < ρ.length then ofOpt _ S else R.stuck) = (if S[t]? = some (.tab q) ∧ i < ρ.length then jlO S _ else R.stuck)
        split
        · cases ((keysR (fun x => evE T k (ρ.set i (some x)) S) S xs).bind fun ks => sortByK ks xs) <;> rfl
        · rfl
    | _ => rfl
  | _ => rfl
theorem n_sortK1 {t : Nat} {q : List Nat} {k : E} {i j : Nat} : jsortK T t q i k ρ (.ok (.ob j) S) = jsortKO T t q i k ρ S (lstAt S j) := rfl
theorem n_sortK2 {t : Nat} {q : List Nat} {k : E} {i : Nat} (h1 : S[t]? = some (.tab q)) (h2 : i < ρ.length) : jsortKO T t q i k ρ S (some xs) = jlO S ((keysR (fun x => evE T k (ρ.set i (some x)) S) S xs).bind fun ks => sortByK ks xs) := if_pos ⟨h1, h2⟩
theorem n_catEE {a b : E} : evL T (.catEE a b) ρ S = jcatEE1 T b ρ (evE T a ρ S) := by
  show (evE T a ρ S).bind _ = _
  cases evE T a ρ S with
  | ok x S =>
    show (evE T b ρ S).bind _ = jcatEE2 x (evE T b ρ S)
    cases evE T b ρ S with
    | ok y S =>
      cases x <;> cases y <;> first
        | rfl
        | (rename_i i j; show (match lstAt S i, lstAt S j with | some xs, some ys => _ | _, _ => _) = jcatEE3 S (lstAt S i) (lstAt S j); cases lstAt S i <;> cases lstAt S j <;> rfl)
    | _ => rfl
  | _ => rfl
theorem n_catEE1 {b : E} : jcatEE1 T b ρ (.ok x S) = jcatEE2 x (evE T b ρ S) := rfl
theorem n_catEE2 {i j : Nat} : jcatEE2 (.ob i) (.ok (.ob j) S) = jcatEE3 S (lstAt S i) (lstAt S j) := rfl
theorem n_catEE3 (h : xs.length + ys.length ≤ 10000000) : jcatEE3 S (some xs) (some ys) = .ok (xs ++ ys) S := if_pos h
theorem n_rep {l : L} {n : E} : evL T (.rep l n) ρ S = jrep1 T n ρ (evL T l ρ S) := by
  show (evL T l ρ S).bind _ = _
  cases evL T l ρ S with
  | ok xs S =>
    show (evE T n ρ S).bind _ = jrep2 xs (evE T n ρ S)
    cases evE T n ρ S with
    | ok y S => cases y <;> rfl
    | _ => rfl
  | _ => rfl
theorem n_rep1 {n : E} : jrep1 T n ρ (.ok xs S) = jrep2 xs (evE T n ρ S) := rfl
theorem n_rep2 {k : Int} (h : small k = true) (h' : xs.length * k.toNat ≤ 10000000) : jrep2 xs (.ok (.int k) S) = .ok (List.replicate k.toNat xs).flatten S := if_pos ⟨h, h'⟩
theorem n_fst {o e : E} {f : Str} : evS T (.fst o f e) ρ S = jfst1 T o f ρ (evE T e ρ S) := by
  show (evE T e ρ S).toF ρ _ = _
  cases evE T e ρ S with
  | ok v S =>
    show (evE T o ρ S).toF ρ _ = jfst2 f ρ v (evE T o ρ S)
    cases evE T o ρ S with
    | ok x S => cases x with
      | ob i => show (match insAt S i with | some (c, fs) => _ | none => _) = jfstO f ρ v i S (insAt S i); cases insAt S i <;> rfl
      | _ => rfl
    | _ => rfl
  | _ => rfl
theorem n_fst1 {o : E} {f : Str} : jfst1 T o f ρ (.ok x S) = jfst2 f ρ x (evE T o ρ S) := rfl
theorem n_fst2 {f : Str} {i : Nat} : jfst2 f ρ x (.ok (.ob i) S) = jfstO f ρ x i S (insAt S i) := rfl
theorem n_fst3 {f : Str} {i : Nat} (h : fs.length < 100) : jfstO f ρ x i S (some (c, fs)) = .nx ρ (S.set i (.ins c (putFs f.cps.toList x fs))) := if_pos h
theorem n_forD {g : G} {its : Bool} {j : Nat} {b : Ss} : evS T (.forD g its j b) ρ S = jforD1 T g its b ρ S ρ[j]? := by
  show (match ρ[j]? with | some (some (.ob i)) => _ | _ => _) = _
  cases ρ[j]? with
  | none => rfl
  | some q => cases q with
    | none => rfl
    | some d => cases d with
      | ob i =>
        show (match S[i]? with | some (.dT kvs) => _ | _ => _) = jforD2 T g its b ρ S i S[i]?
        cases S[i]? with
        | none => rfl
        | some o => cases o <;> rfl
      | _ => rfl
theorem n_forD1 {g : G} {its : Bool} {b : Ss} {i : Nat} : jforD1 T g its b ρ S (some (some (.ob i))) = jforD2 T g its b ρ S i S[i]? := rfl
theorem n_forD2 {g : G} {its : Bool} {b : Ss} {i : Nat} : jforD2 T g its b ρ S i (some (.dT kvs)) = unlockF i (.dT kvs) (forR (walkD its kvs) { items := walkD its kvs } (bodyR g (evSs T b)) ρ (S.set i .gone)) := rfl
theorem n_in_t : inSt S x (.tup ys) = inD x ys := rfl
theorem n_in_o {i : Nat} : inSt S x (.ob i) = jinO S i x (dctAt S i) := by
  unfold inSt
  dsimp only
  cases dctAt S i with
  | none => rfl
  | some p => rfl
theorem n_in_l {i : Nat} : jinO S i x none = jinL x (lstAt S i) := by
  show (match lstAt S i with | some ys => inD x ys | none => none) = _
  cases lstAt S i <;> rfl
theorem n_in_l1 : jinL x (some ys) = inD x ys := rfl
theorem n_in_d {i : Nat} {b : Bool} (h : okKey b x = true) : jinO S i x (some (b, kvs)) = some (dlook kvs x).isSome := if_pos h
theorem n_idx_d {j : Nat} {b : Bool} (h : okKey b y = true) : jidxO S j y (some (b, kvs)) = dlook kvs y := if_pos h
theorem n_recvS {i : Nat} : recvOk .setdefault (.ob i) S = (dctAt S i).isSome := rfl
theorem n_recvG {i : Nat} : recvOk .get2 (.ob i) S = (dctAt S i).isSome := rfl
theorem n_setd {i : Nat} : bmD .setdefault (.ob i) [x, y] S = jsetd i x y S (dctAt S i) := by
  show setdefaultM (.ob i) [x, y] S = _
  unfold setdefaultM
  dsimp only
  cases dctAt S i <;> rfl
theorem n_setd_t {i : Nat} {b : Bool} {v : D} (h : okKey b x = true) (hl : kvs.length < 1000000) (hv : dlook kvs x = some v) : jsetd i x y S (some (b, kvs)) = .ok v S := by
  show (if okKey b x = true ∧ kvs.length < 1000000 then _ else _) = _
  rw [if_pos ⟨h, hl⟩, hv]
theorem n_setd_f {i : Nat} {b : Bool} (h : okKey b x = true) (hl : kvs.length < 1000000) (hv : dlook kvs x = none) : jsetd i x y S (some (b, kvs)) = .ok y (S.set i (mkDct b (dput kvs x y))) := by
  show (if okKey b x = true ∧ kvs.length < 1000000 then _ else _) = _
  rw [if_pos ⟨h, hl⟩, hv]
theorem n_setD {j : Nat} : setD (.ob j) x y S = jsetDO j x y S (dctAt S j) := by
  unfold setD
  dsimp only
  cases dctAt S j <;> rfl
theorem n_setD_d {j : Nat} {b : Bool} (h : okKey b x = true) (hl : kvs.length < 1000000) : jsetDO j x y S (some (b, kvs)) = some (S.set j (mkDct b (dput kvs x y))) := if_pos ⟨h, hl⟩
theorem n_ext {i j : Nat} : bmD .extend (.ob i) [.ob j] S = jext i S (lstAt S i) (lstAt S j) := by
  show extendM (.ob i) [.ob j] S = _
  unfold extendM
  dsimp only
  cases lstAt S i <;> cases lstAt S j <;> rfl
theorem n_ext1 {i : Nat} (h : xs.length + ys.length ≤ 10000000) : jext i S (some xs) (some ys) = .ok .non (S.set i (.lst (xs ++ ys))) := if_pos h
theorem n_min1 {i : Nat} : biD .min1 [.ob i] S = jminO (lstAt S i) := by
  show min1D [.ob i] S = _
  unfold min1D
  dsimp only
  cases lstAt S i <;> rfl
theorem n_min1' : jminO (some xs) = minPy xs := rfl
theorem n_catT (h : xs.length + ys.length ≤ sizeLine) : binD .Add (.tup xs) (.tup ys) = some (.tup (xs ++ ys)) := if_pos h
theorem n_min2 {a b : Int} : biD .min2 [.int a, .int b] S = some (.int (if b < a then b else a)) := rfl
theorem n_max2 {a b : Int} : biD .max2 [.int a, .int b] S = some (.int (if b > a then b else a)) := rfl
theorem n_min2t : biD .min2 [.tup xs, .tup ys] S = minPy2 (.tup xs) (.tup ys) := rfl
theorem n_max2t : biD .max2 [.tup xs, .tup ys] S = maxPy2 (.tup xs) (.tup ys) := rfl
end
/-- all the steps -/
def ez := And.intro ew <| And.intro @n_fld <| And.intro @n_fld1 <| And.intro @n_fld2 <| And.intro @n_meth <| And.intro @n_meth1 <| And.intro @n_meth2 <| And.intro @n_meth3 <| And.intro @n_meth4 <| And.intro @n_new <| And.intro @n_new1 <| And.intro @n_new2 <| And.intro @n_new3 <| And.intro @n_dnew <| And.intro @n_mkT <| And.intro @n_mkK <| And.intro @n_dnew1 <| And.intro @n_dnew2 <| And.intro @n_dnew3 <| And.intro @n_chn <| And.intro @n_chn1 <| And.intro @n_chn2 <| And.intro @n_chn3 <| And.intro @n_chn3' <| And.intro @n_chn4 <| And.intro @n_enm <| And.intro @n_enm_t <| And.intro @n_enm_o <| And.intro @n_enm_l <| And.intro @n_sortE <| And.intro @n_sortE1 <| And.intro @n_sortOb <| And.intro @n_sortOt <| And.intro @n_sortK <| And.intro @n_sortK1 <| And.intro @n_sortK2 <| And.intro @n_catEE <| And.intro @n_catEE1 <| And.intro @n_catEE2 <| And.intro @n_catEE3 <| And.intro @n_rep <| And.intro @n_rep1 <| And.intro @n_rep2 <| And.intro @n_fst <| And.intro @n_fst1 <| And.intro @n_fst2 <| And.intro @n_fst3 <| And.intro @n_forD <| And.intro @n_forD1 <| And.intro @n_forD2 <| And.intro @n_in_t <| And.intro @n_in_o <| And.intro @n_in_l <| And.intro @n_in_l1 <| And.intro @n_in_d <| And.intro @n_idx_d <| And.intro @n_recvS <| And.intro @n_recvG <| And.intro @n_setd <| And.intro @n_setd_t <| And.intro @n_setd_f <| And.intro @n_setD <| And.intro @n_setD_d <| And.intro @n_ext <| And.intro @n_ext1 <| And.intro @n_min1 <| And.intro @n_min1' <| And.intro @n_catT <| And.intro @n_min2 <| And.intro @n_max2 <| And.intro @n_min2t <| @n_max2t
end PL

set_option Elab.async false
set_option linter.all false
set_option maxRecDepth 100000
set_option maxHeartbeats 1000000
/-! PLW: membership, calls, draws, in every law. -/
namespace PL
open PySem
theorem inD_dat {x : D} {ys : List D} (hx : x.dat = true) (hy : D.dats ys = true) (dx : x.dep ≤ 60) (dy : D.deps ys ≤ 60) : inD x ys = some (decide (x ∈ ys)) := by
  obtain ⟨p, h1, h2, h3⟩ := dat_py x hx
  obtain ⟨qs, k1, k2, k3⟩ := dats_py ys hy
  unfold inD
  rw [h1, k1]
  dsimp only
  have s1 : SeqAt.shaped p = true := by unfold SeqAt.shaped; rw [h2, h3]; simp; omega
  have s2 : SeqAt.shaped (.list qs) = true := by
    unfold SeqAt.shaped
    simp only [PyData.canLay0, PyData.depth, k2, k3, Bool.true_and, decide_eq_true_eq]
    omega
  rw [s1, s2]
  simp only [Bool.and_self, if_true]
  congr 1
  rw [Bool.eq_iff_iff, List.any_eq_true, decide_eq_true_eq]
  have e : qs = ys.map pyOf := pys_map k1
  rw [e]
  constructor
  · rintro ⟨q, hq, eq⟩
    obtain ⟨y, hy', rfl⟩ := List.mem_map.mp hq
    have yd := dats_all.mp hy y hy'
    rw [dat_eqv y x _ _ yd hx (pyOf_dat yd) h1, decide_eq_true_eq] at eq
    rw [← eq]
    exact hy'
  · intro h
    refine ⟨pyOf x, List.mem_map.mpr ⟨x, h, rfl⟩, ?_⟩
    rw [dat_eqv x x _ _ hx hx (pyOf_dat hx) h1, decide_eq_true_eq]
/-! ### what a call leaves -/
/-- but at i all that stood there stands as it was -/
def Gr (i : Nat) (S S' : Sto) : Prop := S.length ≤ S'.length ∧ ∀ q, q < S.length → q ≠ i → S'[q]? = S[q]?
theorem Gr.refl {i : Nat} {S : Sto} : Gr i S S := ⟨Nat.le_refl _, fun _ _ _ => rfl⟩
theorem Gr.trans {i : Nat} {S S1 S2 : Sto} (a : Gr i S S1) (b : Gr i S1 S2) : Gr i S S2 := ⟨Nat.le_trans a.1 b.1, fun q h n => (b.2 q (Nat.lt_of_lt_of_le h a.1) n).trans (a.2 q h n)⟩
theorem Gr.of {i : Nat} {S S' : Sto} (h : But i S S') : Gr i S S' := ⟨Nat.le_of_eq h.1.symm, fun q _ n => h.2 q n⟩
theorem Gr.push {i : Nat} {S : Sto} {o : O} : Gr i S (S ++ [o]) := ⟨by simp, fun q h _ => List.getElem?_append_left h⟩
theorem Gr.set {i j : Nat} {S S' : Sto} {o : O} (h : Gr i S S') (hj : S.length ≤ j) : Gr i S (S'.set j o) := ⟨by simpa using h.1, fun q hq n => by rw [List.getElem?_set_ne (by omega)]; exact h.2 q hq n⟩
theorem Gr.get {i q : Nat} {S S' : Sto} {o : O} (h : Gr i S S') (n : q ≠ i) (e : S[q]? = some o) : S'[q]? = some o := by
  rw [h.2 q (List.getElem?_eq_some_iff.mp e).1 n]; exact e
theorem call_any {p : Pg} {k f : Nat} {ds : List D} {S S1 : Sto} {i : Fn} {d : D} (P : Sto → Prop) (hi : p.fns[f]? = some i) (hl : ds.length = i.np) (h : evSs ⟨callF p k, callF p (k - 1), p.meth, p.init, p.lit, p.isx⟩ i.body (startE i.nn ds) S = .ret d S1) (h0 : P S) (h1 : P S1) : ∃ S', callF p (k + 1) f ds S = .ok d S' ∧ P S' := by
  rw [call_run hi hl, h]
  show ∃ S', PL.trunc S (.ok d S1) = .ok d S' ∧ P S'
  unfold PL.trunc
  dsimp only
  split
  · exact ⟨S, rfl, h0⟩
  · exact ⟨S1, rfl, h1⟩
/-- a new object is told: all that was made stays -/
theorem call_new {p : Pg} {k f : Nat} {ds : List D} {S S1 : Sto} {i : Fn} {d : D} (hi : p.fns[f]? = some i) (hl : ds.length = i.np) (h : evSs ⟨callF p k, callF p (k - 1), p.meth, p.init, p.lit, p.isx⟩ i.body (startE i.nn ds) S = .ret d S1) (hd : d.low S.length = false) : callF p (k + 1) f ds S = .ok d S1 := by
  rw [call_run hi hl, h]
  show PL.trunc S (.ok d S1) = _
  unfold PL.trunc
  dsimp only
  rw [hd]
  rfl
theorem low_new {S : Sto} {n : Nat} (h : S.length ≤ n) : D.low S.length (.ob n) = false := decide_eq_false (by omega)
/-! ### draws -/
/-- the law's state stands at i, its script at j; what stood in S but for it stands -/
def Dws (i j : Nat) (ns : List Int) (S : Sto) (m : Nat) (S' : Sto) : Prop := ∃ c', Drw S' i j ns c' ∧ c' ≤ m ∧ Gr i S S'
theorem Dws.mono {i j m m' : Nat} {ns : List Int} {S S' : Sto} (h : Dws i j ns S m S') (hm : m ≤ m') : Dws i j ns S m' S' := by
  obtain ⟨c, h1, h2, h3⟩ := h
  exact ⟨c, h1, by omega, h3⟩
theorem Dws.push {i j m : Nat} {ns : List Int} {S S' : Sto} {o : O} (h : Dws i j ns S m S') : Dws i j ns S m (S' ++ [o]) := by
  obtain ⟨c, h1, h2, h3⟩ := h
  exact ⟨c, h1.push o, h2, h3.trans .push⟩
theorem Dws.set {i j m q : Nat} {ns : List Int} {S S' : Sto} {o : O} (h : Dws i j ns S m S') (hi : i < S.length) (hj : j < S.length) (hq : S.length ≤ q) : Dws i j ns S m (S'.set q o) := by
  obtain ⟨c, h1, h2, h3⟩ := h
  exact ⟨c, h1.set o (by omega) (by omega), h2, h3.set hq⟩
theorem Dws.gr {i j m : Nat} {ns : List Int} {S S' : Sto} (h : Dws i j ns S m S') : Gr i S S' := by
  obtain ⟨c, h1, h2, h3⟩ := h
  exact h3
/-- from there on -/
theorem Dws.from {i j m : Nat} {ns : List Int} {S S' : Sto} (h : Dws i j ns S m S') : Dws i j ns S' m S' := by
  obtain ⟨c, h1, h2, h3⟩ := h
  exact ⟨c, h1, h2, .refl⟩
theorem Dws.trans {i j m m' : Nat} {ns : List Int} {S S1 S2 : Sto} (h : Dws i j ns S m S1) (k : Dws i j ns S1 m' S2) : Dws i j ns S m' S2 := by
  obtain ⟨c, h1, h2, h3⟩ := k
  exact ⟨c, h1, h2, h.gr.trans h3⟩
/-- one draw -/
theorem Dws.draw {p : Pg} {k f i j m : Nat} {ns : List Int} {S S' : Sto} {most : Int} (hf : p.fns[f]? = some ⟨2, 5, bDraw⟩) (h : Dws i j ns S m S') (hm : m ≤ 1000000000) (h0 : 0 < most) (h1 : most < 2 ^ 8000) : ∃ r S2, callF p (k + 1) f [.ob i, .int most] S' = .ok (.int r) S2 ∧ 0 ≤ r ∧ r < most ∧ Dws i j ns S (m + 1) S2 ∧ But i S' S2 := by
  obtain ⟨c, hd, hc, hg⟩ := h
  obtain ⟨r, S2, e, r0, r1, hd2, hb⟩ := draw_call (k := k) (f := f) hf hd h0 h1 (by omega)
  exact ⟨r, S2, e, r0, r1, ⟨c + 1, hd2, by omega, hg.trans (.of hb)⟩, hb⟩
theorem pow_ge {z : Int} (h : z ≤ 1000000) : z < 2 ^ 8000 := by
  have : (1000000 : Int) < 2 ^ 60 := by decide +kernel
  refine Int.lt_of_le_of_lt h (Int.lt_of_lt_of_le this ?_)
  exact_mod_cast Nat.pow_le_pow_right (by omega : 0 < 2) (by omega : 60 ≤ 8000)
/-! ### walks by place -/
theorem atI_n {α : Type} {xs : List α} {i : Nat} : atI xs (i : Int) = xs[i]? := by
  show (ixN xs.length (i : Int)).bind (fun j => xs[j]?) = _
  unfold ixN L2.ixN
  rw [if_pos (by omega)]
  by_cases h : i < xs.length
  · rw [if_pos (by omega)]
    rfl
  · rw [if_neg (by omega), List.getElem?_eq_none (by omega)]
    rfl
theorem rng_map {n : Nat} : rngD 0 n 1 = (List.range n).map fun (i : Nat) => D.int (i : Int) := by
  unfold rngD
  refine List.map_congr_left fun i _ => ?_
  simp
theorem rng_mapN {a n : Nat} : rngD (a : Int) n 1 = (List.range n).map fun (i : Nat) => D.int ((a + i : Nat) : Int) := by
  unfold rngD
  refine List.map_congr_left fun i _ => ?_
  simp
theorem rng_mem {n : Nat} {x : D} : x ∈ rngD 0 n 1 ↔ ∃ i, i < n ∧ x = .int ((i : Nat) : Int) := by
  rw [rng_map, List.mem_map]
  constructor
  · rintro ⟨i, h, rfl⟩
    exact ⟨i, List.mem_range.mp h, rfl⟩
  · rintro ⟨i, h, rfl⟩
    exact ⟨i, List.mem_range.mpr h, rfl⟩
theorem set_at {α : Type} {l : List α} {i : Nat} {a : α} (h : l[i]? = some a) (b : α) : (l.set i b)[i]? = some b := List.getElem?_set_self (List.getElem?_eq_some_iff.mp h).1
theorem body_at {g : G} {f : Env → Sto → F} {x : D} {ρ ρ1 : Env} {S : Sto} (h : asgG g x ρ = some ρ1) : bodyR g f x ρ S = f ρ1 S := by
  unfold bodyR
  rw [h]
theorem stays_at {S : Sto} {i : Nat} {xs ys : List D} (h : S[i]? = some (.lst xs)) : ({ items := ys, watch := [(i, xs)] } : ItV).stays S = true := by
  unfold ItV.stays
  simp [lstAt_of h]
end PL

set_option Elab.async false
set_option linter.all false
/-! M53a: rows whose neighbours may pass: traces, the least row of a trace. Plain Lean. -/
namespace M53
variable {α : Type} {ind : α → α → Prop} {lt : α → α → Prop}
/-- one passing -/
inductive Sw (ind : α → α → Prop) : List α → List α → Prop
  | here {a b : α} {v : List α} : ind a b → Sw ind (a :: b :: v) (b :: a :: v)
  | there {a : α} {u v : List α} : Sw ind u v → Sw ind (a :: u) (a :: v)
inductive Tr (ind : α → α → Prop) : List α → List α → Prop
  | refl (u : List α) : Tr ind u u
  | head {u v w : List α} : Sw ind u v → Tr ind v w → Tr ind u w
theorem Tr.one {u v : List α} (h : Sw ind u v) : Tr ind u v := .head h (.refl v)
theorem Tr.trans {u v w : List α} (h : Tr ind u v) (k : Tr ind v w) : Tr ind u w := by
  induction h with
  | refl _ => exact k
  | head s _ ih => exact .head s (ih k)
theorem Sw.symm (hs : ∀ a b, ind a b → ind b a) {u v : List α} (h : Sw ind u v) : Sw ind v u := by
  induction h with
  | here h => exact .here (hs _ _ h)
  | there _ ih => exact .there ih
theorem Tr.symm (hs : ∀ a b, ind a b → ind b a) {u v : List α} (h : Tr ind u v) : Tr ind v u := by
  induction h with
  | refl u => exact .refl u
  | head s _ ih => exact ih.trans (.one (s.symm hs))
theorem Tr.cons {u v : List α} (a : α) (h : Tr ind u v) : Tr ind (a :: u) (a :: v) := by
  induction h with
  | refl u => exact .refl _
  | head s _ ih => exact .head (.there s) ih
theorem Sw.append {u v : List α} (h : Sw ind u v) (w : List α) : Sw ind (u ++ w) (v ++ w) := by
  induction h with
  | here h => exact .here h
  | there _ ih => exact .there ih
theorem Tr.append {u v : List α} (h : Tr ind u v) (w : List α) : Tr ind (u ++ w) (v ++ w) := by
  induction h with
  | refl u => exact .refl _
  | head s _ ih => exact .head (s.append w) ih
theorem Sw.length {u v : List α} (h : Sw ind u v) : u.length = v.length := by
  induction h with
  | here _ => rfl
  | there _ ih => simp [ih]
theorem Tr.length {u v : List α} (h : Tr ind u v) : u.length = v.length := by
  induction h with
  | refl u => rfl
  | head s _ ih => exact s.length.trans ih
theorem Sw.mem {u v : List α} (h : Sw ind u v) (x : α) : x ∈ u ↔ x ∈ v := by
  induction h with
  | here _ => simp only [List.mem_cons]; exact ⟨fun h => by rcases h with h | h | h <;> simp [h], fun h => by rcases h with h | h | h <;> simp [h]⟩
  | there _ ih => simp only [List.mem_cons, ih]
theorem Tr.mem {u v : List α} (h : Tr ind u v) (x : α) : x ∈ u ↔ x ∈ v := by
  induction h with
  | refl u => exact Iff.rfl
  | head s _ ih => exact (s.mem x).trans ih
variable [DecidableEq α]
/-- a may come to the front -/
def fr (ind : α → α → Prop) (a : α) : List α → Prop
  | [] => False
  | x :: w => x = a ∨ (x ≠ a ∧ ind x a ∧ fr ind a w)
def rm (a : α) : List α → List α
  | [] => []
  | x :: w => if x = a then w else x :: rm a w
theorem fr_sw (hs : ∀ a b, ind a b → ind b a) (hn : ∀ a, ¬ ind a a) {u v : List α} (h : Sw ind u v) {a : α} (f : fr ind a u) : fr ind a v ∧ Tr ind (rm a u) (rm a v) := by
  induction h with
  | @here x y t h =>
    have ne : x ≠ y := fun e => hn y (e ▸ h)
    rcases f with rfl | ⟨h1, h2, f⟩
    · refine ⟨.inr ⟨Ne.symm ne, hs _ _ h, .inl rfl⟩, ?_⟩
      simp only [rm, if_true, if_neg (Ne.symm ne)]
      exact .refl _
    · rcases f with rfl | ⟨h3, h4, f⟩
      · refine ⟨.inl rfl, ?_⟩
        simp only [rm, if_true, if_neg h1]
        exact .refl _
      · refine ⟨.inr ⟨h3, h4, .inr ⟨h1, h2, f⟩⟩, ?_⟩
        simp only [rm, if_neg h1, if_neg h3]
        exact .one (.here h)
  | @there x u v s ih =>
    rcases f with rfl | ⟨h1, h2, f⟩
    · refine ⟨.inl rfl, ?_⟩
      simp only [rm, if_true]
      exact .one s
    · obtain ⟨k1, k2⟩ := ih f
      refine ⟨.inr ⟨h1, h2, k1⟩, ?_⟩
      simp only [rm, if_neg h1]
      exact k2.cons x
theorem fr_tr (hs : ∀ a b, ind a b → ind b a) (hn : ∀ a, ¬ ind a a) {u v : List α} (h : Tr ind u v) {a : α} (f : fr ind a u) : fr ind a v ∧ Tr ind (rm a u) (rm a v) := by
  induction h with
  | refl u => exact ⟨f, .refl _⟩
  | head s _ ih =>
    obtain ⟨k1, k2⟩ := fr_sw hs hn s f
    obtain ⟨k3, k4⟩ := ih k1
    exact ⟨k3, k2.trans k4⟩
theorem fr_move : ∀ {w : List α} {a : α}, fr ind a w → Tr ind w (a :: rm a w)
  | [], _, f => f.elim
  | x :: w, a, f => by
    rcases f with rfl | ⟨h1, h2, f⟩
    · simp only [rm, if_true]
      exact .refl _
    · simp only [rm, if_neg h1]
      exact ((fr_move f).cons x).trans (.one (.here h2))
/-- the greedy row -/
inductive Gre (ind lt : α → α → Prop) : List α → List α → Prop
  | nil : Gre ind lt [] []
  | cons {a : α} {w r : List α} : fr ind a w → (∀ b, fr ind b w → ¬ lt b a) → Gre ind lt (rm a w) r → Gre ind lt w (a :: r)
/-- by the first place that differs -/
def llt (lt : α → α → Prop) : List α → List α → Prop
  | [], [] => False
  | [], _ :: _ => True
  | _ :: _, [] => False
  | a :: u, b :: v => lt a b ∨ (a = b ∧ llt lt u v)
theorem Gre.tr {w r : List α} (g : Gre ind lt w r) : Tr ind w r := by
  induction g with
  | nil => exact .refl _
  | cons f _ _ ih => exact (fr_move f).trans (ih.cons _)
theorem Gre.least (hs : ∀ a b, ind a b → ind b a) (hn : ∀ a, ¬ ind a a) {w r : List α} (g : Gre ind lt w r) : ∀ v, Tr ind w v → ¬ llt lt v r := by
  induction g with
  | nil =>
    intro v h k
    have := h.length
    cases v with
    | nil => exact k
    | cons _ _ => simp at this
  | @cons a w r f m _ ih =>
    intro v h k
    cases v with
    | nil =>
      have := h.length
      cases w with
      | nil => exact f
      | cons _ _ => simp at this
    | cons b v =>
      have fb : fr ind b w := (fr_tr hs hn (h.symm hs) (.inl rfl)).1
      rcases k with k | ⟨rfl, k⟩
      · exact m b fb k
      · have h2 := (fr_tr hs hn h f).2
        simp only [rm, if_true] at h2
        exact ih v h2 k
theorem llt_total (ht : ∀ a b, lt a b ∨ a = b ∨ lt b a) : ∀ u v : List α, llt lt u v ∨ u = v ∨ llt lt v u
  | [], [] => .inr (.inl rfl)
  | [], _ :: _ => .inl trivial
  | _ :: _, [] => .inr (.inr trivial)
  | a :: u, b :: v => by
    rcases ht a b with h | rfl | h
    · exact .inl (.inl h)
    · rcases llt_total ht u v with k | rfl | k
      · exact .inl (.inr ⟨rfl, k⟩)
      · exact .inr (.inl rfl)
      · exact .inr (.inr (.inr ⟨rfl, k⟩))
    · exact .inr (.inr (.inl h))
/-- r is the least row of the trace of w -/
def Lst (ind lt : α → α → Prop) (w r : List α) : Prop := Tr ind w r ∧ ∀ v, Tr ind w v → ¬ llt lt v r
theorem Gre.lst (hs : ∀ a b, ind a b → ind b a) (hn : ∀ a, ¬ ind a a) {w r : List α} (g : Gre ind lt w r) : Lst ind lt w r := ⟨g.tr, g.least hs hn⟩
theorem Lst.uniq (hs : ∀ a b, ind a b → ind b a) (ht : ∀ a b, lt a b ∨ a = b ∨ lt b a) {w w' r r' : List α} (h : Lst ind lt w r) (h' : Lst ind lt w' r') (t : Tr ind w w') : r = r' := by
  rcases llt_total ht r r' with k | k | k
  · exact absurd k (h'.2 r ((t.symm hs).trans h.1))
  · exact k
  · exact absurd k (h.2 r' (t.trans h'.1))
theorem Lst.eqv (hs : ∀ a b, ind a b → ind b a) {w w' r : List α} (h : Lst ind lt w r) (h' : Lst ind lt w' r) : Tr ind w w' := h.1.trans (h'.1.symm hs)
/-- a least row may be taken for the row, when something comes behind -/
theorem Lst.snoc (hs : ∀ a b, ind a b → ind b a) {w r r2 : List α} {x : α} (h : Lst ind lt w r) (h2 : Lst ind lt (r ++ [x]) r2) : Lst ind lt (w ++ [x]) r2 := by
  have t : Tr ind (w ++ [x]) (r ++ [x]) := h.1.append [x]
  exact ⟨t.trans h2.1, fun v hv => h2.2 v ((t.symm hs).trans hv)⟩
/-- pigeons: numbers below n, each once -/
theorem pigeon : ∀ (n : Nat) (l : List Nat), l.Nodup → (∀ x ∈ l, x < n) → l.length ≤ n
  | 0, l, _, h => by
    cases l with
    | nil => exact Nat.le_refl _
    | cons x _ => exact absurd (h x List.mem_cons_self) (Nat.not_lt_zero _)
  | n + 1, l, nd, h => by
    have e : (l.erase n).length ≤ n := pigeon n (l.erase n) (nd.erase n) fun x hx => by
      have h1 := h x (List.mem_of_mem_erase hx)
      have h2 : x ≠ n := fun z => by
        rw [z] at hx
        exact nd.not_mem_erase hx
      omega
    have := List.length_erase (l := l) (a := n)
    split at this <;> omega
/-- .. of any kind, told by numbers -/
theorem pigeon_map {β : Type} {n : Nat} (f : β → Nat) (l : List β) (nd : l.Nodup) (inj : ∀ x ∈ l, ∀ y ∈ l, f x = f y → x = y) (h : ∀ x ∈ l, f x < n) : l.length ≤ n := by
  have : (l.map f).Nodup := by
    induction l with
    | nil => exact List.nodup_nil
    | cons x l ih =>
      rw [List.nodup_cons] at nd
      rw [List.map_cons, List.nodup_cons]
      refine ⟨fun hx => ?_, ih nd.2 (fun y hy z hz => inj y (List.mem_cons_of_mem _ hy) z (List.mem_cons_of_mem _ hz)) fun y hy => h y (List.mem_cons_of_mem _ hy)⟩
      obtain ⟨y, hy, e⟩ := List.mem_map.mp hx
      have := inj x List.mem_cons_self y (List.mem_cons_of_mem _ hy) e.symm
      exact nd.1 (this ▸ hy)
  have := pigeon n (l.map f) this fun y hy => by
    obtain ⟨x, hx, rfl⟩ := List.mem_map.mp hy
    exact h x hx
  rwa [List.length_map] at this
end M53

set_option Elab.async false
set_option linter.all false
/-! M53b: the law's search of a trace. Plain Lean. -/
namespace M53
abbrev IB (pb : Nat → Nat → Bool) : Nat → Nat → Prop := fun a b => pb a b = true
def swp (k : Nat) (w : List Nat) : List Nat := w.take k ++ [w.getD (k + 1) 0, w.getD k 0] ++ w.drop (k + 2)
theorem sw_swp {pb : Nat → Nat → Bool} : ∀ {w : List Nat} {k : Nat}, k + 1 < w.length → pb (w.getD k 0) (w.getD (k + 1) 0) = true → Sw (IB pb) w (swp k w)
  | [], k, h, _ => by simp at h
  | [_], k, h, _ => by simp at h
  | a :: b :: w, 0, _, h => by
    have : swp 0 (a :: b :: w) = b :: a :: w := by simp [swp]
    rw [this]
    exact .here (by simpa using h)
  | a :: b :: w, k + 1, hl, h => by
    have e : swp (k + 1) (a :: b :: w) = a :: swp k (b :: w) := by simp [swp]
    rw [e]
    refine .there (sw_swp (by simpa using hl) ?_)
    simpa using h
theorem swp_of {pb : Nat → Nat → Bool} {w v : List Nat} (s : Sw (IB pb) w v) : ∃ k, k + 1 < w.length ∧ pb (w.getD k 0) (w.getD (k + 1) 0) = true ∧ v = swp k w := by
  induction s with
  | @here a b v h => exact ⟨0, by simp, by simpa using h, by simp [swp]⟩
  | @there a u v _ ih =>
    obtain ⟨k, h1, h2, h3⟩ := ih
    refine ⟨k + 1, by simpa using h1, by simpa using h2, ?_⟩
    rw [h3]
    simp [swp]
def exp1 (pb : Nat → Nat → Bool) (w : List Nat) (fd : List (List Nat)) (k : Nat) : List (List Nat) :=
  if pb (w.getD k 0) (w.getD (k + 1) 0) = true then (if swp k w ∈ fd then fd else fd ++ [swp k w]) else fd
def expd (pb : Nat → Nat → Bool) (w : List Nat) (fd : List (List Nat)) : List (List Nat) := (List.range (w.length - 1)).foldl (exp1 pb w) fd
def bfs (pb : Nat → Nat → Bool) : Nat → Nat → List (List Nat) → List (List Nat)
  | 0, _, fd => fd
  | n + 1, t, fd => if t = fd.length then fd else bfs pb n (t + 1) (expd pb (fd.getD t []) fd)
/-- what a search has found -/
structure Fd (pb : Nat → Nat → Bool) (w : List Nat) (fd : List (List Nat)) : Prop where
  nd : fd.Nodup
  at0 : fd[0]? = some w
  tr : ∀ u ∈ fd, Tr (IB pb) w u
section
variable {pb : Nat → Nat → Bool} {w u : List Nat} {fd fd' : List (List Nat)}
theorem Fd.exp1 (F : Fd pb w fd) (hu : u ∈ fd) {k : Nat} (hk : k + 1 < u.length) : Fd pb w (exp1 pb u fd k) ∧ (∃ t, exp1 pb u fd k = fd ++ t) ∧ (pb (u.getD k 0) (u.getD (k + 1) 0) = true → swp k u ∈ exp1 pb u fd k) := by
  unfold M53.exp1
  split
  · rename_i h
    split
    · rename_i hm
      exact ⟨F, ⟨[], by simp⟩, fun _ => hm⟩
    · rename_i hm
      refine ⟨⟨?_, ?_, fun v hv => ?_⟩, ⟨_, rfl⟩, fun _ => by simp⟩
      · rw [List.nodup_append]
        refine ⟨F.nd, by simp, fun a ha b hb => ?_⟩
        have : b = swp k u := by simpa using hb
        rw [this]
        exact fun e => hm (e ▸ ha)
      · rw [List.getElem?_append_left (by have := F.at0; exact (List.getElem?_eq_some_iff.mp this).1)]
        exact F.at0
      · rcases List.mem_append.mp hv with hv | hv
        · exact F.tr v hv
        · have : v = swp k u := by simpa using hv
          rw [this]
          exact (F.tr u hu).trans (.one (sw_swp hk h))
  · rename_i h
    exact ⟨F, ⟨[], by simp⟩, fun z => absurd z h⟩
theorem Fd.expd (F : Fd pb w fd) (hu : u ∈ fd) : Fd pb w (expd pb u fd) ∧ (∃ t, expd pb u fd = fd ++ t) ∧ ∀ v, Sw (IB pb) u v → v ∈ expd pb u fd := by
  have go : ∀ (ks : List Nat), (∀ k ∈ ks, k + 1 < u.length) → ∀ fd, Fd pb w fd → u ∈ fd → Fd pb w (ks.foldl (M53.exp1 pb u) fd) ∧ (∃ t, ks.foldl (M53.exp1 pb u) fd = fd ++ t) ∧ ∀ k ∈ ks, pb (u.getD k 0) (u.getD (k + 1) 0) = true → swp k u ∈ ks.foldl (M53.exp1 pb u) fd := by
    intro ks
    induction ks with
    | nil => exact fun _ fd F _ => ⟨F, ⟨[], by simp⟩, fun k hk => nomatch hk⟩
    | cons k ks ih =>
      intro hks fd F hu
      obtain ⟨F1, ⟨t1, e1⟩, m1⟩ := F.exp1 hu (hks k List.mem_cons_self)
      have hu1 : u ∈ M53.exp1 pb u fd k := by rw [e1]; exact List.mem_append_left _ hu
      obtain ⟨F2, ⟨t2, e2⟩, m2⟩ := ih (fun j hj => hks j (List.mem_cons_of_mem _ hj)) _ F1 hu1
      refine ⟨F2, ⟨t1 ++ t2, by rw [List.foldl_cons, e2, e1, List.append_assoc]⟩, fun j hj hp => ?_⟩
      rcases List.mem_cons.mp hj with rfl | hj
      · rw [List.foldl_cons, e2]
        exact List.mem_append_left _ (m1 hp)
      · exact m2 j hj hp
  obtain ⟨k1, k2, k3⟩ := go (List.range (u.length - 1)) (fun k hk => by have := List.mem_range.mp hk; omega) fd F hu
  refine ⟨k1, k2, fun v s => ?_⟩
  obtain ⟨k, h1, h2, rfl⟩ := swp_of s
  exact k3 k (List.mem_range.mpr (by omega)) h2
/-- rows of letters below 4, told by numbers -/
def num : List Nat → Nat
  | [] => 0
  | a :: u => a + 4 * num u
theorem num_inj : ∀ {u v : List Nat}, u.length = v.length → (∀ x ∈ u, x < 4) → (∀ x ∈ v, x < 4) → num u = num v → u = v
  | [], [], _, _, _, _ => rfl
  | [], _ :: _, h, _, _, _ => by simp at h
  | _ :: _, [], h, _, _, _ => by simp at h
  | a :: u, b :: v, h, hu, hv, e => by
    have h1 := hu a List.mem_cons_self
    have h2 := hv b List.mem_cons_self
    simp only [num] at e
    have e1 : a = b := by omega
    have e2 : num u = num v := by omega
    rw [e1, num_inj (by simpa using h) (fun x hx => hu x (List.mem_cons_of_mem _ hx)) (fun x hx => hv x (List.mem_cons_of_mem _ hx)) e2]
theorem num_lt : ∀ {u : List Nat}, (∀ x ∈ u, x < 4) → num u < 4 ^ u.length
  | [], _ => by simp [num]
  | a :: u, h => by
    have h1 := h a List.mem_cons_self
    have h2 := num_lt fun x hx => h x (List.mem_cons_of_mem _ hx)
    simp only [num, List.length_cons, Nat.pow_succ]
    omega
theorem Fd.few (F : Fd pb w fd) (hw : ∀ x ∈ w, x < 4) : fd.length ≤ 4 ^ w.length := by
  have hl : ∀ u ∈ fd, u.length = w.length := fun u hu => ((F.tr u hu).length).symm
  have hx : ∀ u ∈ fd, ∀ x ∈ u, x < 4 := fun u hu x h => hw x (((F.tr u hu).mem x).mpr h)
  refine pigeon_map num fd F.nd (fun u hu v hv e => num_inj ((hl u hu).trans (hl v hv).symm) (hx u hu) (hx v hv) e) fun u hu => ?_
  rw [← hl u hu]
  exact num_lt (hx u hu)
theorem bfs_ok (hw : ∀ x ∈ w, x < 4) : ∀ (n t : Nat) (fd : List (List Nat)), Fd pb w fd → t ≤ fd.length → 4 ^ w.length < n + t → (∀ i u, i < t → fd[i]? = some u → ∀ v, Sw (IB pb) u v → v ∈ fd) → Fd pb w (bfs pb n t fd) ∧ ∀ u ∈ bfs pb n t fd, ∀ v, Sw (IB pb) u v → v ∈ bfs pb n t fd
  | 0, t, fd, F, ht, hn, hc => by
    have := F.few hw
    omega
  | n + 1, t, fd, F, ht, hn, hc => by
    unfold bfs
    split
    · rename_i e
      refine ⟨F, fun u hu v s => ?_⟩
      obtain ⟨i, hi⟩ := List.getElem?_of_mem hu
      exact hc i u (by rw [e]; exact (List.getElem?_eq_some_iff.mp hi).1) hi v s
    · rename_i e
      have lt : t < fd.length := by omega
      have hm : fd.getD t [] ∈ fd := by
        rw [List.getD_eq_getElem?_getD, List.getElem?_eq_getElem lt]
        exact List.getElem_mem lt
      obtain ⟨F1, ⟨t1, e1⟩, m1⟩ := F.expd hm
      refine bfs_ok hw n (t + 1) _ F1 (by rw [e1, List.length_append]; omega) (by omega) fun i u hi hu v s => ?_
      by_cases h : i = t
      · subst h
        rw [e1, List.getElem?_append_left lt] at hu
        have : fd.getD i [] = u := by rw [List.getD_eq_getElem?_getD, hu]; rfl
        rw [this] at m1 ⊢
        exact m1 v s
      · have hi' : i < t := by omega
        rw [e1, List.getElem?_append_left (by omega)] at hu
        rw [e1]
        exact List.mem_append_left _ (hc i u hi' hu v s)
/-- the search of the law: all of the trace, each row once -/
theorem bfs_all (hw : ∀ x ∈ w, x < 4) (hl : w.length ≤ 6) : Fd pb w (bfs pb 5000 0 [w]) ∧ ∀ v, Tr (IB pb) w v ↔ v ∈ bfs pb 5000 0 [w] := by
  have h4 : 4 ^ w.length < 5000 + 0 := by
    have : 4 ^ w.length ≤ 4 ^ 6 := Nat.pow_le_pow_right (by decide) hl
    have : (4 : Nat) ^ 6 = 4096 := by decide
    omega
  have F0 : Fd pb w [w] := ⟨by simp, rfl, fun u hu => by rw [show u = w by simpa using hu]; exact .refl w⟩
  obtain ⟨F, c⟩ := bfs_ok hw 5000 0 [w] F0 (Nat.zero_le _) h4 fun i u hi => absurd hi (Nat.not_lt_zero _)
  refine ⟨F, fun v => ⟨fun h => ?_, fun h => F.tr v h⟩⟩
  have step : ∀ {a b : List Nat}, Tr (IB pb) a b → a ∈ bfs pb 5000 0 [w] → b ∈ bfs pb 5000 0 [w] := by
    intro a b t
    induction t with
    | refl _ => exact id
    | head s _ ih => exact fun ha => ih (c _ ha _ s)
  exact step h (List.mem_of_getElem? F.at0)
end
end M53

set_option Elab.async false
set_option linter.all false
/-! M53c: the greedy row by places; every row has a least one; mixes. Plain Lean. -/
namespace M53
section
variable {pb : Nat → Nat → Bool} {f : Nat → Nat}
/-- a place that is ready: what stands ahead of it and is not taken passes -/
def Rdy (pb : Nat → Nat → Bool) (f : Nat → Nat) (ps : List Nat) (p : Nat) : Prop := p ∈ ps ∧ ∀ q ∈ ps, q < p → pb (f q) (f p) = true
theorem Rdy.fr (hn : ∀ a, pb a a = false) : ∀ {ps : List Nat} {p : Nat}, ps.Pairwise (· < ·) → Rdy pb f ps p → M53.fr (IB pb) (f p) (ps.map f) ∧ rm (f p) (ps.map f) = (ps.erase p).map f
  | [], p, _, h => nomatch h.1
  | x :: ps, p, hp, h => by
    obtain ⟨h1, h2⟩ := List.pairwise_cons.mp hp
    rcases List.mem_cons.mp h.1 with rfl | hm
    · refine ⟨.inl rfl, ?_⟩
      simp [rm]
    · have lt := h1 p hm
      have hx := h.2 x List.mem_cons_self lt
      have ne : f x ≠ f p := fun e => by rw [e, hn] at hx; cases hx
      have nx : x ≠ p := fun e => by rw [e] at lt; exact Nat.lt_irrefl _ lt
      obtain ⟨k1, k2⟩ := Rdy.fr hn h2 (p := p) ⟨hm, fun q hq => h.2 q (List.mem_cons_of_mem _ hq)⟩
      refine ⟨.inr ⟨ne, hx, k1⟩, ?_⟩
      rw [List.map_cons, rm, if_neg ne, k2, List.erase_cons_tail (by simpa using nx), List.map_cons]
theorem Rdy.of_fr : ∀ {ps : List Nat} {b : Nat}, ps.Pairwise (· < ·) → M53.fr (IB pb) b (ps.map f) → ∃ p, Rdy pb f ps p ∧ f p = b
  | [], b, _, h => h.elim
  | x :: ps, b, hp, h => by
    obtain ⟨h1, h2⟩ := List.pairwise_cons.mp hp
    rcases h with h | ⟨_, hx, h⟩
    · refine ⟨x, ⟨List.mem_cons_self, fun q hq lt => ?_⟩, h⟩
      rcases List.mem_cons.mp hq with rfl | hq
      · exact absurd lt (Nat.lt_irrefl _)
      · exact absurd (h1 q hq) (by omega)
    · obtain ⟨p, ⟨k1, k2⟩, rfl⟩ := Rdy.of_fr h2 h
      refine ⟨p, ⟨List.mem_cons_of_mem _ k1, fun q hq lt => ?_⟩, rfl⟩
      rcases List.mem_cons.mp hq with rfl | hq
      · exact hx
      · exact k2 q hq lt
/-- the greedy row, by places -/
inductive GreP (pb : Nat → Nat → Bool) (f : Nat → Nat) : List Nat → List Nat → Prop
  | nil : GreP pb f [] []
  | cons {p : Nat} {ps r : List Nat} : Rdy pb f ps p → (∀ q, Rdy pb f ps q → ¬ f q < f p) → GreP pb f (ps.erase p) r → GreP pb f ps (f p :: r)
theorem GreP.gre (hn : ∀ a, pb a a = false) {ps r : List Nat} (g : GreP pb f ps r) : ps.Pairwise (· < ·) → Gre (IB pb) (· < ·) (ps.map f) r := by
  induction g with
  | nil => exact fun _ => .nil
  | @cons p ps r h m _ ih =>
    intro hp
    obtain ⟨k1, k2⟩ := h.fr hn hp
    refine .cons k1 (fun b hb lt => ?_) ?_
    · obtain ⟨q, hq, rfl⟩ := Rdy.of_fr hp hb
      exact m q hq lt
    · rw [k2]
      exact ih (hp.sublist (List.erase_sublist))
/-- while places are left, one is ready -/
theorem rdy_head {x : Nat} {ps : List Nat} (hp : (x :: ps).Pairwise (· < ·)) : Rdy pb f (x :: ps) x := ⟨List.mem_cons_self, fun q hq lt => by
  rcases List.mem_cons.mp hq with rfl | hq
  · exact absurd lt (Nat.lt_irrefl _)
  · exact absurd ((List.pairwise_cons.mp hp).1 q hq) (by omega)⟩
theorem least_of (P : Nat → Prop) : ∀ n, P n → ∃ m, P m ∧ ∀ k, P k → ¬ k < m := fun n => by
  induction n using Nat.strongRecOn with
  | ind n ih =>
    intro h
    by_cases e : ∃ k, P k ∧ k < n
    · obtain ⟨k, h1, h2⟩ := e
      exact ih k h2 h1
    · exact ⟨n, h, fun k hk lt => e ⟨k, hk, lt⟩⟩
theorem rm_len {pb : Nat → Nat → Bool} : ∀ {w : List Nat} {a : Nat}, M53.fr (IB pb) a w → (rm a w).length + 1 = w.length
  | [], _, h => h.elim
  | x :: w, a, h => by
    rcases h with rfl | ⟨h1, _, h⟩
    · simp [rm]
    · simp [rm, h1, rm_len h]
theorem gre_ex (pb : Nat → Nat → Bool) : ∀ (n : Nat) (w : List Nat), w.length = n → ∃ r, Gre (IB pb) (· < ·) w r
  | 0, w, h => by
    rw [List.length_eq_zero_iff.mp h]
    exact ⟨[], .nil⟩
  | n + 1, [], h => by simp at h
  | n + 1, x :: w, h => by
    obtain ⟨a, h1, h2⟩ := least_of (fun a => M53.fr (IB pb) a (x :: w)) x (.inl rfl)
    have := rm_len h1
    obtain ⟨r, hr⟩ := gre_ex pb n (rm a (x :: w)) (by omega)
    exact ⟨a :: r, .cons h1 h2 hr⟩
end
/-- the least row of the trace -/
abbrev Ls (pb : Nat → Nat → Bool) (w r : List Nat) : Prop := Lst (IB pb) (· < ·) w r
section
variable {pb : Nat → Nat → Bool} (hs : ∀ a b, pb a b = true → pb b a = true) (hn : ∀ a, pb a a = false)
include hs hn
theorem ls_ex (w : List Nat) : ∃ r, Ls pb w r := by
  obtain ⟨r, h⟩ := gre_ex pb _ w rfl
  exact ⟨r, h.lst hs fun a z => by have h1 := hn a; rw [show pb a a = true from z] at h1; cases h1⟩
omit hn in
theorem ls_uniq {w w' r r' : List Nat} (h : Ls pb w r) (h' : Ls pb w' r') (t : Tr (IB pb) w w') : r = r' := Lst.uniq hs (fun a b => by omega) h h' t
theorem ls_snoc {w r r2 : List Nat} {x : Nat} (h : Ls pb w r) : Ls pb (r ++ [x]) r2 ↔ Ls pb (w ++ [x]) r2 := by
  refine ⟨fun h2 => h.snoc hs h2, fun h2 => ?_⟩
  obtain ⟨r3, h3⟩ := ls_ex hs hn (r ++ [x])
  have := ls_uniq hs (h.snoc hs h3) h2 (.refl _)
  rw [← this]
  exact h3
end
/-- the mixes of rows: how far each row is read, and the row so far -/
inductive Mx (rows : List (List Nat)) : List Nat → List Nat → Prop
  | start : Mx rows (List.replicate rows.length 0) []
  | step {pl way : List Nat} {k p x : Nat} {row : List Nat} : Mx rows pl way → rows[k]? = some row → pl[k]? = some p → row[p]? = some x → Mx rows (pl.set k (p + 1)) (way ++ [x])
section
variable {rows : List (List Nat)}
theorem Mx.len {pl way : List Nat} (h : Mx rows pl way) : pl.length = rows.length := by
  induction h with
  | start => simp
  | step _ _ _ _ ih => simpa using ih
theorem Mx.le {pl way : List Nat} (h : Mx rows pl way) : ∀ (k p : Nat) (row : List Nat), pl[k]? = some p → rows[k]? = some row → p ≤ row.length := by
  induction h with
  | start =>
    intro k p row h1 _
    rw [List.getElem?_replicate] at h1
    split at h1
    · cases h1; exact Nat.zero_le _
    · cases h1
  | @step pl way j q x row _ h1 h2 h3 ih =>
    intro k p row' e1 e2
    by_cases e : j = k
    · subst e
      have hl := (List.getElem?_eq_some_iff.mp h2).1
      rw [List.getElem?_set_self hl] at e1
      cases e1
      rw [h1] at e2
      cases e2
      exact (List.getElem?_eq_some_iff.mp h3).1
    · rw [List.getElem?_set_ne e] at e1
      exact ih k p row' e1 e2
theorem sum_set : ∀ {pl : List Nat} {k p : Nat}, pl[k]? = some p → (pl.set k (p + 1)).sum = pl.sum + 1
  | [], _, _, h => by simp at h
  | a :: pl, 0, p, h => by
    have : a = p := by simpa using h
    subst this
    simp
    omega
  | a :: pl, k + 1, p, h => by
    have := sum_set (pl := pl) (k := k) (p := p) (by simpa using h)
    simp only [List.set_cons_succ, List.sum_cons, this]
    omega
theorem Mx.sum {pl way : List Nat} (h : Mx rows pl way) : pl.sum = way.length := by
  induction h with
  | start => simp
  | step _ _ h2 _ ih => rw [sum_set h2, ih]; simp
/-- at the end all is read -/
theorem full_of : ∀ {pl : List Nat} {rows : List (List Nat)}, pl.length = rows.length → (∀ (k p : Nat) (row : List Nat), pl[k]? = some p → rows[k]? = some row → p ≤ row.length) → pl.sum = (rows.map List.length).sum → pl = rows.map List.length
  | [], [], _, _, _ => rfl
  | [], _ :: _, h, _, _ => by simp at h
  | _ :: _, [], h, _, _ => by simp at h
  | p :: pl, row :: rows, h, hle, hs => by
    have h0 := hle 0 p row rfl rfl
    have hle' : ∀ (k p : Nat) (row : List Nat), pl[k]? = some p → rows[k]? = some row → p ≤ row.length := fun k q r h1 h2 => hle (k + 1) q r h1 h2
    have hsum : ∀ {pl : List Nat} {rows : List (List Nat)}, pl.length = rows.length → (∀ (k p : Nat) (row : List Nat), pl[k]? = some p → rows[k]? = some row → p ≤ row.length) → pl.sum ≤ (rows.map List.length).sum := by
      intro pl
      induction pl with
      | nil => intro rows h _; simp
      | cons q pl ih =>
        intro rows h hh
        cases rows with
        | nil => simp at h
        | cons r rows =>
          have := hh 0 q r rfl rfl
          have := ih (rows := rows) (by simpa using h) fun k a b h1 h2 => hh (k + 1) a b h1 h2
          simp only [List.map_cons, List.sum_cons]
          omega
    have h1 := hsum (by simpa using h) hle'
    simp only [List.map_cons, List.sum_cons] at hs
    have e1 : p = row.length := by omega
    have e2 : pl.sum = (rows.map List.length).sum := by omega
    rw [List.map_cons, ← full_of (by simpa using h) hle' e2, e1]
end
end M53

set_option Elab.async false
set_option linter.all false
set_option maxRecDepth 100000
set_option maxHeartbeats 4000000
namespace K53
open PySem PySem.Spec PyProof.Rows PL
open L2 (inClass)
def top (i : Nat) : Stmt := PySem.Challenge.pw_maypass_k53_mixes_and_windows.main.body.getD i (.Pass ⟨0, 0, 0, 0⟩)
def b_may_pass : Ss :=
    .cons (.ret (.bop true (.cons (.cmp .NotEq (.var 1) (.var 2)) (.cons (.cmp .In (.tup (.cons (.bi .min2 (.cons (.var 1) (.cons (.var 2) (.nil)))) (.cons (.bi .max2 (.cons (.var 1) (.cons (.var 2) (.nil)))) (.nil)))) (.var 0)) (.nil))))) <|
    .nil
def b_holds_back : Ss :=
    .cons (.asg (.nm 2) (.own (.disp (.nil)))) <|
    .cons (.for_ (.tup (.cons (.nm 3) (.cons (.nm 4) (.nil)))) (.enm (.var 1)) (.cons (.ex (.bm .append (.var 2) (.cons (.tupL (.comp [5] (.var 5) (.nm 5) (.rng1 (.var 3)) (.cons (.not (.call "may_pass" 0 (.cons (.var 0) (.cons (.idx (.var 1) (.var 5)) (.cons (.var 4) (.nil)))))) (.nil)))) (.nil)))) <|
    .nil)) <|
    .cons (.ret (.var 2)) <|
    .nil
def b_with_place : Ss :=
    .cons (.ret (.tupL (.sortE (.bin .Add (.var 0) (.tup (.cons (.var 1) (.nil))))))) <|
    .nil
def b_row_at : Ss :=
    .cons (.asg (.nm 3) (.new "Counter" 0 (.cons (.var 0) (.cons (.var 1) (.nil))))) <|
    .cons (.ite (.not (.chn .LtE .Lt (.cst (.int 0)) (.var 2) (.meth (.var 3) "many" (.cons (.tup (.nil)) (.nil))))) (.cons (.ret (.cst .non)) <|
    .nil) (.nil)) <|
    .cons (.asg (.nm 4) (.tup (.nil))) <|
    .cons (.asg (.nm 5) (.own (.disp (.nil)))) <|
    .cons (.for_ (.nm 6) (.rng1 (.bi .len (.cons (.var 1) (.nil)))) (.cons (.for_ (.nm 7) (.ofE (.meth (.var 3) "ready" (.cons (.var 4) (.nil)))) (.cons (.asg (.nm 8) (.meth (.var 3) "many" (.cons (.call "with_place" 2 (.cons (.var 4) (.cons (.var 7) (.nil)))) (.nil)))) <|
    .cons (.ite (.cmp .Lt (.var 2) (.var 8)) (.cons (.brk) <|
    .nil) (.nil)) <|
    .cons (.aug 2 .Sub (.var 8)) <|
    .nil)) <|
    .cons (.asg (.nm 4) (.call "with_place" 2 (.cons (.var 4) (.cons (.var 7) (.nil))))) <|
    .cons (.ex (.bm .append (.var 5) (.cons (.idx (.var 1) (.var 7)) (.nil)))) <|
    .nil)) <|
    .cons (.ret (.bi .tupOf (.cons (.var 5) (.nil)))) <|
    .nil
def b_mixed_traces : Ss :=
    .cons (.asg (.nm 3) (.tupL (.comp [2] (.cst (.int 0)) (.nm 2) (.ofE (.var 1)) (.nil)))) <|
    .cons (.asg (.nm 4) (.dnew1 true (.var 3) (.own (.disp (.cons (.tup (.nil)) (.nil)))))) <|
    .cons (.for_ (.nm 5) (.rng1 (.sumL (.comp [2] (.bi .len (.cons (.var 2) (.nil))) (.nm 2) (.ofE (.var 1)) (.nil)))) (.cons (.asg (.nm 4) (.call "mixed_further" 5 (.cons (.var 0) (.cons (.var 1) (.cons (.var 4) (.nil)))))) <|
    .nil)) <|
    .cons (.asg (.nm 6) (.own (.disp (.nil)))) <|
    .cons (.forD (.nm 7) false 4 (.cons (.ex (.bm .extend (.var 6) (.cons (.var 7) (.nil)))) <|
    .nil)) <|
    .cons (.ret (.tupL (.sortE (.var 6)))) <|
    .nil
def b_mixed_further : Ss :=
    .cons (.asg (.nm 3) (.dnew true)) <|
    .cons (.forD (.tup (.cons (.nm 4) (.cons (.nm 5) (.nil)))) true 2 (.cons (.for_ (.tup (.cons (.nm 6) (.cons (.nm 7) (.nil)))) (.enm (.var 1)) (.cons (.ite (.cmp .Lt (.idx (.var 4) (.var 6)) (.bi .len (.cons (.var 7) (.nil)))) (.cons (.asg (.nm 8) (.bin .Add (.bin .Add (.slc (.var 4) (.cst .non) (.var 6)) (.tup (.cons (.bin .Add (.idx (.var 4) (.var 6)) (.cst (.int 1))) (.nil)))) (.slc (.var 4) (.bin .Add (.var 6) (.cst (.int 1))) (.cst .non)))) <|
    .cons (.asg (.nm 9) (.bm .setdefault (.var 3) (.cons (.var 8) (.cons (.own (.disp (.nil))) (.nil))))) <|
    .cons (.for_ (.nm 10) (.ofE (.var 5)) (.cons (.asg (.nm 11) (.call "row_at" 3 (.cons (.var 0) (.cons (.bin .Add (.var 10) (.tup (.cons (.idx (.var 7) (.idx (.var 4) (.var 6))) (.nil)))) (.cons (.cst (.int 0)) (.nil)))))) <|
    .cons (.ite (.cmp .NotIn (.var 11) (.var 9)) (.cons (.ex (.bm .append (.var 9) (.cons (.var 11) (.nil)))) <|
    .nil) (.nil)) <|
    .nil)) <|
    .nil) (.nil)) <|
    .nil)) <|
    .nil)) <|
    .cons (.ret (.var 3)) <|
    .nil
def b_window : Ss :=
    .cons (.for_ (.nm 2) (.rng2 (.cst (.int 1)) (.bi .len (.cons (.var 1) (.nil)))) (.cons (.for_ (.nm 3) (.rng1 (.bin .Sub (.bi .len (.cons (.var 1) (.nil))) (.var 2))) (.cons (.ite (.bop true (.cons (.cmp .NotEq (.idx (.var 1) (.var 3)) (.idx (.var 1) (.bin .Add (.var 3) (.var 2)))) (.cons (.not (.call "may_pass" 0 (.cons (.var 0) (.cons (.idx (.var 1) (.var 3)) (.cons (.idx (.var 1) (.bin .Add (.var 3) (.var 2))) (.nil)))))) (.nil)))) (.cons (.ret (.bin .Sub (.var 2) (.cst (.int 1)))) <|
    .nil) (.nil)) <|
    .nil)) <|
    .nil)) <|
    .cons (.ret (.bi .len (.cons (.var 1) (.nil)))) <|
    .nil
def b_law_start : Ss :=
    .cons (.ret (.own (.disp (.cons (.own (.listOf (.var 0))) (.cons (.cst (.int 0)) (.cons (.cst (.int 0)) (.cons (.cst (.int 0)) (.nil)))))))) <|
    .nil
def b_law_draw : Ss :=
    .cons (.sub (.var 0) (.cst (.int 3)) (.bin .Add (.idx (.var 0) (.cst (.int 3))) (.cst (.int 1)))) <|
    .cons (.ite (.cmp .Gt (.idx (.var 0) (.cst (.int 2))) (.cst (.int 0))) (.cons (.asg (.nm 2) (.bin .Mod (.bi .int (.cons (.idx (.var 0) (.cst (.int 2))) (.nil))) (.var 1))) <|
    .cons (.sub (.var 0) (.cst (.int 2)) (.bin .FloorDiv (.idx (.var 0) (.cst (.int 2))) (.var 1))) <|
    .cons (.ret (.var 2)) <|
    .nil) (.nil)) <|
    .cons (.asg (.nm 3) (.cst (.int 0))) <|
    .cons (.ite (.cmp .Gt (.bi .len (.cons (.idx (.var 0) (.cst (.int 0))) (.nil))) (.cst (.int 0))) (.cons (.asg (.nm 3) (.bi .abs (.cons (.idx (.idx (.var 0) (.cst (.int 0))) (.bin .Mod (.bi .int (.cons (.idx (.var 0) (.cst (.int 1))) (.nil))) (.bi .len (.cons (.idx (.var 0) (.cst (.int 0))) (.nil))))) (.nil)))) <|
    .nil) (.nil)) <|
    .cons (.sub (.var 0) (.cst (.int 1)) (.bin .Add (.idx (.var 0) (.cst (.int 1))) (.cst (.int 1)))) <|
    .cons (.ite (.cmp .GtE (.var 3) (.bin .Pow (.cst (.int 10)) (.cst (.int 18)))) (.cons (.sub (.var 0) (.cst (.int 2)) (.bin .FloorDiv (.var 3) (.var 1))) <|
    .cons (.ret (.bin .Mod (.bi .int (.cons (.var 3) (.nil))) (.var 1))) <|
    .nil) (.nil)) <|
    .cons (.asg (.nm 4) (.bin .Mod (.bi .int (.cons (.bin .Add (.bin .Mult (.bin .Add (.var 3) (.cst (.int 1))) (.cst (.int 48271))) (.bin .Mult (.idx (.var 0) (.cst (.int 3))) (.cst (.int 69621)))) (.nil))) (.cst (.int 2147483647)))) <|
    .cons (.asg (.nm 4) (.bin .Mod (.bi .int (.cons (.bin .Add (.bin .Add (.bin .Mult (.var 4) (.cst (.int 16807))) (.bin .FloorDiv (.var 3) (.cst (.int 97)))) (.idx (.var 0) (.cst (.int 3)))) (.nil))) (.cst (.int 2147483629)))) <|
    .cons (.ret (.bin .Mod (.bin .FloorDiv (.var 4) (.cst (.int 11))) (.var 1))) <|
    .nil
def b_law_free_of : Ss :=
    .cons (.asg (.nm 2) (.own (.disp (.nil)))) <|
    .cons (.for_ (.nm 3) (.rng1 (.bi .len (.cons (.var 1) (.nil)))) (.cons (.asg (.nm 2) (.own (.catE (.var 2) (.comp [4] (.tup (.cons (.idx (.var 1) (.var 3)) (.cons (.idx (.var 1) (.var 4)) (.nil)))) (.nm 4) (.rng2 (.bin .Add (.var 3) (.cst (.int 1))) (.bi .len (.cons (.var 1) (.nil)))) (.cons (.cmp .Eq (.call "_law_draw" 8 (.cons (.var 0) (.cons (.cst (.int 2)) (.nil)))) (.cst (.int 0))) (.nil)))))) <|
    .nil)) <|
    .cons (.ret (.tupL (.sortE (.var 2)))) <|
    .nil
def b_law_one_of : Ss :=
    .cons (.ret (.idx (.var 1) (.call "_law_draw" 8 (.cons (.var 0) (.cons (.bi .len (.cons (.var 1) (.nil))) (.nil)))))) <|
    .nil
def b_law_some_mixes : Ss :=
    .cons (.asg (.nm 1) (.own (.disp (.cons (.tup (.cons (.tup (.nil)) (.cons (.tupL (.rep (.disp (.cons (.cst (.int 0)) (.nil))) (.bi .len (.cons (.var 0) (.nil))))) (.nil)))) (.nil))))) <|
    .cons (.for_ (.nm 2) (.rng1 (.sumL (.comp [3] (.bi .len (.cons (.var 3) (.nil))) (.nm 3) (.ofE (.var 0)) (.nil)))) (.cons (.asg (.nm 4) (.own (.disp (.nil)))) <|
    .cons (.for_ (.tup (.cons (.nm 5) (.cons (.nm 6) (.nil)))) (.ofE (.var 1)) (.cons (.for_ (.nm 7) (.rng1 (.bi .len (.cons (.var 0) (.nil)))) (.cons (.ite (.cmp .Lt (.idx (.var 6) (.var 7)) (.bi .len (.cons (.idx (.var 0) (.var 7)) (.nil)))) (.cons (.asg (.nm 8) (.bin .Add (.bin .Add (.slc (.var 6) (.cst .non) (.var 7)) (.tup (.cons (.bin .Add (.idx (.var 6) (.var 7)) (.cst (.int 1))) (.nil)))) (.slc (.var 6) (.bin .Add (.var 7) (.cst (.int 1))) (.cst .non)))) <|
    .cons (.ite (.cmp .NotIn (.tup (.cons (.bin .Add (.var 5) (.tup (.cons (.idx (.idx (.var 0) (.var 7)) (.idx (.var 6) (.var 7))) (.nil)))) (.cons (.var 8) (.nil)))) (.var 4)) (.cons (.ex (.bm .append (.var 4) (.cons (.tup (.cons (.bin .Add (.var 5) (.tup (.cons (.idx (.idx (.var 0) (.var 7)) (.idx (.var 6) (.var 7))) (.nil)))) (.cons (.var 8) (.nil)))) (.nil)))) <|
    .nil) (.nil)) <|
    .nil) (.nil)) <|
    .nil)) <|
    .nil)) <|
    .cons (.asg (.nm 1) (.var 4)) <|
    .nil)) <|
    .cons (.ret (.own (.comp [5, 6] (.var 5) (.tup (.cons (.nm 5) (.cons (.nm 6) (.nil)))) (.ofE (.var 1)) (.nil)))) <|
    .nil
def b_law_passes : Ss :=
    .cons (.ret (.bop true (.cons (.cmp .NotEq (.var 1) (.var 2)) (.cons (.cmp .In (.tup (.cons (.bi .min2 (.cons (.var 1) (.cons (.var 2) (.nil)))) (.cons (.bi .max2 (.cons (.var 1) (.cons (.var 2) (.nil)))) (.nil)))) (.var 0)) (.nil))))) <|
    .nil
def b_law_trace : Ss :=
    .cons (.asg (.nm 2) (.own (.disp (.cons (.var 1) (.nil))))) <|
    .cons (.for_ (.nm 3) (.rng1 (.cst (.int 5000))) (.cons (.ite (.cmp .Eq (.var 3) (.bi .len (.cons (.var 2) (.nil)))) (.cons (.ret (.var 2)) <|
    .nil) (.nil)) <|
    .cons (.for_ (.nm 4) (.rng1 (.bin .Sub (.bi .len (.cons (.var 1) (.nil))) (.cst (.int 1)))) (.cons (.asg (.nm 5) (.idx (.var 2) (.var 3))) <|
    .cons (.ite (.call "_law_passes" 12 (.cons (.var 0) (.cons (.idx (.var 5) (.var 4)) (.cons (.idx (.var 5) (.bin .Add (.var 4) (.cst (.int 1)))) (.nil))))) (.cons (.asg (.nm 6) (.bin .Add (.bin .Add (.slc (.var 5) (.cst .non) (.var 4)) (.tup (.cons (.idx (.var 5) (.bin .Add (.var 4) (.cst (.int 1)))) (.cons (.idx (.var 5) (.var 4)) (.nil))))) (.slc (.var 5) (.bin .Add (.var 4) (.cst (.int 2))) (.cst .non)))) <|
    .cons (.ite (.cmp .NotIn (.var 6) (.var 2)) (.cons (.ex (.bm .append (.var 2) (.cons (.var 6) (.nil)))) <|
    .nil) (.nil)) <|
    .nil) (.nil)) <|
    .nil)) <|
    .nil)) <|
    .cons (.ret (.var 2)) <|
    .nil
def b_law_is_int : Ss :=
    .cons (.ret (.bop true (.cons (.isi (.var 0) .int) (.cons (.not (.isi (.var 0) .bool)) (.nil))))) <|
    .nil
def b_law_same : Ss :=
    .cons (.ite (.isi (.var 1) .tuple) (.cons (.ite (.bop false (.cons (.not (.isi (.var 0) .tuple)) (.cons (.cmp .NotEq (.bi .len (.cons (.var 0) (.nil))) (.bi .len (.cons (.var 1) (.nil)))) (.nil)))) (.cons (.ret (.cst (.bl false))) <|
    .nil) (.nil)) <|
    .cons (.ret (.allL (.comp [2] (.call "_law_same" 15 (.cons (.idx (.var 0) (.var 2)) (.cons (.idx (.var 1) (.var 2)) (.nil)))) (.nm 2) (.rng1 (.bi .len (.cons (.var 1) (.nil)))) (.nil)))) <|
    .nil) (.nil)) <|
    .cons (.ite (.isi (.var 1) .str) (.cons (.ret (.bop true (.cons (.isi (.var 0) .str) (.cons (.cmp .Eq (.var 0) (.var 1)) (.nil))))) <|
    .nil) (.nil)) <|
    .cons (.ret (.bop true (.cons (.call "_law_is_int" 14 (.cons (.var 0) (.nil))) (.cons (.cmp .Eq (.var 0) (.var 1)) (.nil))))) <|
    .nil
def b_law : Ss :=
    .cons (.asg (.nm 1) (.call "_law_start" 7 (.cons (.var 0) (.nil)))) <|
    .cons (.asg (.nm 3) (.own (.comp [2] (.tup (.cons (.var 2) (.cons (.call "_law_draw" 8 (.cons (.var 1) (.cons (.cst (.int 3)) (.nil)))) (.nil)))) (.nm 2) (.rng1 (.cst (.int 4))) (.nil)))) <|
    .cons (.asg (.nm 4) (.call "_law_free_of" 9 (.cons (.var 1) (.cons (.var 3) (.nil))))) <|
    .cons (.asg (.nm 5) (.own (.disp (.nil)))) <|
    .cons (.for_ (.nm 2) (.rng1 (.bin .Add (.cst (.int 1)) (.call "_law_draw" 8 (.cons (.var 1) (.cons (.cst (.int 3)) (.nil)))))) (.cons (.ex (.bm .append (.var 5) (.cons (.tupL (.comp [6] (.call "_law_one_of" 10 (.cons (.var 1) (.cons (.var 3) (.nil)))) (.nm 6) (.rng1 (.call "_law_draw" 8 (.cons (.var 1) (.cons (.cst (.int 3)) (.nil))))) (.nil))) (.nil)))) <|
    .nil)) <|
    .cons (.asg (.nm 5) (.bi .tupOf (.cons (.var 5) (.nil)))) <|
    .cons (.asg (.nm 7) (.own (.disp (.nil)))) <|
    .cons (.asg (.nm 8) (.own (.disp (.nil)))) <|
    .cons (.for_ (.nm 9) (.ofE (.call "_law_some_mixes" 11 (.cons (.var 5) (.nil)))) (.cons (.ite (.cmp .NotIn (.var 9) (.var 8)) (.cons (.asg (.nm 10) (.call "_law_trace" 13 (.cons (.var 4) (.cons (.var 9) (.nil))))) <|
    .cons (.asg (.nm 8) (.own (.catEE (.var 8) (.var 10)))) <|
    .cons (.ex (.bm .append (.var 7) (.cons (.bi .min1 (.cons (.var 10) (.nil))) (.nil)))) <|
    .nil) (.nil)) <|
    .nil)) <|
    .cons (.ite (.not (.call "_law_same" 15 (.cons (.call "mixed_traces" 4 (.cons (.var 4) (.cons (.var 5) (.nil)))) (.cons (.tupL (.sortE (.var 7))) (.nil))))) (.cons (.ret (.cst (.bl false))) <|
    .nil) (.nil)) <|
    .cons (.for_ (.nm 11) (.rng1 (.cst (.int 3))) (.cons (.asg (.nm 12) (.tupL (.comp [2] (.call "_law_one_of" 10 (.cons (.var 1) (.cons (.var 3) (.nil)))) (.nm 2) (.rng1 (.call "_law_draw" 8 (.cons (.var 1) (.cons (.cst (.int 7)) (.nil))))) (.nil)))) <|
    .cons (.asg (.nm 13) (.bi .len (.cons (.var 12) (.nil)))) <|
    .cons (.for_ (.nm 14) (.rng1 (.bi .len (.cons (.var 12) (.nil)))) (.cons (.for_ (.nm 6) (.rng2 (.bin .Add (.var 14) (.cst (.int 1))) (.bi .len (.cons (.var 12) (.nil)))) (.cons (.ite (.bop true (.cons (.cmp .NotEq (.idx (.var 12) (.var 14)) (.idx (.var 12) (.var 6))) (.cons (.not (.call "_law_passes" 12 (.cons (.var 4) (.cons (.idx (.var 12) (.var 14)) (.cons (.idx (.var 12) (.var 6)) (.nil)))))) (.nil)))) (.cons (.asg (.nm 13) (.bi .min2 (.cons (.var 13) (.cons (.bin .Sub (.bin .Sub (.var 6) (.var 14)) (.cst (.int 1))) (.nil))))) <|
    .nil) (.nil)) <|
    .nil)) <|
    .nil)) <|
    .cons (.ite (.not (.call "_law_same" 15 (.cons (.call "window" 6 (.cons (.var 4) (.cons (.var 12) (.nil)))) (.cons (.var 13) (.nil))))) (.cons (.ret (.cst (.bl false))) <|
    .nil) (.nil)) <|
    .nil)) <|
    .cons (.ret (.cst (.bl true))) <|
    .nil
def b_Counter_init : Ss :=
    .cons (.fst (.var 0) "row" (.var 2)) <|
    .cons (.fst (.var 0) "back" (.call "holds_back" 1 (.cons (.var 1) (.cons (.var 2) (.nil))))) <|
    .cons (.fst (.var 0) "known" (.dnew true)) <|
    .nil
def b_Counter_ready : Ss :=
    .cons (.asg (.nm 2) (.own (.disp (.nil)))) <|
    .cons (.for_ (.tup (.cons (.nm 3) (.cons (.nm 4) (.nil)))) (.enm (.fld (.var 0) "back")) (.cons (.ite (.bop true (.cons (.cmp .NotIn (.var 3) (.var 1)) (.cons (.allL (.comp [5] (.cmp .In (.var 5) (.var 1)) (.nm 5) (.ofE (.var 4)) (.nil))) (.nil)))) (.cons (.ex (.bm .append (.var 2) (.cons (.var 3) (.nil)))) <|
    .nil) (.nil)) <|
    .nil)) <|
    .cons (.ret (.own (.sortK 0 [67, 111, 117, 110, 116, 101, 114, 46, 114, 101, 97, 100, 121, 46, 60, 108, 111, 99, 97, 108, 115, 62, 46, 60, 108, 97, 109, 98, 100, 97, 62] (.var 2) 3 (.idx (.fld (.var 0) "row") (.var 3))))) <|
    .nil
def b_Counter_many : Ss :=
    .cons (.ite (.cmp .NotIn (.var 1) (.fld (.var 0) "known")) (.cons (.ite (.cmp .Eq (.bi .len (.cons (.var 1) (.nil))) (.bi .len (.cons (.fld (.var 0) "row") (.nil)))) (.cons (.sub (.fld (.var 0) "known") (.var 1) (.cst (.int 1))) <|
    .nil) (.cons (.sub (.fld (.var 0) "known") (.var 1) (.sumL (.comp [2] (.meth (.var 0) "many" (.cons (.call "with_place" 2 (.cons (.var 1) (.cons (.var 2) (.nil)))) (.nil))) (.nm 2) (.ofE (.meth (.var 0) "ready" (.cons (.var 1) (.nil)))) (.nil)))) <|
    .nil)) <|
    .nil) (.nil)) <|
    .cons (.ret (.idx (.fld (.var 0) "known") (.var 1))) <|
    .nil
def e0 : Ent := ⟨"may_pass", "may_pass", top 1, ["free", "one", "other"], ["free", "one", "other"], b_may_pass⟩
def e1 : Ent := ⟨"holds_back", "holds_back", top 2, ["free", "row", "found", "place", "item", "other"], ["free", "row"], b_holds_back⟩
def e2 : Ent := ⟨"with_place", "with_place", top 4, ["taken", "place"], ["taken", "place"], b_with_place⟩
def e3 : Ent := ⟨"row_at", "row_at", top 5, ["free", "row", "number", "counter", "taken", "found", "turn", "place", "size"], ["free", "row", "number"], b_row_at⟩
def e4 : Ent := ⟨"mixed_traces", "mixed_traces", top 7, ["free", "rows", "row", "start", "layer", "turn", "found", "ways"], ["free", "rows"], b_mixed_traces⟩
def e5 : Ent := ⟨"mixed_further", "mixed_further", top 8, ["free", "rows", "layer", "found", "places", "ways", "number", "row", "after", "known", "way", "least"], ["free", "rows", "layer"], b_mixed_further⟩
def e6 : Ent := ⟨"window", "window", top 9, ["free", "row", "size", "place"], ["free", "row"], b_window⟩
def e7 : Ent := ⟨"_law_start", "_law_start", top 11, ["script"], ["script"], b_law_start⟩
def e8 : Ent := ⟨"_law_draw", "_law_draw", top 12, ["state", "most", "found", "cell", "mixed"], ["state", "most"], b_law_draw⟩
def e9 : Ent := ⟨"_law_free_of", "_law_free_of", top 13, ["state", "items", "found", "i", "j"], ["state", "items"], b_law_free_of⟩
def e10 : Ent := ⟨"_law_one_of", "_law_one_of", top 14, ["state", "items"], ["state", "items"], b_law_one_of⟩
def e11 : Ent := ⟨"_law_some_mixes", "_law_some_mixes", top 15, ["rows", "found", "turn", "row", "more", "way", "places", "k", "after"], ["rows"], b_law_some_mixes⟩
def e12 : Ent := ⟨"_law_passes", "_law_passes", top 16, ["free", "one", "other"], ["free", "one", "other"], b_law_passes⟩
def e13 : Ent := ⟨"_law_trace", "_law_trace", top 17, ["free", "row", "found", "turn", "k", "one", "other"], ["free", "row"], b_law_trace⟩
def e14 : Ent := ⟨"_law_is_int", "_law_is_int", top 18, ["x"], ["x"], b_law_is_int⟩
def e15 : Ent := ⟨"_law_same", "_law_same", top 19, ["x", "y", "k"], ["x", "y"], b_law_same⟩
def e16 : Ent := ⟨"law", "law", top 20, ["script", "state", "k", "items", "free", "rows", "j", "due", "known", "way", "trace", "turn", "row", "size", "i"], ["script"], b_law⟩
def e17 : Ent := ⟨"__init__", "Counter.__init__", inClass (top 3) 0, ["self", "free", "row"], ["self", "free", "row"], b_Counter_init⟩
def e18 : Ent := ⟨"ready", "Counter.ready", inClass (top 3) 1, ["self", "taken", "found", "place", "back", "other"], ["self", "taken"], b_Counter_ready⟩
def e19 : Ent := ⟨"many", "Counter.many", inClass (top 3) 2, ["self", "taken", "place"], ["self", "taken"], b_Counter_many⟩
def P : Prog where
  ents := [e0, e1, e2, e3, e4, e5, e6, e7, e8, e9, e10, e11, e12, e13, e14, e15, e16, e17, e18, e19]
  gs := []
  bs := ["min", "max", "enumerate", "tuple", "range", "sorted", "len", "sum", "list", "int", "abs", "isinstance", "bool", "all", "str"]
  flds := ["row", "back", "known"]
  ks := [("Counter", 0)]
  meths := [((0, "ready"), 18), ((0, "many"), 19)]
  inits := [(0, 17)]
  tabs := [[67, 111, 117, 110, 116, 101, 114, 46, 114, 101, 97, 100, 121, 46, 60, 108, 111, 99, 97, 108, 115, 62, 46, 60, 108, 97, 109, 98, 100, 97, 62]]
theorem ok_all : ∀ e ∈ P.ents, e.ok P = true := List.all_eq_true.mp (by decide +kernel : (P.ents.all fun e => e.ok P) = true)
end K53

set_option Elab.async false
set_option linter.all false
set_option maxRecDepth 100000
set_option maxHeartbeats 4000000
namespace K53
open PySem PySem.Spec PyProof.Rows PL L2
theorem all_mk {pr : Program} {w : World} {K : PySem.W.Frag} {h : Heap} {mg : Str → Option Value} {fa : Addr} (X : K.In h) (G : h.Ns mainGlobals mg) (hfa : mg "law" = some (.ref fa))
    {f1 f2 f3 f4 f5 f6 f7 f8 f9 f10 f11 f12 f13 f14 f15 f16 f17 f18 f19 f20 cd19 P19 : Addr} {od1 an1 od2 an2 od3 an3 od4 an4 od5 an5 od6 an6 od7 an7 od8 an8 od9 an9 od10 an10 od11 an11 od12 an12 od13 an13 od14 an14 od15 an15 od16 an16 od17 an17 od18 an18 od19 an19 od20 an20 : Option Addr} {sl1 sl2 sl3 sl4 sl5 sl6 sl7 sl8 sl9 sl10 sl11 sl12 sl13 sl14 sl15 sl16 sl17 sl18 sl19 sl20 : Array (Option Value)} {oc1 kV1 dc1 pm1 ct1 cd1 oc2 kV2 dc2 pm2 ct2 cd2 oc3 kV3 dc3 pm3 ct3 cd3 oc4 kV4 dc4 pm4 ct4 cd4 oc5 kV5 dc5 pm5 ct5 cd5 oc6 kV6 dc6 pm6 ct6 cd6 oc7 kV7 dc7 pm7 ct7 cd7 oc8 kV8 dc8 pm8 ct8 cd8 oc9 kV9 dc9 pm9 ct9 cd9 oc10 kV10 dc10 pm10 ct10 cd10 oc11 kV11 dc11 pm11 ct11 cd11 oc12 kV12 dc12 pm12 ct12 cd12 oc13 kV13 dc13 pm13 ct13 cd13 oc14 kV14 dc14 pm14 ct14 cd14 oc15 kV15 dc15 pm15 ct15 cd15 oc16 kV16 dc16 pm16 ct16 cd16 oc17 kV17 dc17 pm17 ct17 cd17 oc18 kV18 dc18 pm18 ct18 cd18 oc19 kV19 dc19 pm19 ct19 oc20 kV20 dc20 pm20 ct20 cd20 : Value} {C1 : Addr}
    (cg1 : PySem.W.nsIn K mainGlobals "Counter" = some (some (.ref C1))) (pg1 : PySem.W.plainGet K C1 Str.empty = true) (hd1 : PySem.W.hasDictIn K C1 = true) (po1 : PySem.W.plainOver K C1 = true) (sa1 : PySem.W.findIn K (.ref C1) "__setattr__" = some (some (.builtin "object.__setattr__"))) (mk1 : PySem.W.makesIn K C1 = true) (kp1 : PySem.W.keepIn K (.ref C1) = true)
    (na1_0 : PySem.W.findIn K (.ref C1) "row" = some none)
    (na1_1 : PySem.W.findIn K (.ref C1) "back" = some none)
    (na1_2 : PySem.W.findIn K (.ref C1) "known" = some none)
    (a1 : PySem.W.nsIn K mainGlobals "may_pass" = some (some (.ref f1)))
    (l1 : K.lookup f1 = some ⟨oc1, od1, .func (PySem.W.fnOf "may_pass" "may_pass" (defArgs (top 1)) (defBody (top 1)) (defScope (top 1)) .none kV1 dc1 pm1 an1 cd1 ct1), sl1⟩) (c1 : PySem.W.codeIn K cd1 "may_pass" = true) (k1 : PySem.W.keepIn K (.ref f1) = true)
    (a2 : PySem.W.nsIn K mainGlobals "holds_back" = some (some (.ref f2)))
    (l2 : K.lookup f2 = some ⟨oc2, od2, .func (PySem.W.fnOf "holds_back" "holds_back" (defArgs (top 2)) (defBody (top 2)) (defScope (top 2)) .none kV2 dc2 pm2 an2 cd2 ct2), sl2⟩) (c2 : PySem.W.codeIn K cd2 "holds_back" = true) (k2 : PySem.W.keepIn K (.ref f2) = true)
    (a3 : PySem.W.nsIn K mainGlobals "with_place" = some (some (.ref f3)))
    (l3 : K.lookup f3 = some ⟨oc3, od3, .func (PySem.W.fnOf "with_place" "with_place" (defArgs (top 4)) (defBody (top 4)) (defScope (top 4)) .none kV3 dc3 pm3 an3 cd3 ct3), sl3⟩) (c3 : PySem.W.codeIn K cd3 "with_place" = true) (k3 : PySem.W.keepIn K (.ref f3) = true)
    (a4 : PySem.W.nsIn K mainGlobals "row_at" = some (some (.ref f4)))
    (l4 : K.lookup f4 = some ⟨oc4, od4, .func (PySem.W.fnOf "row_at" "row_at" (defArgs (top 5)) (defBody (top 5)) (defScope (top 5)) .none kV4 dc4 pm4 an4 cd4 ct4), sl4⟩) (c4 : PySem.W.codeIn K cd4 "row_at" = true) (k4 : PySem.W.keepIn K (.ref f4) = true)
    (a5 : PySem.W.nsIn K mainGlobals "mixed_traces" = some (some (.ref f5)))
    (l5 : K.lookup f5 = some ⟨oc5, od5, .func (PySem.W.fnOf "mixed_traces" "mixed_traces" (defArgs (top 7)) (defBody (top 7)) (defScope (top 7)) .none kV5 dc5 pm5 an5 cd5 ct5), sl5⟩) (c5 : PySem.W.codeIn K cd5 "mixed_traces" = true) (k5 : PySem.W.keepIn K (.ref f5) = true)
    (a6 : PySem.W.nsIn K mainGlobals "mixed_further" = some (some (.ref f6)))
    (l6 : K.lookup f6 = some ⟨oc6, od6, .func (PySem.W.fnOf "mixed_further" "mixed_further" (defArgs (top 8)) (defBody (top 8)) (defScope (top 8)) .none kV6 dc6 pm6 an6 cd6 ct6), sl6⟩) (c6 : PySem.W.codeIn K cd6 "mixed_further" = true) (k6 : PySem.W.keepIn K (.ref f6) = true)
    (a7 : PySem.W.nsIn K mainGlobals "window" = some (some (.ref f7)))
    (l7 : K.lookup f7 = some ⟨oc7, od7, .func (PySem.W.fnOf "window" "window" (defArgs (top 9)) (defBody (top 9)) (defScope (top 9)) .none kV7 dc7 pm7 an7 cd7 ct7), sl7⟩) (c7 : PySem.W.codeIn K cd7 "window" = true) (k7 : PySem.W.keepIn K (.ref f7) = true)
    (a8 : PySem.W.nsIn K mainGlobals "_law_start" = some (some (.ref f8)))
    (l8 : K.lookup f8 = some ⟨oc8, od8, .func (PySem.W.fnOf "_law_start" "_law_start" (defArgs (top 11)) (defBody (top 11)) (defScope (top 11)) .none kV8 dc8 pm8 an8 cd8 ct8), sl8⟩) (c8 : PySem.W.codeIn K cd8 "_law_start" = true) (k8 : PySem.W.keepIn K (.ref f8) = true)
    (a9 : PySem.W.nsIn K mainGlobals "_law_draw" = some (some (.ref f9)))
    (l9 : K.lookup f9 = some ⟨oc9, od9, .func (PySem.W.fnOf "_law_draw" "_law_draw" (defArgs (top 12)) (defBody (top 12)) (defScope (top 12)) .none kV9 dc9 pm9 an9 cd9 ct9), sl9⟩) (c9 : PySem.W.codeIn K cd9 "_law_draw" = true) (k9 : PySem.W.keepIn K (.ref f9) = true)
    (a10 : PySem.W.nsIn K mainGlobals "_law_free_of" = some (some (.ref f10)))
    (l10 : K.lookup f10 = some ⟨oc10, od10, .func (PySem.W.fnOf "_law_free_of" "_law_free_of" (defArgs (top 13)) (defBody (top 13)) (defScope (top 13)) .none kV10 dc10 pm10 an10 cd10 ct10), sl10⟩) (c10 : PySem.W.codeIn K cd10 "_law_free_of" = true) (k10 : PySem.W.keepIn K (.ref f10) = true)
    (a11 : PySem.W.nsIn K mainGlobals "_law_one_of" = some (some (.ref f11)))
    (l11 : K.lookup f11 = some ⟨oc11, od11, .func (PySem.W.fnOf "_law_one_of" "_law_one_of" (defArgs (top 14)) (defBody (top 14)) (defScope (top 14)) .none kV11 dc11 pm11 an11 cd11 ct11), sl11⟩) (c11 : PySem.W.codeIn K cd11 "_law_one_of" = true) (k11 : PySem.W.keepIn K (.ref f11) = true)
    (a12 : PySem.W.nsIn K mainGlobals "_law_some_mixes" = some (some (.ref f12)))
    (l12 : K.lookup f12 = some ⟨oc12, od12, .func (PySem.W.fnOf "_law_some_mixes" "_law_some_mixes" (defArgs (top 15)) (defBody (top 15)) (defScope (top 15)) .none kV12 dc12 pm12 an12 cd12 ct12), sl12⟩) (c12 : PySem.W.codeIn K cd12 "_law_some_mixes" = true) (k12 : PySem.W.keepIn K (.ref f12) = true)
    (a13 : PySem.W.nsIn K mainGlobals "_law_passes" = some (some (.ref f13)))
    (l13 : K.lookup f13 = some ⟨oc13, od13, .func (PySem.W.fnOf "_law_passes" "_law_passes" (defArgs (top 16)) (defBody (top 16)) (defScope (top 16)) .none kV13 dc13 pm13 an13 cd13 ct13), sl13⟩) (c13 : PySem.W.codeIn K cd13 "_law_passes" = true) (k13 : PySem.W.keepIn K (.ref f13) = true)
    (a14 : PySem.W.nsIn K mainGlobals "_law_trace" = some (some (.ref f14)))
    (l14 : K.lookup f14 = some ⟨oc14, od14, .func (PySem.W.fnOf "_law_trace" "_law_trace" (defArgs (top 17)) (defBody (top 17)) (defScope (top 17)) .none kV14 dc14 pm14 an14 cd14 ct14), sl14⟩) (c14 : PySem.W.codeIn K cd14 "_law_trace" = true) (k14 : PySem.W.keepIn K (.ref f14) = true)
    (a15 : PySem.W.nsIn K mainGlobals "_law_is_int" = some (some (.ref f15)))
    (l15 : K.lookup f15 = some ⟨oc15, od15, .func (PySem.W.fnOf "_law_is_int" "_law_is_int" (defArgs (top 18)) (defBody (top 18)) (defScope (top 18)) .none kV15 dc15 pm15 an15 cd15 ct15), sl15⟩) (c15 : PySem.W.codeIn K cd15 "_law_is_int" = true) (k15 : PySem.W.keepIn K (.ref f15) = true)
    (a16 : PySem.W.nsIn K mainGlobals "_law_same" = some (some (.ref f16)))
    (l16 : K.lookup f16 = some ⟨oc16, od16, .func (PySem.W.fnOf "_law_same" "_law_same" (defArgs (top 19)) (defBody (top 19)) (defScope (top 19)) .none kV16 dc16 pm16 an16 cd16 ct16), sl16⟩) (c16 : PySem.W.codeIn K cd16 "_law_same" = true) (k16 : PySem.W.keepIn K (.ref f16) = true)
    (a17 : PySem.W.nsIn K mainGlobals "law" = some (some (.ref f17)))
    (l17 : K.lookup f17 = some ⟨oc17, od17, .func (PySem.W.fnOf "law" "law" (defArgs (top 20)) (defBody (top 20)) (defScope (top 20)) .none kV17 dc17 pm17 an17 cd17 ct17), sl17⟩) (c17 : PySem.W.codeIn K cd17 "law" = true) (k17 : PySem.W.keepIn K (.ref f17) = true)
    (a18 : PySem.W.findIn K (.ref C1) "__init__" = some (some (.ref f18))) (n18 : PySem.W.isFn K (.ref f18) = true)
    (l18 : K.lookup f18 = some ⟨oc18, od18, .func (PySem.W.fnOf "__init__" "Counter.__init__" (defArgs (inClass (top 3) 0)) (defBody (inClass (top 3) 0)) (defScope (inClass (top 3) 0)) .none kV18 dc18 pm18 an18 cd18 ct18), sl18⟩) (c18 : PySem.W.codeIn K cd18 "Counter.__init__" = true) (k18 : PySem.W.keepIn K (.ref f18) = true)
    (a19 : PySem.W.findIn K (.ref C1) "ready" = some (some (.ref f19))) (n19 : PySem.W.isFn K (.ref f19) = true)
    (l19 : K.lookup f19 = some ⟨oc19, od19, .func (PySem.W.fnOf "ready" "Counter.ready" (defArgs (inClass (top 3) 1)) (defBody (inClass (top 3) 1)) (defScope (inClass (top 3) 1)) .none kV19 dc19 pm19 an19 (.ref cd19) ct19), sl19⟩) (c19 : PySem.W.codeIn K (.ref cd19) "Counter.ready" = true) (k19 : PySem.W.keepIn K (.ref f19) = true)
    (hh19 : PySem.W.codeHdIn K cd19 P19 = true) (hn19 : K.lookup P19 = none) (ht19 : h.get? P19 = some { cls := .none, data := .fields #[] })
    (a20 : PySem.W.findIn K (.ref C1) "many" = some (some (.ref f20))) (n20 : PySem.W.isFn K (.ref f20) = true)
    (l20 : K.lookup f20 = some ⟨oc20, od20, .func (PySem.W.fnOf "many" "Counter.many" (defArgs (inClass (top 3) 2)) (defBody (inClass (top 3) 2)) (defScope (inClass (top 3) 2)) .none kV20 dc20 pm20 an20 cd20 ct20), sl20⟩) (c20 : PySem.W.codeIn K cd20 "Counter.many" = true) (k20 : PySem.W.keepIn K (.ref f20) = true)
    (z1 : PySem.W.nsIn K mainGlobals "min" = some none)
    (z2 : PySem.W.nsIn K mainGlobals "max" = some none)
    (z3 : PySem.W.nsIn K mainGlobals "enumerate" = some none)
    (z4 : PySem.W.nsIn K mainGlobals "tuple" = some none)
    (z5 : PySem.W.nsIn K mainGlobals "range" = some none)
    (z6 : PySem.W.nsIn K mainGlobals "sorted" = some none)
    (z7 : PySem.W.nsIn K mainGlobals "len" = some none)
    (z8 : PySem.W.nsIn K mainGlobals "sum" = some none)
    (z9 : PySem.W.nsIn K mainGlobals "list" = some none)
    (z10 : PySem.W.nsIn K mainGlobals "int" = some none)
    (z11 : PySem.W.nsIn K mainGlobals "abs" = some none)
    (z12 : PySem.W.nsIn K mainGlobals "isinstance" = some none)
    (z13 : PySem.W.nsIn K mainGlobals "bool" = some none)
    (z14 : PySem.W.nsIn K mainGlobals "all" = some none)
    (z15 : PySem.W.nsIn K mainGlobals "str" = some none)
    (lev : Nat) : ∃ (fd : FuncData) (cs : List (Addr × Addr)) (ta : List Nat → Addr), cs.map (·.2) = P.tabs.map ta ∧ (P.tabs.map ta).Nodup ∧ (∀ p ∈ cs, h.get? p.2 = some { cls := .none, data := .fields #[] }) ∧ (∀ p ∈ cs, K.lookup p.2 = none) ∧ (∀ p ∈ cs, PySem.W.CodeHd h p.1 p.2) ∧ (∀ (s : Shared) (v : Value), BindsTo s fd ⟨[v], []⟩ [("script", v)]) ∧ ∀ base : Heap, K.In base → base.Ns mainGlobals mg → (∀ p ∈ cs, LamX.TabB base mg p.1 p.2) → FnOk pr w K mg base (L2.CX pr w) (lev + 5) fa fd ["script"] (spT K ta (callF P.pg lev 16)) := by
  have e := hfa.symm.trans (PySem.W.mg_of X G a17)
  cases e
  have F1 := fun_mk (st := top 1) l1 c1 k1
  have b1 := F1.binds (ps := ["free", "one", "other"]) fun _ _ _ _ _ _ us hl => match us, hl with | [_, _, _], _ => rfl
  have F2 := fun_mk (st := top 2) l2 c2 k2
  have b2 := F2.binds (ps := ["free", "row"]) fun _ _ _ _ _ _ us hl => match us, hl with | [_, _], _ => rfl
  have F3 := fun_mk (st := top 4) l3 c3 k3
  have b3 := F3.binds (ps := ["taken", "place"]) fun _ _ _ _ _ _ us hl => match us, hl with | [_, _], _ => rfl
  have F4 := fun_mk (st := top 5) l4 c4 k4
  have b4 := F4.binds (ps := ["free", "row", "number"]) fun _ _ _ _ _ _ us hl => match us, hl with | [_, _, _], _ => rfl
  have F5 := fun_mk (st := top 7) l5 c5 k5
  have b5 := F5.binds (ps := ["free", "rows"]) fun _ _ _ _ _ _ us hl => match us, hl with | [_, _], _ => rfl
  have F6 := fun_mk (st := top 8) l6 c6 k6
  have b6 := F6.binds (ps := ["free", "rows", "layer"]) fun _ _ _ _ _ _ us hl => match us, hl with | [_, _, _], _ => rfl
  have F7 := fun_mk (st := top 9) l7 c7 k7
  have b7 := F7.binds (ps := ["free", "row"]) fun _ _ _ _ _ _ us hl => match us, hl with | [_, _], _ => rfl
  have F8 := fun_mk (st := top 11) l8 c8 k8
  have b8 := F8.binds (ps := ["script"]) fun _ _ _ _ _ _ us hl => match us, hl with | [_], _ => rfl
  have F9 := fun_mk (st := top 12) l9 c9 k9
  have b9 := F9.binds (ps := ["state", "most"]) fun _ _ _ _ _ _ us hl => match us, hl with | [_, _], _ => rfl
  have F10 := fun_mk (st := top 13) l10 c10 k10
  have b10 := F10.binds (ps := ["state", "items"]) fun _ _ _ _ _ _ us hl => match us, hl with | [_, _], _ => rfl
  have F11 := fun_mk (st := top 14) l11 c11 k11
  have b11 := F11.binds (ps := ["state", "items"]) fun _ _ _ _ _ _ us hl => match us, hl with | [_, _], _ => rfl
  have F12 := fun_mk (st := top 15) l12 c12 k12
  have b12 := F12.binds (ps := ["rows"]) fun _ _ _ _ _ _ us hl => match us, hl with | [_], _ => rfl
  have F13 := fun_mk (st := top 16) l13 c13 k13
  have b13 := F13.binds (ps := ["free", "one", "other"]) fun _ _ _ _ _ _ us hl => match us, hl with | [_, _, _], _ => rfl
  have F14 := fun_mk (st := top 17) l14 c14 k14
  have b14 := F14.binds (ps := ["free", "row"]) fun _ _ _ _ _ _ us hl => match us, hl with | [_, _], _ => rfl
  have F15 := fun_mk (st := top 18) l15 c15 k15
  have b15 := F15.binds (ps := ["x"]) fun _ _ _ _ _ _ us hl => match us, hl with | [_], _ => rfl
  have F16 := fun_mk (st := top 19) l16 c16 k16
  have b16 := F16.binds (ps := ["x", "y"]) fun _ _ _ _ _ _ us hl => match us, hl with | [_, _], _ => rfl
  have F17 := fun_mk (st := top 20) l17 c17 k17
  have b17 := F17.binds (ps := ["script"]) fun _ _ _ _ _ _ us hl => match us, hl with | [_], _ => rfl
  have F18 := fun_mk (st := inClass (top 3) 0) l18 c18 k18
  have b18 := F18.binds (ps := ["self", "free", "row"]) fun _ _ _ _ _ _ us hl => match us, hl with | [_, _, _], _ => rfl
  have F19 := fun_mk (st := inClass (top 3) 1) l19 c19 k19
  have b19 := F19.binds (ps := ["self", "taken"]) fun _ _ _ _ _ _ us hl => match us, hl with | [_, _], _ => rfl
  have F20 := fun_mk (st := inClass (top 3) 2) l20 c20 k20
  have b20 := F20.binds (ps := ["self", "taken"]) fun _ _ _ _ _ _ us hl => match us, hl with | [_, _], _ => rfl
  let A : Ad := ⟨K, fun i => [f1, f2, f3, f4, f5, f6, f7, f8, f9, f10, f11, f12, f13, f14, f15, f16, fa, f18, f19, f20].getD i 0, fun i => [C1].getD i 0, true, pr, w, fun i => 0 ≤ i ∧ i < 1, fun _ => P19⟩
  have g1 : ∃ fd, Fun A.K e0.x e0.q e0.st (A.fa 0) fd ∧ Binds A.K fd e0.ps [] ∧ (e0.x = e0.q → mg e0.x = some (.ref (A.fa 0))) := ⟨_, F1, b1, fun _ => PySem.W.mg_of X G a1⟩
  have g2 : ∃ fd, Fun A.K e1.x e1.q e1.st (A.fa 1) fd ∧ Binds A.K fd e1.ps [] ∧ (e1.x = e1.q → mg e1.x = some (.ref (A.fa 1))) := ⟨_, F2, b2, fun _ => PySem.W.mg_of X G a2⟩
  have g3 : ∃ fd, Fun A.K e2.x e2.q e2.st (A.fa 2) fd ∧ Binds A.K fd e2.ps [] ∧ (e2.x = e2.q → mg e2.x = some (.ref (A.fa 2))) := ⟨_, F3, b3, fun _ => PySem.W.mg_of X G a3⟩
  have g4 : ∃ fd, Fun A.K e3.x e3.q e3.st (A.fa 3) fd ∧ Binds A.K fd e3.ps [] ∧ (e3.x = e3.q → mg e3.x = some (.ref (A.fa 3))) := ⟨_, F4, b4, fun _ => PySem.W.mg_of X G a4⟩
  have g5 : ∃ fd, Fun A.K e4.x e4.q e4.st (A.fa 4) fd ∧ Binds A.K fd e4.ps [] ∧ (e4.x = e4.q → mg e4.x = some (.ref (A.fa 4))) := ⟨_, F5, b5, fun _ => PySem.W.mg_of X G a5⟩
  have g6 : ∃ fd, Fun A.K e5.x e5.q e5.st (A.fa 5) fd ∧ Binds A.K fd e5.ps [] ∧ (e5.x = e5.q → mg e5.x = some (.ref (A.fa 5))) := ⟨_, F6, b6, fun _ => PySem.W.mg_of X G a6⟩
  have g7 : ∃ fd, Fun A.K e6.x e6.q e6.st (A.fa 6) fd ∧ Binds A.K fd e6.ps [] ∧ (e6.x = e6.q → mg e6.x = some (.ref (A.fa 6))) := ⟨_, F7, b7, fun _ => PySem.W.mg_of X G a7⟩
  have g8 : ∃ fd, Fun A.K e7.x e7.q e7.st (A.fa 7) fd ∧ Binds A.K fd e7.ps [] ∧ (e7.x = e7.q → mg e7.x = some (.ref (A.fa 7))) := ⟨_, F8, b8, fun _ => PySem.W.mg_of X G a8⟩
  have g9 : ∃ fd, Fun A.K e8.x e8.q e8.st (A.fa 8) fd ∧ Binds A.K fd e8.ps [] ∧ (e8.x = e8.q → mg e8.x = some (.ref (A.fa 8))) := ⟨_, F9, b9, fun _ => PySem.W.mg_of X G a9⟩
  have g10 : ∃ fd, Fun A.K e9.x e9.q e9.st (A.fa 9) fd ∧ Binds A.K fd e9.ps [] ∧ (e9.x = e9.q → mg e9.x = some (.ref (A.fa 9))) := ⟨_, F10, b10, fun _ => PySem.W.mg_of X G a10⟩
  have g11 : ∃ fd, Fun A.K e10.x e10.q e10.st (A.fa 10) fd ∧ Binds A.K fd e10.ps [] ∧ (e10.x = e10.q → mg e10.x = some (.ref (A.fa 10))) := ⟨_, F11, b11, fun _ => PySem.W.mg_of X G a11⟩
  have g12 : ∃ fd, Fun A.K e11.x e11.q e11.st (A.fa 11) fd ∧ Binds A.K fd e11.ps [] ∧ (e11.x = e11.q → mg e11.x = some (.ref (A.fa 11))) := ⟨_, F12, b12, fun _ => PySem.W.mg_of X G a12⟩
  have g13 : ∃ fd, Fun A.K e12.x e12.q e12.st (A.fa 12) fd ∧ Binds A.K fd e12.ps [] ∧ (e12.x = e12.q → mg e12.x = some (.ref (A.fa 12))) := ⟨_, F13, b13, fun _ => PySem.W.mg_of X G a13⟩
  have g14 : ∃ fd, Fun A.K e13.x e13.q e13.st (A.fa 13) fd ∧ Binds A.K fd e13.ps [] ∧ (e13.x = e13.q → mg e13.x = some (.ref (A.fa 13))) := ⟨_, F14, b14, fun _ => PySem.W.mg_of X G a14⟩
  have g15 : ∃ fd, Fun A.K e14.x e14.q e14.st (A.fa 14) fd ∧ Binds A.K fd e14.ps [] ∧ (e14.x = e14.q → mg e14.x = some (.ref (A.fa 14))) := ⟨_, F15, b15, fun _ => PySem.W.mg_of X G a15⟩
  have g16 : ∃ fd, Fun A.K e15.x e15.q e15.st (A.fa 15) fd ∧ Binds A.K fd e15.ps [] ∧ (e15.x = e15.q → mg e15.x = some (.ref (A.fa 15))) := ⟨_, F16, b16, fun _ => PySem.W.mg_of X G a16⟩
  have g17 : ∃ fd, Fun A.K e16.x e16.q e16.st (A.fa 16) fd ∧ Binds A.K fd e16.ps [] ∧ (e16.x = e16.q → mg e16.x = some (.ref (A.fa 16))) := ⟨_, F17, b17, fun _ => PySem.W.mg_of X G a17⟩
  have g18 : ∃ fd, Fun A.K e17.x e17.q e17.st (A.fa 17) fd ∧ Binds A.K fd e17.ps [] ∧ (e17.x = e17.q → mg e17.x = some (.ref (A.fa 17))) := ⟨_, F18, b18, fun z => absurd z (by decide)⟩
  have g19 : ∃ fd, Fun A.K e18.x e18.q e18.st (A.fa 18) fd ∧ Binds A.K fd e18.ps [] ∧ (e18.x = e18.q → mg e18.x = some (.ref (A.fa 18))) := ⟨_, F19, b19, fun z => absurd z (by decide)⟩
  have g20 : ∃ fd, Fun A.K e19.x e19.q e19.st (A.fa 19) fd ∧ Binds A.K fd e19.ps [] ∧ (e19.x = e19.q → mg e19.x = some (.ref (A.fa 19))) := ⟨_, F20, b20, fun z => absurd z (by decide)⟩
  have O : P.On A mg := by
    refine ⟨fun i e hi => ?_, fun x hx => ?_, fun x d hx => ?_, fun i x hx => ?_, fun c b m hx => ?_⟩
    · match i, hi with
      | 0, hi => exact (Option.some.inj (show some e0 = some e from hi)) ▸ g1
      | 1, hi => exact (Option.some.inj (show some e1 = some e from hi)) ▸ g2
      | 2, hi => exact (Option.some.inj (show some e2 = some e from hi)) ▸ g3
      | 3, hi => exact (Option.some.inj (show some e3 = some e from hi)) ▸ g4
      | 4, hi => exact (Option.some.inj (show some e4 = some e from hi)) ▸ g5
      | 5, hi => exact (Option.some.inj (show some e5 = some e from hi)) ▸ g6
      | 6, hi => exact (Option.some.inj (show some e6 = some e from hi)) ▸ g7
      | 7, hi => exact (Option.some.inj (show some e7 = some e from hi)) ▸ g8
      | 8, hi => exact (Option.some.inj (show some e8 = some e from hi)) ▸ g9
      | 9, hi => exact (Option.some.inj (show some e9 = some e from hi)) ▸ g10
      | 10, hi => exact (Option.some.inj (show some e10 = some e from hi)) ▸ g11
      | 11, hi => exact (Option.some.inj (show some e11 = some e from hi)) ▸ g12
      | 12, hi => exact (Option.some.inj (show some e12 = some e from hi)) ▸ g13
      | 13, hi => exact (Option.some.inj (show some e13 = some e from hi)) ▸ g14
      | 14, hi => exact (Option.some.inj (show some e14 = some e from hi)) ▸ g15
      | 15, hi => exact (Option.some.inj (show some e15 = some e from hi)) ▸ g16
      | 16, hi => exact (Option.some.inj (show some e16 = some e from hi)) ▸ g17
      | 17, hi => exact (Option.some.inj (show some e17 = some e from hi)) ▸ g18
      | 18, hi => exact (Option.some.inj (show some e18 = some e from hi)) ▸ g19
      | 19, hi => exact (Option.some.inj (show some e19 = some e from hi)) ▸ g20
      | n + 20, hi => cases (show none = some e from hi)
    · exact (free_cons (PySem.W.mg_none_of X G z1) <| free_cons (PySem.W.mg_none_of X G z2) <| free_cons (PySem.W.mg_none_of X G z3) <| free_cons (PySem.W.mg_none_of X G z4) <| free_cons (PySem.W.mg_none_of X G z5) <| free_cons (PySem.W.mg_none_of X G z6) <| free_cons (PySem.W.mg_none_of X G z7) <| free_cons (PySem.W.mg_none_of X G z8) <| free_cons (PySem.W.mg_none_of X G z9) <| free_cons (PySem.W.mg_none_of X G z10) <| free_cons (PySem.W.mg_none_of X G z11) <| free_cons (PySem.W.mg_none_of X G z12) <| free_cons (PySem.W.mg_none_of X G z13) <| free_cons (PySem.W.mg_none_of X G z14) <| free_cons (PySem.W.mg_none_of X G z15) <| free_nil : ∀ x ∈ P.bs, mg x = none) x hx
    · cases hx
    · cases hx
    · cases hx
  have OK : P.OnK A mg := by
    have y1 : Cls A.K (A.ca 0) := ⟨pg1, hd1, po1, sa1⟩
    refine ⟨fun f hf i oc => ?_, fun i m f hm oc => ?_, fun x i hx => ?_, fun z => nomatch z⟩
    · match i, oc with
      | 0, _ => exact ⟨y1, (all_cons na1_0 <| all_cons na1_1 <| all_cons na1_2 <| all_nil : ∀ f ∈ P.flds, NoAttr A.K (A.ca 0) f) f hf⟩
      | n + 1, oc => exact absurd (show n + 1 < 1 from oc.2) (by omega)
    · exact me_all (by
        refine me_cons ⟨y1, ⟨a19, n19, k19⟩, e18, rfl⟩ ?_
        refine me_cons ⟨y1, ⟨a20, n20, k20⟩, e19, rfl⟩ ?_
        exact me_nil) hm oc
    · exact mk_all (by
        refine mk_cons ⟨PySem.W.mg_of X G cg1, (by decide : 0 ≤ 0 ∧ 0 < 1), 17, rfl, ⟨mk1, a18, n18, kp1⟩, e17, rfl⟩ ?_
        exact mk_nil) hx
  refine ⟨PySem.W.fnOf "law" "law" (defArgs (top 20)) (defBody (top 20)) (defScope (top 20)) .none kV17 dc17 pm17 an17 cd17 ct17, [(cd19, P19)], fun _ => P19, rfl, (by simp [P]), fun p hp => by rw [List.mem_singleton.mp hp]; exact ht19, fun p hp => by rw [List.mem_singleton.mp hp]; exact hn19, fun p hp => by rw [List.mem_singleton.mp hp]; exact PySem.W.codeHd_of_K X hh19, fun s v => .of_eq rfl, fun base _ _ TB => ?_⟩
  have OT : P.OnT A mg base := by
    intro i e hi ht fd F
    match i, hi with
    | 0, hi => exact absurd (Option.some.inj (show some e0 = some e from hi) ▸ ht) (by decide +kernel)
    | 1, hi => exact absurd (Option.some.inj (show some e1 = some e from hi) ▸ ht) (by decide +kernel)
    | 2, hi => exact absurd (Option.some.inj (show some e2 = some e from hi) ▸ ht) (by decide +kernel)
    | 3, hi => exact absurd (Option.some.inj (show some e3 = some e from hi) ▸ ht) (by decide +kernel)
    | 4, hi => exact absurd (Option.some.inj (show some e4 = some e from hi) ▸ ht) (by decide +kernel)
    | 5, hi => exact absurd (Option.some.inj (show some e5 = some e from hi) ▸ ht) (by decide +kernel)
    | 6, hi => exact absurd (Option.some.inj (show some e6 = some e from hi) ▸ ht) (by decide +kernel)
    | 7, hi => exact absurd (Option.some.inj (show some e7 = some e from hi) ▸ ht) (by decide +kernel)
    | 8, hi => exact absurd (Option.some.inj (show some e8 = some e from hi) ▸ ht) (by decide +kernel)
    | 9, hi => exact absurd (Option.some.inj (show some e9 = some e from hi) ▸ ht) (by decide +kernel)
    | 10, hi => exact absurd (Option.some.inj (show some e10 = some e from hi) ▸ ht) (by decide +kernel)
    | 11, hi => exact absurd (Option.some.inj (show some e11 = some e from hi) ▸ ht) (by decide +kernel)
    | 12, hi => exact absurd (Option.some.inj (show some e12 = some e from hi) ▸ ht) (by decide +kernel)
    | 13, hi => exact absurd (Option.some.inj (show some e13 = some e from hi) ▸ ht) (by decide +kernel)
    | 14, hi => exact absurd (Option.some.inj (show some e14 = some e from hi) ▸ ht) (by decide +kernel)
    | 15, hi => exact absurd (Option.some.inj (show some e15 = some e from hi) ▸ ht) (by decide +kernel)
    | 16, hi => exact absurd (Option.some.inj (show some e16 = some e from hi) ▸ ht) (by decide +kernel)
    | 17, hi => exact absurd (Option.some.inj (show some e17 = some e from hi) ▸ ht) (by decide +kernel)
    | 18, hi =>
      have e9 := Option.some.inj (show some e18 = some e from hi)
      subst e9
      exact ⟨cd19, by rw [fun_code F l19], TB (cd19, P19) (by simp)⟩
    | 19, hi => exact absurd (Option.some.inj (show some e19 = some e from hi) ▸ ht) (by decide +kernel)
    | n + 20, hi => cases (show none = some e from hi)
  have r := Prog.run (pr := pr) (w := w) (base := base) (A := A) rfl rfl O OK OT ok_all lev 16 e16 rfl _ F17
  refine FnOk.imp r fun vs H Q E h => ?_
  have z := h.2 A rfl rfl
  exact z
end K53

set_option Elab.async false
set_option linter.all false
set_option maxRecDepth 100000
set_option maxHeartbeats 2000000
namespace K53
open PySem PL
abbrev pg : Pg := P.pg
/-! ### letters, words -/
section
variable (c : Nat → Int)
def it (a : Nat) : D := .tup [.int a, .int (c a)]
def wd (w : List Nat) : D := .tup (w.map (it c))
end
section
variable {c : Nat → Int} {a b : Nat} {u w : List Nat}
theorem it_dat : (it c a).dat = true := rfl
theorem it_dep : (it c a).dep = 1 := by simp [it, D.dep, D.deps]
theorem it_inj : it c a = it c b ↔ a = b := by
  constructor
  · intro h
    unfold it at h
    injection h with h
    injection h with h _
    injection h with h
    exact_mod_cast h
  · rintro rfl
    rfl
theorem its_dat : D.dats (w.map (it c)) = true := dats_all.mpr fun x hx => by
  obtain ⟨a, _, rfl⟩ := List.mem_map.mp hx
  exact it_dat
theorem its_dep : D.deps (w.map (it c)) ≤ 1 := deps_le.mpr fun x hx => by
  obtain ⟨a, _, rfl⟩ := List.mem_map.mp hx
  exact Nat.le_of_eq it_dep
theorem wd_dat : (wd c w).dat = true := by
  show D.dats _ = true
  exact its_dat
theorem wd_dep : (wd c w).dep ≤ 2 := by
  unfold wd
  simp only [D.dep]
  have := its_dep (c := c) (w := w)
  omega
theorem map_it_inj : ∀ {u w : List Nat}, u.map (it c) = w.map (it c) ↔ u = w
  | [], [] => by simp
  | [], _ :: _ => by simp
  | _ :: _, [] => by simp
  | a :: u, b :: w => by simp [it_inj, map_it_inj (u := u) (w := w)]
theorem wd_inj : wd c u = wd c w ↔ u = w := by
  unfold wd
  rw [← map_it_inj (c := c)]
  exact ⟨fun h => by injection h, fun h => by rw [h]⟩
theorem alk_it : alk (it c a) (it c b) = true := rfl
theorem alks_it : ∀ {u w : List Nat}, alks (u.map (it c)) (w.map (it c)) = true
  | [], _ => by simp [alks]
  | _ :: _, [] => by simp [alks]
  | a :: u, b :: w => by simp [alks, alk_it, alks_it (u := u) (w := w)]
theorem alk_wd : alk (wd c u) (wd c w) = true := by
  unfold wd
  simp only [alk]
  exact alks_it
theorem dlt_it : dlt (it c a) (it c b) = decide (a < b) := by
  unfold it
  simp only [dlt, dlts]
  by_cases h : a = b
  · subst h
    simp
  · rw [if_neg (by intro e; injection e with e; exact h (by exact_mod_cast e))]
    simp only [Int.ofNat_lt]
theorem dlts_it : ∀ {u w : List Nat}, dlts (u.map (it c)) (w.map (it c)) = true ↔ M53.llt (· < ·) u w
  | [], [] => by simp [dlts, M53.llt]
  | [], _ :: _ => by simp [dlts, M53.llt]
  | _ :: _, [] => by simp [dlts, M53.llt]
  | a :: u, b :: w => by
    simp only [List.map_cons, dlts, M53.llt, it_inj]
    by_cases h : a = b
    · subst h
      simp [dlts_it (u := u) (w := w)]
    · simp [h, dlt_it]
theorem dlt_wd : dlt (wd c u) (wd c w) = true ↔ M53.llt (· < ·) u w := by
  unfold wd
  simp only [dlt]
  exact dlts_it
theorem cmp_its {l : List Nat} : Cmp (l.map (it c)) := ⟨fun x hx => by
  obtain ⟨a, _, rfl⟩ := List.mem_map.mp hx
  exact it_dat, fun x hx y hy => by
  obtain ⟨a, _, rfl⟩ := List.mem_map.mp hx
  obtain ⟨b, _, rfl⟩ := List.mem_map.mp hy
  exact alk_it⟩
theorem cmp_wds {l : List (List Nat)} : Cmp (l.map (wd c)) := ⟨fun x hx => by
  obtain ⟨a, _, rfl⟩ := List.mem_map.mp hx
  exact wd_dat, fun x hx y hy => by
  obtain ⟨a, _, rfl⟩ := List.mem_map.mp hx
  obtain ⟨b, _, rfl⟩ := List.mem_map.mp hy
  exact alk_wd⟩
theorem eqD_it : eqD (it c a) (it c b) = some (decide (a = b)) := by
  rw [eqD_dat it_dat it_dat (by rw [it_dep]; omega) (by rw [it_dep]; omega)]
  congr 1
  rw [Bool.eq_iff_iff, decide_eq_true_eq, decide_eq_true_eq]
  exact it_inj
theorem eqD_wd : eqD (wd c u) (wd c w) = some (decide (u = w)) := by
  have h1 := wd_dep (c := c) (w := u)
  have h2 := wd_dep (c := c) (w := w)
  rw [eqD_dat wd_dat wd_dat (by omega) (by omega)]
  congr 1
  rw [Bool.eq_iff_iff, decide_eq_true_eq, decide_eq_true_eq]
  exact wd_inj
theorem min_it {S : Sto} : biD .min2 [it c a, it c b] S = some (it c (min a b)) := by
  show minPy2 (it c a) (it c b) = _
  rw [min2_dat (cmp_its (l := [a, b])) ⟨by rw [it_dep]; omega, by rw [it_dep]; omega⟩, dlt_it]
  congr 1
  by_cases h : b < a
  · rw [decide_eq_true h, if_pos rfl, Nat.min_eq_right (by omega)]
  · rw [decide_eq_false h, if_neg (by simp), Nat.min_eq_left (by omega)]
theorem max_it {S : Sto} : biD .max2 [it c a, it c b] S = some (it c (max a b)) := by
  show maxPy2 (it c a) (it c b) = _
  rw [max2_dat (cmp_its (l := [a, b])) ⟨by rw [it_dep]; omega, by rw [it_dep]; omega⟩, dlt_it]
  congr 1
  by_cases h : a < b
  · rw [decide_eq_true h, if_pos rfl, Nat.max_eq_right (by omega)]
  · rw [decide_eq_false h, if_neg (by simp), Nat.max_eq_left (by omega)]
end
/-! ### which pairs are free -/
structure Fre (c : Nat → Int) (fr : D) (fl : Nat → Nat → Bool) : Prop where
  ex : ∃ ys : List (Nat × Nat), fr = .tup (ys.map fun p => .tup [it c p.1, it c p.2]) ∧ ∀ a b, fl a b = decide ((a, b) ∈ ys)
def pb (fl : Nat → Nat → Bool) (a b : Nat) : Bool := decide (a ≠ b) && fl (min a b) (max a b)
theorem pb_sym (fl : Nat → Nat → Bool) (a b : Nat) (h : pb fl a b = true) : pb fl b a = true := by
  unfold pb at *
  rw [Nat.min_comm b a, Nat.max_comm b a]
  simp only [Bool.and_eq_true, decide_eq_true_eq] at *
  exact ⟨Ne.symm h.1, h.2⟩
theorem pb_irr (fl : Nat → Nat → Bool) (a : Nat) : pb fl a a = false := by simp [pb]
section
variable {c : Nat → Int} {fr : D} {fl : Nat → Nat → Bool} {S : Sto} {a b k : Nat}
theorem Fre.isIn (h : Fre c fr fl) : inSt S (.tup [it c a, it c b]) fr = some (fl a b) := by
  obtain ⟨ys, rfl, hf⟩ := h.ex
  show inD _ _ = _
  have hd : ∀ p : Nat × Nat, (D.tup [it c p.1, it c p.2]).dat = true := fun p => rfl
  have hp : ∀ p : Nat × Nat, (D.tup [it c p.1, it c p.2]).dep ≤ 2 := fun p => by simp [D.dep, D.deps, it]
  rw [inD_dat (hd (a, b)) (dats_all.mpr fun x hx => by
    obtain ⟨p, _, rfl⟩ := List.mem_map.mp hx
    exact hd p) (by have := hp (a, b); omega) (deps_le.mpr fun x hx => by
    obtain ⟨p, _, rfl⟩ := List.mem_map.mp hx
    have := hp p
    omega), hf a b]
  congr 1
  rw [Bool.eq_iff_iff, decide_eq_true_eq, decide_eq_true_eq]
  constructor
  · intro h
    obtain ⟨p, hp, e⟩ := List.mem_map.mp h
    injection e with e
    injection e with e1 e
    injection e with e2 _
    obtain ⟨p1, p2⟩ := p
    have h1 := it_inj.mp e1
    have h2 := it_inj.mp e2
    dsimp only at h1 h2
    rw [← h1, ← h2]
    exact hp
  · exact fun h => List.mem_map.mpr ⟨(a, b), h, rfl⟩
theorem f0 : pg.fns[0]? = some ⟨3, 3, b_may_pass⟩ := rfl
theorem f12 : pg.fns[12]? = some ⟨3, 3, b_law_passes⟩ := rfl
theorem may_body {T : Tab} (h : Fre c fr fl) : evSs T b_may_pass [some fr, some (it c a), some (it c b)] S = .ret (.bl (pb fl a b)) S := by
  unfold b_may_pass
  by_cases e : a = b
  · subst e
    simp only [ez, eqD_it, decide_true, pb_irr]
  · have hi := h.isIn (S := S) (a := min a b) (b := max a b)
    simp only [ez, eqD_it, decide_eq_false e, min_it, max_it]
    rw [hi]
    simp only [ez]
    unfold pb
    rw [decide_eq_true e, Bool.true_and]
theorem may_call (h : Fre c fr fl) : callF pg (k + 1) 0 [fr, it c a, it c b] S = .ok (.bl (pb fl a b)) S := call_of f0 rfl (may_body h) rfl List.take_length
theorem passes_call (h : Fre c fr fl) : callF pg (k + 1) 12 [fr, it c a, it c b] S = .ok (.bl (pb fl a b)) S := call_of f12 rfl (may_body h) rfl List.take_length
end
end K53

set_option Elab.async false
set_option linter.all false
set_option maxRecDepth 100000
set_option maxHeartbeats 2000000
namespace K53
open PySem PL
/-! ### holds_back -/
/-- the places ahead of i that hold it back -/
def bk (fl : Nat → Nat → Bool) (w : List Nat) (i : Nat) : List Nat := (List.range i).filter fun j => !pb fl (w.getD j 0) (w.getD i 0)
def nts (l : List Nat) : List D := l.map fun (j : Nat) => D.int (j : Int)
def bks (fl : Nat → Nat → Bool) (w : List Nat) : List D := (List.range w.length).map fun i => .tup (nts (bk fl w i))
section
variable {c : Nat → Int} {fr : D} {fl : Nat → Nat → Bool} {S : Sto} {w : List Nat} {k : Nat}
theorem wd_get {i : Nat} (h : i < w.length) : (w.map (it c))[i]? = some (it c (w.getD i 0)) := by
  rw [List.getElem?_map, List.getElem?_eq_getElem h, List.getD_eq_getElem?_getD, List.getElem?_eq_getElem h]
  rfl
theorem f1 : pg.fns[1]? = some ⟨2, 6, b_holds_back⟩ := rfl
def bH : Ss := .cons (.ex (.bm .append (.var 2) (.cons (.tupL (.comp [5] (.var 5) (.nm 5) (.rng1 (.var 3)) (.cons (.not (.call "may_pass" 0 (.cons (.var 0) (.cons (.idx (.var 1) (.var 5)) (.cons (.var 4) (.nil)))))) (.nil)))) (.nil)))) .nil
theorem back_turn {T : Tab} (hT : T.cf = callF pg (k + 1)) (h : Fre c fr fl) {i : Nat} (hi : i < w.length) (hw : w.length ≤ 1000) {acc : List D} (ha : acc.length ≤ 1000) {n : Nat} (hn : S[n]? = some (.lst acc)) {x5 : Option D} :
    evSs T bH [some fr, some (wd c w), some (.ob n), some (.int (i : Int)), some (it c (w.getD i 0)), x5] S = .nx [some fr, some (wd c w), some (.ob n), some (.int (i : Int)), some (it c (w.getD i 0)), x5] (S.set n (.lst (acc ++ [.tup (nts (bk fl w i))]))) := by
  have sm : small (i : Int) = true := small_of (by omega)
  have e := cf (T := T) (ρ := [some fr, some (wd c w), some (.ob n), some (.int (i : Int)), some (it c (w.getD i 0)), x5]) (S := S) (v := { items := rngD 0 i 1 }) (own := [5]) (elt := .var 5) (i := 5) (xs := rngD 0 i 1) (c := .not (.call "may_pass" 0 (.cons (.var 0) (.cons (.idx (.var 1) (.var 5)) (.cons (.var 4) (.nil)))))) (f := id)
    (fun x => match x with | .int j => !pb fl (w.getD j.toNat 0) (w.getD i 0) | _ => false) (by simp [wipeE]) rfl (fun x hx => by
      obtain ⟨j, hj, rfl⟩ := rng_mem.mp hx
      have g : atI (w.map (it c)) (j : Int) = some (it c (w.getD j 0)) := by rw [atI_n]; exact wd_get (by omega)
      have m := may_call (k := k) (S := S) (a := w.getD j 0) (b := w.getD i 0) h
      rw [← hT] at m
      unfold wd
      simp only [ez, wipeE, List.set, g, m, Int.toNat_natCast]) (fun x hx _ => by simp only [ez, wipeE, List.set, id]) (by rw [rngD_len]; omega)
  have ef : ((rngD 0 i 1).filter (fun x => match x with | .int j => !pb fl (w.getD j.toNat 0) (w.getD i 0) | _ => false)).map id = nts (bk fl w i) := by
    rw [rng_map, List.map_id, List.filter_map]
    unfold nts bk
    congr 1
  rw [ef] at e
  unfold bH
  simp only [ez, sm, Int.toNat_natCast, e, hn, show acc.length < 10000000 by omega]
theorem back_call (h : Fre c fr fl) (hw : w.length ≤ 1000) : callF pg (k + 2) 1 [fr, wd c w] S = .ok (.ob S.length) (S ++ [.lst (bks fl w)]) := by
  generalize hT : (⟨callF pg (k + 1), callF pg (k + 1 - 1), pg.meth, pg.init, pg.lit, pg.isx⟩ : Tab) = T
  have hcf : T.cf = callF pg (k + 1) := by rw [← hT]
  have lp := forR_inv (v := { items := enumD 0 (w.map (it c)) }) (body := bodyR (.tup (.cons (.nm 3) (.cons (.nm 4) .nil))) (evSs T bH)) (fun q ρ S' => ∃ x3 x4 x5, ρ = [some fr, some (wd c w), some (.ob S.length), x3, x4, x5] ∧ q ≤ w.length ∧ S' = S ++ [.lst ((bks fl w).take q)])
    (enumD 0 (w.map (it c))) 0 [some fr, some (wd c w), some (.ob S.length), none, none, none] (S ++ [.lst []]) ⟨none, none, none, rfl, by omega, rfl⟩ (fun _ _ _ _ => rfl) (fun q x ρ S' hx ⟨x3, x4, x5, e, p1, p2⟩ => by
      subst e
      rw [Nat.zero_add] at p1 p2 ⊢
      have hq : q < w.length := by
        have := (List.getElem?_eq_some_iff.mp hx).1
        rw [enumD_len, List.length_map] at this
        exact this
      rw [enumD_get, wd_get hq] at hx
      cases hx
      refine ⟨_, _, .inl ((body_at (ρ1 := [some fr, some (wd c w), some (.ob S.length), some (.int (q : Int)), some (it c (w.getD q 0)), x5]) (by simp [asgG, asgGs])).trans (back_turn (S := S') hcf h hq hw (acc := (bks fl w).take q) (by rw [List.length_take]; omega) (by rw [p2]; exact app_get))), _, _, _, rfl, by omega, ?_⟩
      rw [p2, sto_set0]
      congr 1
      have : (bks fl w)[q]? = some (.tup (nts (bk fl w q))) := by
        unfold bks
        rw [List.getElem?_map, List.getElem?_range hq]
        rfl
      rw [List.take_add_one, this]
      rfl)
  obtain ⟨ρ', S1, e, x3, x4, x5, rfl, _, rfl⟩ := lp
  rw [enumD_len, List.length_map, Nat.zero_add, List.take_of_length_le (by simp [bks])] at e
  have eb : evSs T b_holds_back (startE 6 [fr, wd c w]) S = .ret (.ob S.length) (S ++ [.lst (bks fl w)]) := by
    have eρ : startE 6 [fr, wd c w] = [some fr, some (wd c w), none, none, none, none] := rfl
    rw [eρ]
    unfold bH at e
    unfold b_holds_back
    unfold wd at e ⊢
    simp only [ez, e]
  exact call_new f1 rfl (by rw [hT]; exact eb) (low_new (Nat.le_refl _))
end
end K53

set_option Elab.async false
set_option linter.all false
set_option maxRecDepth 100000
set_option maxHeartbeats 2000000
namespace K53
open PySem PL
/-! ### with_place -/
def wp (ps : List Nat) (p : Nat) : List Nat := (sortI ((ps ++ [p]).map fun (j : Nat) => (j : Int))).map Int.toNat
theorem allInt_nts : ∀ l : List Nat, allInt (nts l) = some (l.map fun (j : Nat) => (j : Int))
  | [] => rfl
  | a :: l => by
    show (allInt (nts l)).map _ = _
    rw [allInt_nts l]
    rfl
theorem nts_dat {l : List Nat} : D.dats (nts l) = true := dats_all.mpr fun x hx => by
  obtain ⟨a, _, rfl⟩ := List.mem_map.mp hx
  rfl
theorem nts_dep {l : List Nat} : D.deps (nts l) ≤ 0 := deps_le.mpr fun x hx => by
  obtain ⟨a, _, rfl⟩ := List.mem_map.mp hx
  exact Nat.le_refl 0
theorem nts_len {l : List Nat} : (nts l).length = l.length := List.length_map _
theorem nts_mem {l : List Nat} {i : Nat} : D.int (i : Int) ∈ nts l ↔ i ∈ l := by
  unfold nts
  rw [List.mem_map]
  constructor
  · rintro ⟨a, h, e⟩
    injection e with e
    have : a = i := by exact_mod_cast e
    rw [← this]
    exact h
  · exact fun h => ⟨i, h, rfl⟩
theorem in_nts {S : Sto} {l : List Nat} {i : Nat} : inSt S (.int (i : Int)) (.tup (nts l)) = some (decide (i ∈ l)) := by
  show inD _ _ = _
  rw [inD_dat rfl nts_dat (Nat.zero_le _) (Nat.le_trans nts_dep (by omega))]
  congr 1
  rw [Bool.eq_iff_iff, decide_eq_true_eq, decide_eq_true_eq]
  exact nts_mem
theorem wp_perm (ps : List Nat) (p : Nat) : (wp ps p).Perm (ps ++ [p]) := by
  unfold wp
  have h := (sortI_perm ((ps ++ [p]).map fun (j : Nat) => (j : Int))).map Int.toNat
  rw [List.map_map] at h
  have e : (ps ++ [p]).map (Int.toNat ∘ fun (j : Nat) => (j : Int)) = ps ++ [p] := by
    refine (List.map_congr_left fun a _ => ?_).trans (List.map_id _)
    simp
  rw [e] at h
  exact h
theorem wp_nts (ps : List Nat) (p : Nat) : (sortI ((ps ++ [p]).map fun (j : Nat) => (j : Int))).map D.int = nts (wp ps p) := by
  unfold wp nts
  rw [List.map_map]
  refine List.map_congr_left fun a ha => ?_
  have := (sortI_perm _).mem_iff.mp ha
  obtain ⟨j, _, rfl⟩ := List.mem_map.mp this
  simp
theorem wp_sorted (ps : List Nat) (p : Nat) : (wp ps p).Pairwise (· ≤ ·) := by
  unfold wp
  rw [List.pairwise_map]
  exact (sortI_sorted _).imp fun h => by omega
theorem wp_len (ps : List Nat) (p : Nat) : (wp ps p).length = ps.length + 1 := by
  rw [(wp_perm ps p).length_eq]
  simp
theorem wp_mem {ps : List Nat} {p i : Nat} : i ∈ wp ps p ↔ i ∈ ps ∨ i = p := by
  rw [(wp_perm ps p).mem_iff]
  simp
section
variable {c : Nat → Int} {fr : D} {fl : Nat → Nat → Bool} {S : Sto} {w ps : List Nat} {k p : Nat}
theorem f2 : pg.fns[2]? = some ⟨2, 2, b_with_place⟩ := rfl
theorem line_le {n : Nat} (h : n ≤ 1000000) : n ≤ sizeLine := by rw [sizeLine_eq]; omega
theorem wp_call (h : ps.length ≤ 1000) : callF pg (k + 1) 2 [.tup (nts ps), .int (p : Int)] S = .ok (.tup (nts (wp ps p))) S := by
  refine call_of f2 rfl (S1 := S) ?_ (dat_low (show D.dats _ = true from nts_dat)) List.take_length
  generalize (⟨callF pg k, callF pg (k - 1), pg.meth, pg.init, pg.lit, pg.isx⟩ : Tab) = T
  show evSs T b_with_place [some (.tup (nts ps)), some (.int (p : Int))] S = _
  have e : nts ps ++ [D.int (p : Int)] = nts (ps ++ [p]) := by simp [nts]
  have hl : (nts ps).length + [D.int (p : Int)].length ≤ sizeLine := line_le (by rw [nts_len]; simp; omega)
  unfold b_with_place
  simp only [ez, n_catT hl, e, allInt_nts, wp_nts]
/-! ### Counter -/
def nR : List Nat := ("row" : Str).cps.toList
def nB : List Nat := ("back" : Str).cps.toList
def nK : List Nat := ("known" : Str).cps.toList
def flds (w : D) (b d : Nat) : List (List Nat × D) := [(nR, w), (nB, .ob b), (nK, .ob d)]
theorem pf1 {x : D} : putFs ("row" : Str).cps.toList x [] = [(nR, x)] := rfl
theorem pf2 {x y : D} : putFs ("back" : Str).cps.toList y [(nR, x)] = [(nR, x), (nB, y)] := rfl
theorem pf3 {x y z : D} : putFs ("known" : Str).cps.toList z [(nR, x), (nB, y)] = [(nR, x), (nB, y), (nK, z)] := rfl
theorem lf1 {x : D} {b d : Nat} : lookFs ("row" : Str).cps.toList (flds x b d) = some x := rfl
theorem lf2 {x : D} {b d : Nat} : lookFs ("back" : Str).cps.toList (flds x b d) = some (.ob b) := rfl
theorem lf3 {x : D} {b d : Nat} : lookFs ("known" : Str).cps.toList (flds x b d) = some (.ob d) := rfl
theorem lf4 {x : D} {b d : Nat} : lookFs ("ready" : Str).cps.toList (flds x b d) = none := rfl
theorem lf5 {x : D} {b d : Nat} : lookFs ("many" : Str).cps.toList (flds x b d) = none := rfl
theorem me1 : P.methF 0 "ready" = some 18 := by decide +kernel
theorem me2 : P.methF 0 "many" = some 19 := by decide +kernel
theorem in1 : P.initF 0 = some 17 := by decide +kernel
theorem f17 : pg.fns[17]? = some ⟨3, 3, b_Counter_init⟩ := rfl
theorem init_call (h : Fre c fr fl) (hw : w.length ≤ 1000) : callF pg (k + 3) 17 [.ob S.length, fr, wd c w] (S ++ [.ins 0 []]) = .ok .non (S ++ [.ins 0 (flds (wd c w) (S.length + 1) (S.length + 2)), .lst (bks fl w), .dT []]) := by
  have eb : ∀ T : Tab, T.cf = callF pg (k + 2) → evSs T b_Counter_init [some (.ob S.length), some fr, some (wd c w)] (S ++ [.ins 0 []]) = .nx [some (.ob S.length), some fr, some (wd c w)] (S ++ [.ins 0 (flds (wd c w) (S.length + 1) (S.length + 2)), .lst (bks fl w), .dT []]) := fun T hT => by
    have hb := back_call (k := k) (S := S ++ [.ins 0 [(nR, wd c w)]]) h hw
    rw [← hT] at hb
    unfold b_Counter_init
    simp only [ez, pf1, hb]
    simp only [ez, pf2, pf3, flds, List.length_nil, Nat.zero_add, show (0 : Nat) < 100 by decide, show (0 : Nat) + 1 < 100 by decide, show (0 : Nat) + 1 + 1 < 100 by decide, show (1 : Nat) < 100 by decide]
  rw [call_run f17 rfl]
  show PL.trunc _ (endF (evSs _ b_Counter_init [some (.ob S.length), some fr, some (wd c w)] (S ++ [.ins 0 []]))) = _
  rw [eb _ rfl]
  show PL.trunc _ (.ok .non _) = _
  unfold PL.trunc
  dsimp only
  rw [if_neg]
  rw [Bool.and_eq_true, decide_eq_true_eq]
  rintro ⟨_, e⟩
  have := congrArg (fun l : Sto => l[S.length]?) e
  simp [flds] at this
end
end K53

set_option Elab.async false
set_option linter.all false
set_option maxRecDepth 100000
set_option maxHeartbeats 2000000
namespace K53
open PySem PL
def tq : List Nat := [67, 111, 117, 110, 116, 101, 114, 46, 114, 101, 97, 100, 121, 46, 60, 108, 111, 99, 97, 108, 115, 62, 46, 60, 108, 97, 109, 98, 100, 97, 62]
theorem app_keep {S L : Sto} {i : Nat} {o : O} (h : S[i]? = some o) : (S ++ L)[i]? = some o := by
  rw [List.getElem?_append_left (List.getElem?_eq_some_iff.mp h).1]; exact h
def rdy (fl : Nat → Nat → Bool) (w ps : List Nat) (i : Nat) : Bool := !decide (i ∈ ps) && (bk fl w i).all fun j => decide (j ∈ ps)
def rd (fl : Nat → Nat → Bool) (w ps : List Nat) (q : Nat) : List Nat := (List.range q).filter (rdy fl w ps)
/-- the ready places by their letters -/
def srt (fl : Nat → Nat → Bool) (w ps : List Nat) : List Nat := (rd fl w ps w.length).mergeSort fun i j => decide (w.getD i 0 ≤ w.getD j 0)
theorem srt_perm (fl : Nat → Nat → Bool) (w ps : List Nat) : (srt fl w ps).Perm (rd fl w ps w.length) := List.mergeSort_perm _ _
theorem srt_sorted (fl : Nat → Nat → Bool) (w ps : List Nat) : (srt fl w ps).Pairwise fun i j => w.getD i 0 ≤ w.getD j 0 := by
  have := List.pairwise_mergeSort (le := fun i j : Nat => decide (w.getD i 0 ≤ w.getD j 0)) (fun a b c h k => by simp only [decide_eq_true_eq] at *; omega) (fun a b => by simp only [Bool.or_eq_true, decide_eq_true_eq]; omega) (rd fl w ps w.length)
  exact this.imp fun h => by simpa using h
theorem rd_succ {fl : Nat → Nat → Bool} {w ps : List Nat} {q : Nat} : rd fl w ps (q + 1) = if rdy fl w ps q then rd fl w ps q ++ [q] else rd fl w ps q := by
  unfold rd
  rw [List.range_succ, List.filter_append]
  cases h : rdy fl w ps q <;> simp [List.filter_cons, h]
theorem nts_app {l : List Nat} {i : Nat} : nts (l ++ [i]) = nts l ++ [.int (i : Int)] := by simp [nts]
theorem keysR_nts {f : D → R D} {S : Sto} {g : Nat → D} : ∀ {l : List Nat}, (∀ i ∈ l, f (.int (i : Int)) = .ok (g i) S) → keysR f S (nts l) = some (l.map g)
  | [], _ => rfl
  | a :: l, h => by
    show keysR f S (.int (a : Int) :: nts l) = _
    unfold keysR
    rw [h a List.mem_cons_self]
    dsimp only
    rw [if_pos rfl, keysR_nts fun i hi => h i (List.mem_cons_of_mem _ hi)]
    rfl
theorem all_bl : ∀ (l : List Nat) (q : Nat → Bool), allBl (l.map fun j => D.bl (q j)) = some (l.map q)
  | [], _ => rfl
  | a :: l, q => by simp [allBl, all_bl l q]
/-- a counter at n -/
structure Ct (c : Nat → Int) (fl : Nat → Nat → Bool) (w : List Nat) (n b d : Nat) (kvs : List (D × D)) (S : Sto) : Prop where
  ob : S[n]? = some (.ins 0 (flds (wd c w) b d))
  bk : S[b]? = some (.lst (bks fl w))
  kn : S[d]? = some (.dT kvs)
theorem Ct.app {c : Nat → Int} {fl : Nat → Nat → Bool} {w : List Nat} {n b d : Nat} {kvs : List (D × D)} {S L : Sto} (h : Ct c fl w n b d kvs S) : Ct c fl w n b d kvs (S ++ L) := ⟨app_keep h.ob, app_keep h.bk, app_keep h.kn⟩
section
variable {c : Nat → Int} {fr : D} {fl : Nat → Nat → Bool} {S : Sto} {w ps : List Nat} {k p n b d : Nat} {kvs : List (D × D)}
theorem f18 : pg.fns[18]? = some ⟨2, 6, b_Counter_ready⟩ := rfl
def bRd : Ss := .cons (.ite (.bop true (.cons (.cmp .NotIn (.var 3) (.var 1)) (.cons (.allL (.comp [5] (.cmp .In (.var 5) (.var 1)) (.nm 5) (.ofE (.var 4)) (.nil))) (.nil)))) (.cons (.ex (.bm .append (.var 2) (.cons (.var 3) (.nil)))) <|
    .nil) (.nil)) .nil
theorem ready_turn {T : Tab} {i m : Nat} {acc : List D} {x0 x5 : Option D} (hm : S[m]? = some (.lst acc)) (ha : acc.length ≤ 1000) (hi : i ≤ 1000) :
    evSs T bRd [x0, some (.tup (nts ps)), some (.ob m), some (.int (i : Int)), some (.tup (nts (bk fl w i))), x5] S = .nx [x0, some (.tup (nts ps)), some (.ob m), some (.int (i : Int)), some (.tup (nts (bk fl w i))), x5] (if rdy fl w ps i then S.set m (.lst (acc ++ [.int (i : Int)])) else S) := by
  have e := cm (T := T) (ρ := [x0, some (.tup (nts ps)), some (.ob m), some (.int (i : Int)), some (.tup (nts (bk fl w i))), x5]) (S := S) (v := { items := nts (bk fl w i) }) (own := [5]) (elt := .cmp .In (.var 5) (.var 1)) (i := 5) (xs := nts (bk fl w i))
    (f := fun x => match x with | .int j => .bl (decide (j.toNat ∈ ps)) | _ => .bl false) (by simp [wipeE]) rfl (fun x hx => by
      obtain ⟨j, _, rfl⟩ := List.mem_map.mp hx
      have g := in_nts (S := S) (l := ps) (i := j)
      simp only [ev, wipeE, List.set]
      rw [g]
      simp only [ev, Int.toNat_natCast]) (by
      rw [nts_len]
      have := List.length_filter_le (fun j => !pb fl (w.getD j 0) (w.getD i 0)) (List.range i)
      rw [List.length_range] at this
      unfold bk
      omega)
  have ef : (nts (bk fl w i)).map (fun x => match x with | .int j => D.bl (decide (j.toNat ∈ ps)) | _ => .bl false) = (bk fl w i).map fun j => D.bl (decide (j ∈ ps)) := by
    unfold nts
    rw [List.map_map]
    exact List.map_congr_left fun j _ => by simp
  rw [ef] at e
  have g := in_nts (S := S) (l := ps) (i := i)
  unfold bRd
  have al := all_bl (bk fl w i) fun j => decide (j ∈ ps)
  by_cases h1 : i ∈ ps
  · have r : rdy fl w ps i = false := by unfold rdy; simp [h1]
    rw [decide_eq_true h1] at g
    simp only [ew]
    rw [g]
    simp only [ew, r]
  · rw [decide_eq_false h1] at g
    have r : rdy fl w ps i = ((bk fl w i).map fun j => decide (j ∈ ps)).all id := by unfold rdy; simp [h1]
    simp only [ew]
    rw [g]
    simp only [ew, e, al]
    cases q : ((bk fl w i).map fun j => decide (j ∈ ps)).all id with
    | false => simp only [ew, r, q]
    | true => simp only [ew, r, q, hm, show acc.length < 10000000 by omega]
theorem ready_call (h : Ct c fl w n b d kvs S) (h0 : S[0]? = some (.tab tq)) (hw : w.length ≤ 1000) (hps : ps.length ≤ 1000) : callF pg (k + 1) 18 [.ob n, .tup (nts ps)] S = .ok (.ob (S.length + 1)) (S ++ [.lst (nts (rd fl w ps w.length)), .lst (nts (srt fl w ps))]) := by
  generalize hT : (⟨callF pg k, callF pg (k - 1), pg.meth, pg.init, pg.lit, pg.isx⟩ : Tab) = T
  have hbl : (bks fl w).length = w.length := by simp [bks]
  have lp := forR_inv (v := { items := enumD 0 (bks fl w), watch := [(b, bks fl w)] }) (body := bodyR (.tup (.cons (.nm 3) (.cons (.nm 4) .nil))) (evSs T bRd)) (fun q ρ S' => ∃ x3 x4 x5, ρ = [some (.ob n), some (.tup (nts ps)), some (.ob S.length), x3, x4, x5] ∧ q ≤ w.length ∧ S' = S ++ [.lst (nts (rd fl w ps q))])
    (enumD 0 (bks fl w)) 0 [some (.ob n), some (.tup (nts ps)), some (.ob S.length), none, none, none] (S ++ [.lst []]) ⟨none, none, none, rfl, by omega, rfl⟩ (fun _ _ S' ⟨_, _, _, _, _, e⟩ => stays_at (by rw [e]; exact app_keep h.bk)) (fun q x ρ S' hx ⟨x3, x4, x5, e, p1, p2⟩ => by
      subst e
      rw [Nat.zero_add] at p1 p2 ⊢
      have hq : q < w.length := by
        have := (List.getElem?_eq_some_iff.mp hx).1
        rw [enumD_len, hbl] at this
        exact this
      have hbq : (bks fl w)[q]? = some (.tup (nts (bk fl w q))) := by
        unfold bks
        rw [List.getElem?_map, List.getElem?_range hq]
        rfl
      rw [enumD_get, hbq] at hx
      cases hx
      have hr : (rd fl w ps q).length ≤ q := by
        unfold rd
        have := List.length_filter_le (rdy fl w ps) (List.range q)
        rwa [List.length_range] at this
      refine ⟨_, _, .inl ((body_at (ρ1 := [some (.ob n), some (.tup (nts ps)), some (.ob S.length), some (.int (q : Int)), some (.tup (nts (bk fl w q))), x5]) (by simp [asgG, asgGs])).trans (ready_turn (S := S') (acc := nts (rd fl w ps q)) (by rw [p2]; exact app_get) (by rw [nts_len]; omega) (by omega))), _, _, _, rfl, by omega, ?_⟩
      rw [p2, sto_set0, rd_succ]
      cases rdy fl w ps q with
      | false => rfl
      | true => simp only [if_true, nts_app]; rfl)
  obtain ⟨ρ', S1, e, x3, x4, x5, rfl, _, rfl⟩ := lp
  rw [enumD_len, hbl, Nat.zero_add] at e
  have rl : (rd fl w ps w.length).length ≤ w.length := by
    unfold rd
    have := List.length_filter_le (rdy fl w ps) (List.range w.length)
    rwa [List.length_range] at this
  have rm : ∀ i ∈ rd fl w ps w.length, i < w.length := fun i hi => List.mem_range.mp (List.mem_filter.mp hi).1
  -- the keys
  have kr : ∀ x3 x4 x5 : Option D, keysR (fun x => evE T (.idx (.fld (.var 0) "row") (.var 3)) (([some (.ob n), some (.tup (nts ps)), some (.ob S.length), x3, x4, x5] : PL.Env).set 3 (some x)) (S ++ [.lst (nts (rd fl w ps w.length))])) (S ++ [.lst (nts (rd fl w ps w.length))]) (nts (rd fl w ps w.length)) = some ((rd fl w ps w.length).map fun i => it c (w.getD i 0)) := fun x3 x4 x5 =>
    keysR_nts fun i hi => by
      have g1 := (h.app (L := [.lst (nts (rd fl w ps w.length))])).ob
      have g2 : atI (w.map (it c)) (i : Int) = some (it c (w.getD i 0)) := by rw [atI_n]; exact wd_get (rm i hi)
      generalize S ++ [.lst (nts (rd fl w ps w.length))] = S2 at g1
      simp only [ez, List.set, g1, lf1]
      unfold wd
      simp only [ez, g2]
  have sk : sortByK ((rd fl w ps w.length).map fun i => it c (w.getD i 0)) (nts (rd fl w ps w.length)) = some (nts (srt fl w ps)) := by
    have hc : Cmp ((rd fl w ps w.length).map fun i => it c (w.getD i 0)) := by
      have := cmp_its (c := c) (l := (rd fl w ps w.length).map fun i => w.getD i 0)
      rw [List.map_map] at this
      exact this
    have hd := pys_dat (dats_all.mpr hc.1)
    unfold sortByK
    rw [hd]
    dsimp only
    rw [if_pos]
    · congr 1
      have z : ((rd fl w ps w.length).map fun i => it c (w.getD i 0)).zip (nts (rd fl w ps w.length)) = (rd fl w ps w.length).map fun i => (it c (w.getD i 0), D.int (i : Int)) := by
        unfold nts
        rw [List.zip_map']
      rw [z]
      have := List.map_mergeSort (r := fun i j : Nat => decide (w.getD i 0 ≤ w.getD j 0)) (s := fun a b : D × D => pyLe a.1 b.1) (f := fun i => (it c (w.getD i 0), D.int (i : Int))) (l := rd fl w ps w.length) (fun i _ j _ => by
        show _ = pyLe (it c (w.getD i 0)) (it c (w.getD j 0))
        rw [pyLe_dlt it_dat it_dat alk_it, dlt_it, Bool.eq_iff_iff]
        simp only [decide_eq_true_eq, Bool.not_eq_true', decide_eq_false_iff_not]
        omega)
      rw [← this, List.map_map]
      rfl
    · rw [hc.alike, tup1_ok hc fun x hx => by
        obtain ⟨i, _, rfl⟩ := List.mem_map.mp hx
        rfl]
      have d1 : PyData.depthAll (((rd fl w ps w.length).map fun i => it c (w.getD i 0)).map pyOf) ≤ 16 := by
        rw [depth_dats (dats_all.mpr hc.1)]
        exact deps_le.mpr fun x hx => by
          obtain ⟨i, _, rfl⟩ := List.mem_map.mp hx
          rw [it_dep]
          omega
      rw [decide_eq_true d1, decide_eq_true (show (nts (rd fl w ps w.length)).length ≤ 1000000 by rw [nts_len]; omega)]
      rfl
  have eb : evSs T b_Counter_ready (startE 6 [.ob n, .tup (nts ps)]) S = .ret (.ob (S.length + 1)) (S ++ [.lst (nts (rd fl w ps w.length)), .lst (nts (srt fl w ps))]) := by
    have eρ : startE 6 [.ob n, .tup (nts ps)] = [some (.ob n), some (.tup (nts ps)), none, none, none, none] := rfl
    rw [eρ]
    unfold bRd at e
    unfold b_Counter_ready
    have g1 := (h.app (L := [.lst []])).ob
    have g2 := (h.app (L := [.lst []])).bk
    have g0 : ∀ L : Sto, (S ++ L)[0]? = some (.tab tq) := fun L => app_keep h0
    have k1 := kr x3 x4 x5
    unfold tq at g0
    simp only [ez] at k1
    simp only [ez, g1, lf2, g2, e, g0, n_sortK2, k1, sk]
  exact call_new f18 rfl (by rw [hT]; exact eb) (low_new (by omega))
end
end K53

set_option Elab.async false
set_option linter.all false
set_option maxRecDepth 100000
set_option maxHeartbeats 2000000
namespace K53
open PySem PL
/-! ### dicts -/
theorem dlook_put {kvs : List (D × D)} {k v : D} : dlook (dput kvs k v) k = some v := by
  unfold dput
  split
  · rename_i h
    unfold dlook
    induction kvs with
    | nil => simp at h
    | cons p kvs ih =>
      rw [List.map_cons, List.find?_cons]
      by_cases e : p.1 = k
      · simp [e]
      · rw [if_neg e]
        simp only [decide_eq_false e]
        exact ih (by simpa [e] using h)
  · rename_i h
    unfold dlook
    rw [List.find?_append]
    have : kvs.find? (fun p => decide (p.1 = k)) = none := by
      rw [List.find?_eq_none]
      intro x hx hp
      exact h (List.any_eq_true.mpr ⟨x, hx, hp⟩)
    rw [this]
    simp
theorem dput_mem {kvs : List (D × D)} {k v : D} {x : D × D} (h : x ∈ dput kvs k v) : x ∈ kvs ∨ x = (k, v) := by
  unfold dput at h
  split at h
  · obtain ⟨p, hp, rfl⟩ := List.mem_map.mp h
    split
    · exact .inr rfl
    · exact .inl hp
  · rcases List.mem_append.mp h with h | h
    · exact .inl h
    · exact .inr (by simpa using h)
theorem dput_len {kvs : List (D × D)} {k v : D} : (dput kvs k v).length ≤ kvs.length + 1 := by
  unfold dput
  split <;> simp
theorem dlook_mem {kvs : List (D × D)} {k v : D} (h : dlook kvs k = some v) : (k, v) ∈ kvs := by
  unfold dlook at h
  obtain ⟨p, hp, rfl⟩ := Option.map_eq_some_iff.mp h
  have h1 := List.find?_some hp
  have h2 := List.mem_of_find?_eq_some hp
  rw [decide_eq_true_eq] at h1
  rw [← h1]
  exact h2
def Kn (kvs : List (D × D)) : Prop := ∀ x ∈ kvs, ∃ m : Nat, 1 ≤ m ∧ x.2 = .int (m : Int)
theorem Kn.put {kvs : List (D × D)} (h : Kn kvs) {k : D} {m : Nat} (hm : 1 ≤ m) : Kn (dput kvs k (.int (m : Int))) := fun x hx => by
  rcases dput_mem hx with h1 | rfl
  · exact h x h1
  · exact ⟨m, hm, rfl⟩
theorem okK {l : List Nat} : okKey true (.tup (nts l)) = true := by
  have h1 : ∀ l : List Nat, D.keyNs (nts l) = true := fun l => by
    induction l with
    | nil => rfl
    | cons a l ih => show (D.keyN (.int (a : Int)) && D.keyNs (nts l)) = true; rw [ih]; rfl
  have h2 : ∀ l : List Nat, D.kdeps (nts l) = 0 := fun l => by
    induction l with
    | nil => rfl
    | cons a l ih => show max (D.kdep (.int (a : Int))) (D.kdeps (nts l)) = 0; rw [ih]; rfl
  show (D.keyNs (nts l) && decide (D.kdeps (nts l) < 8)) = true
  rw [h1, h2]
  rfl
/-! ### many -/
def Cc : Nat → Nat
  | 0 => 1
  | t + 1 => 6 * Cc t + 1
structure Ps (w ps : List Nat) : Prop where
  nd : ps.Nodup
  lt : ∀ i ∈ ps, i < w.length
theorem Ps.wp {w ps : List Nat} (h : Ps w ps) {p : Nat} (h1 : p < w.length) (h2 : p ∉ ps) : Ps w (wp ps p) := ⟨(wp_perm ps p).nodup_iff.mpr (by
  rw [List.nodup_append]
  refine ⟨h.nd, by simp, fun a ha b hb => ?_⟩
  have : b = p := by simpa using hb
  rw [this]
  exact fun e => h2 (e ▸ ha)), fun i hi => by
  rcases wp_mem.mp hi with hi | rfl
  · exact h.lt i hi
  · exact h1⟩
theorem exists_not_mem {n : Nat} {ps : List Nat} (hl : ps.length < n) : ∃ i, i < n ∧ i ∉ ps := by
  refine Classical.byContradiction fun h => ?_
  have sub : ∀ i ∈ List.range n, i ∈ ps := fun i hi => Classical.byContradiction fun z => h ⟨i, List.mem_range.mp hi, z⟩
  have := List.Nodup.length_le_of_subset (List.nodup_range (n := n)) sub
  rw [List.length_range] at this
  omega
theorem rd_ne {fl : Nat → Nat → Bool} {w ps : List Nat} (hl : ps.length < w.length) : rd fl w ps w.length ≠ [] := by
  obtain ⟨i0, h1, h2⟩ := exists_not_mem hl
  obtain ⟨i, ⟨h3, h4⟩, hmin⟩ := M53.least_of (fun i => i < w.length ∧ i ∉ ps) i0 ⟨h1, h2⟩
  have : i ∈ rd fl w ps w.length := by
    unfold rd
    rw [List.mem_filter, List.mem_range]
    refine ⟨h3, ?_⟩
    unfold rdy
    rw [decide_eq_false h4, Bool.not_false, Bool.true_and, List.all_eq_true]
    intro j hj
    unfold bk at hj
    have hj := List.mem_range.mp (List.mem_filter.mp hj).1
    rw [decide_eq_true_eq]
    exact Classical.byContradiction fun z => hmin j ⟨by omega, z⟩ hj
  intro e
  rw [e] at this
  cases this
section
variable {c : Nat → Int} {fr : D} {fl : Nat → Nat → Bool} {w : List Nat} {n b d : Nat}
theorem srt_ok {ps : List Nat} {i : Nat} (h : i ∈ srt fl w ps) : i < w.length ∧ i ∉ ps ∧ ∀ j, j < i → pb fl (w.getD j 0) (w.getD i 0) = false → j ∈ ps := by
  have := (srt_perm fl w ps).mem_iff.mp h
  unfold rd at this
  obtain ⟨h1, h2⟩ := List.mem_filter.mp this
  have h1 := List.mem_range.mp h1
  unfold rdy at h2
  rw [Bool.and_eq_true, Bool.not_eq_true', decide_eq_false_iff_not, List.all_eq_true] at h2
  refine ⟨h1, h2.1, fun j hj hp => ?_⟩
  have := h2.2 j (by
    unfold bk
    rw [List.mem_filter, List.mem_range, hp]
    exact ⟨hj, rfl⟩)
  simpa using this
theorem srt_len {ps : List Nat} : (srt fl w ps).length ≤ w.length := by
  rw [(srt_perm fl w ps).length_eq]
  unfold rd
  have := List.length_filter_le (rdy fl w ps) (List.range w.length)
  rwa [List.length_range] at this
theorem f19 : pg.fns[19]? = some ⟨2, 3, b_Counter_many⟩ := rfl
/-- what a call of many leaves -/
def Mn (c : Nat → Int) (fl : Nat → Nat → Bool) (w : List Nat) (n b d : Nat) (S : Sto) (mx : Nat) (S' : Sto) : Prop := ∃ kvs', Ct c fl w n b d kvs' S' ∧ Kn kvs' ∧ kvs'.length ≤ mx ∧ Gr d S S'
theorem dis {kvs : List (D × D)} {S : Sto} (h : Ct c fl w n b d kvs S) : n ≠ d ∧ b ≠ d := by
  refine ⟨fun e => ?_, fun e => ?_⟩
  · have h1 := h.ob
    rw [e, h.kn] at h1
    cases h1
  · have h1 := h.bk
    rw [e, h.kn] at h1
    cases h1
theorem Ct.put {kvs kvs' : List (D × D)} {S : Sto} (h : Ct c fl w n b d kvs S) : Ct c fl w n b d kvs' (S.set d (.dT kvs')) := ⟨by rw [List.getElem?_set_ne (Ne.symm (dis h).1)]; exact h.ob, by rw [List.getElem?_set_ne (Ne.symm (dis h).2)]; exact h.bk, set_at h.kn _⟩
theorem gr_set {i : Nat} {S S' : Sto} {o : O} (h : Gr i S S') : Gr i S (S'.set i o) := ⟨by simpa using h.1, fun q hq n => by rw [List.getElem?_set_ne (Ne.symm n)]; exact h.2 q hq n⟩
theorem gr_app {i : Nat} {S L S' : Sto} (h : Gr i (S ++ L) S') : Gr i S S' := ⟨by have := h.1; rw [List.length_append] at this; omega, fun q hq n => by rw [h.2 q (by rw [List.length_append]; omega) n, List.getElem?_append_left hq]⟩
theorem many_call (hw : w.length ≤ 6) : ∀ (t e : Nat) (ps : List Nat) (kvs : List (D × D)) (S : Sto), ps.length + t = w.length → Ps w ps → Ct c fl w n b d kvs S → Kn kvs → kvs.length + Cc t < 1000000 → S[0]? = some (.tab tq) →
    ∃ (m : Nat) (S' : Sto), callF pg (t + 2 + e) 19 [.ob n, .tup (nts ps)] S = .ok (.int (m : Int)) S' ∧ 1 ≤ m ∧ Mn c fl w n b d S (kvs.length + Cc t) S' := by
  intro t
  induction t with
  | zero =>
    intro e ps kvs S hl hps hC hK hn h0
    have key : ∃ (m : Nat) (S1 : Sto), evSs ⟨callF pg (1 + e), callF pg (1 + e - 1), pg.meth, pg.init, pg.lit, pg.isx⟩ b_Counter_many (startE 3 [.ob n, .tup (nts ps)]) S = .ret (.int (m : Int)) S1 ∧ 1 ≤ m ∧ Mn c fl w n b d S (kvs.length + Cc 0) S1 := by
      generalize (⟨callF pg (1 + e), callF pg (1 + e - 1), pg.meth, pg.init, pg.lit, pg.isx⟩ : Tab) = T
      have eρ : startE 3 [.ob n, .tup (nts ps)] = [some (.ob n), some (.tup (nts ps)), none] := rfl
      rw [eρ]
      have g1 := hC.ob
      have g3 := hC.kn
      have ok := okK (l := ps)
      cases q : dlook kvs (.tup (nts ps)) with
      | some v =>
        obtain ⟨m, hm, hv⟩ := hK _ (dlook_mem q)
        dsimp only at hv
        subst hv
        refine ⟨m, S, ?_, hm, kvs, hC, hK, by omega, .refl⟩
        unfold b_Counter_many
        simp only [ez, g1, lf3, g3, n_in_d ok, n_idx_d ok, q, Option.isSome_some]
      | none =>
        have hlen : decide (((nts ps).length : Int) = ((w.map (it c)).length : Int)) = true := decide_eq_true (by rw [nts_len, List.length_map]; omega)
        have g4 : (S.set d (O.dT (dput kvs (.tup (nts ps)) (.int 1))))[n]? = _ := (hC.put (kvs' := dput kvs (.tup (nts ps)) (.int 1))).ob
        have g5 : (S.set d (O.dT (dput kvs (.tup (nts ps)) (.int 1))))[d]? = _ := (hC.put (kvs' := dput kvs (.tup (nts ps)) (.int 1))).kn
        refine ⟨1, S.set d (.dT (dput kvs (.tup (nts ps)) (.int 1))), ?_, Nat.le_refl _, _, hC.put, hK.put (m := 1) (Nat.le_refl _), dput_len, gr_set .refl⟩
        unfold b_Counter_many
        unfold wd at g1 g4
        simp only [ez, g1, lf3, lf1, g3, n_in_d ok, q, Option.isSome_none, hlen, n_setD_d ok (show kvs.length < 1000000 by omega), g4, g5, n_idx_d ok, dlook_put]
        rfl
    obtain ⟨m, S1, eb, hm, hM⟩ := key
    obtain ⟨S', e', hP⟩ := call_any (fun S' => Mn c fl w n b d S (kvs.length + Cc 0) S') f19 rfl eb ⟨kvs, hC, hK, by omega, .refl⟩ hM
    rw [show 1 + e + 1 = 0 + 2 + e by omega] at e'
    exact ⟨m, S', e', hm, hP⟩
  | succ t ih =>
    intro e ps kvs S hl hps hC hK hn h0
    have key : ∃ (m : Nat) (S1 : Sto), evSs ⟨callF pg (t + 2 + e), callF pg (t + 2 + e - 1), pg.meth, pg.init, pg.lit, pg.isx⟩ b_Counter_many (startE 3 [.ob n, .tup (nts ps)]) S = .ret (.int (m : Int)) S1 ∧ 1 ≤ m ∧ Mn c fl w n b d S (kvs.length + Cc (t + 1)) S1 := by
      generalize hT : (⟨callF pg (t + 2 + e), callF pg (t + 2 + e - 1), pg.meth, pg.init, pg.lit, pg.isx⟩ : Tab) = T
      have hcf : T.cf = callF pg (t + 2 + e) := by rw [← hT]
      have hme : T.meth = P.methF := by rw [← hT]; rfl
      have eρ : startE 3 [.ob n, .tup (nts ps)] = [some (.ob n), some (.tup (nts ps)), none] := rfl
      rw [eρ]
      have g1 := hC.ob
      have g3 := hC.kn
      have ok := okK (l := ps)
      have m1 : T.meth 0 "ready" = some 18 := by rw [hme]; exact me1
      have m2 : T.meth 0 "many" = some 19 := by rw [hme]; exact me2
      have dl : d < S.length := (List.getElem?_eq_some_iff.mp g3).1
      cases q : dlook kvs (.tup (nts ps)) with
      | some v =>
        obtain ⟨m, hm, hv⟩ := hK _ (dlook_mem q)
        dsimp only at hv
        subst hv
        refine ⟨m, S, ?_, hm, kvs, hC, hK, by omega, .refl⟩
        unfold b_Counter_many
        simp only [ez, g1, lf3, g3, n_in_d ok, n_idx_d ok, q, Option.isSome_some]
      | none =>
        have hlen : decide (((nts ps).length : Int) = ((w.map (it c)).length : Int)) = false := decide_eq_false (by rw [nts_len, List.length_map]; omega)
        have hr := ready_call (k := t + 1 + e) (ps := ps) hC h0 (by omega) (by omega)
        rw [show t + 1 + e + 1 = t + 2 + e by omega, ← hcf] at hr
        have hC1 := hC.app (L := [.lst (nts (rd fl w ps w.length)), .lst (nts (srt fl w ps))])
        have gs : (S ++ [O.lst (nts (rd fl w ps w.length)), .lst (nts (srt fl w ps))])[S.length + 1]? = some (.lst (nts (srt fl w ps))) := by simp
        have s0 := app_keep (L := [.lst (nts (rd fl w ps w.length)), .lst (nts (srt fl w ps))]) h0
        generalize hS1 : (S ++ [O.lst (nts (rd fl w ps w.length)), .lst (nts (srt fl w ps))]) = S1 at hr hC1 gs s0
        have lp := compR_inv (v := { items := nts (srt fl w ps), watch := [(S.length + 1, nts (srt fl w ps))] }) (turn := turn1 (.nm 2) [2] (evT T .nil) (evE T (.meth (.var 0) "many" (.cons (.call "with_place" 2 (.cons (.var 1) (.cons (.var 2) (.nil)))) (.nil)))) [some (.ob n), some (.tup (nts ps)), none])
          (fun i acc S' => ∃ ms : List Nat, acc = nts ms ∧ ms.length = i ∧ i ≤ w.length ∧ (∀ m ∈ ms, 1 ≤ m) ∧ Mn c fl w n b d S1 (kvs.length + i * Cc t) S') (nts (srt fl w ps)) 0 [] S1 ⟨[], rfl, rfl, by omega, fun m hm => (nomatch hm), kvs, hC1, hK, by omega, .refl⟩
          (fun i acc S' ⟨ms, e1, e2, e3, _, kvs', _, _, _, gr⟩ => ⟨stays_at (by rw [gr.2 _ (by rw [← hS1]; simp) (by omega)]; exact gs), by rw [e1, nts_len]; omega⟩)
          (fun i x acc S' hx ⟨ms, e1, e2, e3, e4, kvs', c1, c2, c3, gr⟩ => by
            rw [Nat.zero_add] at e2 e3 c3 ⊢
            subst e1
            unfold nts at hx
            rw [List.getElem?_map] at hx
            obtain ⟨p, hp, rfl⟩ := Option.map_eq_some_iff.mp hx
            have hpm := List.mem_of_getElem? hp
            have hil : i < (srt fl w ps).length := (List.getElem?_eq_some_iff.mp hp).1
            have hsl := srt_len (fl := fl) (w := w) (ps := ps)
            obtain ⟨p1, p2, _⟩ := srt_ok hpm
            have hmul : kvs'.length + Cc t ≤ kvs.length + (i + 1) * Cc t := by rw [Nat.succ_mul]; omega
            have hmx : (i + 1) * Cc t ≤ 6 * Cc t := Nat.mul_le_mul_right _ (by omega)
            have hCc : Cc (t + 1) = 6 * Cc t + 1 := rfl
            obtain ⟨m, S'', em, hm, kvs'', d1, d2, d3, gr2⟩ := ih e (wp ps p) kvs' S' (by rw [wp_len]; omega) (hps.wp p1 p2) c1 c2 (by omega) (by rw [gr.2 0 (by rw [← hS1]; simp) (fun z => by subst z; rw [h0] at g3; cases g3)]; exact s0)
            have hwp := wp_call (k := t + 1 + e) (S := S') (ps := ps) (p := p) (by omega)
            rw [show t + 1 + e + 1 = t + 2 + e by omega] at hwp
            rw [← hcf] at hwp em
            refine ⟨[.int (m : Int)], S'', ?_, ms ++ [m], by simp [nts], by simp [e2], by omega, fun z hz => ?_, kvs'', d1, d2, by omega, gr.trans gr2⟩
            · rw [turn1_at (ρ' := [some (.ob n), some (.tup (nts ps)), some (.int (p : Int))]) (by simp [wipeE]) rfl, ev_t0, R.bind_ok, if_pos rfl]
              have gn := c1.ob
              simp only [ez, gn, lf5, m2, hwp, em]
              rfl
            · rcases List.mem_append.mp hz with hz | hz
              · exact e4 z hz
              · rw [show z = m by simpa using hz]; exact hm)
        obtain ⟨acc, S2, ec, ms, rfl, hml, _, hmm, kvs', c1, c2, c3, gr⟩ := lp
        rw [Nat.zero_add, nts_len] at hml c3
        have hsl := srt_len (fl := fl) (w := w) (ps := ps)
        have hne : srt fl w ps ≠ [] := fun z => rd_ne (fl := fl) (w := w) (ps := ps) (by omega) (List.eq_nil_of_length_eq_zero (by rw [← (srt_perm fl w ps).length_eq, z]; rfl))
        have hsum : ∃ m : Nat, 1 ≤ m ∧ (ms.map fun (j : Nat) => (j : Int)).sum = (m : Int) := by
          refine ⟨ms.sum, ?_, ?_⟩
          · cases ms with
            | nil => exact absurd (List.eq_nil_of_length_eq_zero hml.symm) hne
            | cons a r =>
              have := hmm a List.mem_cons_self
              simp only [List.sum_cons]
              omega
          · have : ∀ l : List Nat, (l.map fun (j : Nat) => (j : Int)).sum = ((l.sum : Nat) : Int) := fun l => by
              induction l with
              | nil => rfl
              | cons a l ih => rw [List.map_cons, List.sum_cons, List.sum_cons, ih]; omega
            exact this ms
        obtain ⟨m, hm, hs⟩ := hsum
        have hmx : (srt fl w ps).length * Cc t ≤ 6 * Cc t := Nat.mul_le_mul_right _ (by omega)
        have hCc : Cc (t + 1) = 6 * Cc t + 1 := rfl
        have hput := hC.put (kvs' := kvs)
        have g4 := c1.ob
        have g5 := c1.kn
        have g6 := (c1.put (kvs' := dput kvs' (.tup (nts ps)) (.int (m : Int)))).ob
        have g7 := (c1.put (kvs' := dput kvs' (.tup (nts ps)) (.int (m : Int)))).kn
        have gr' : Gr d S S2 := gr_app (by rw [hS1]; exact gr)
        refine ⟨m, S2.set d (.dT (dput kvs' (.tup (nts ps)) (.int (m : Int)))), ?_, hm, _, c1.put, c2.put hm, Nat.le_trans dput_len (by omega), gr_set gr'⟩
        unfold b_Counter_many
        unfold wd at g1 g4 g6
        simp only [ez, g1, lf3, lf1, g3, n_in_d ok, q, Option.isSome_none, hlen, lf4, m1, hr, gs, ec, allInt_nts, hs]
        simp only [ez, g4, lf3, g5, n_setD_d ok (show kvs'.length < 1000000 by omega), g6, g7, n_idx_d ok, dlook_put]
    obtain ⟨m, S1, eb, hm, hM⟩ := key
    obtain ⟨S', e', hP⟩ := call_any (fun S' => Mn c fl w n b d S (kvs.length + Cc (t + 1)) S') f19 rfl eb ⟨kvs, hC, hK, by omega, .refl⟩ hM
    rw [show t + 2 + e + 1 = t + 1 + 2 + e by omega] at e'
    exact ⟨m, S', e', hm, hP⟩
end
end K53

set_option Elab.async false
set_option linter.all false
set_option maxRecDepth 100000
set_option maxHeartbeats 2000000
namespace K53
open PySem PL
/-! ### row_at -/
def rem (n : Nat) (ps : List Nat) : List Nat := (List.range n).filter fun i => !decide (i ∈ ps)
theorem rem_mem {n i : Nat} {ps : List Nat} : i ∈ rem n ps ↔ i < n ∧ i ∉ ps := by
  unfold rem
  rw [List.mem_filter, List.mem_range]
  simp
theorem rem_nd {n : Nat} {ps : List Nat} : (rem n ps).Nodup := List.nodup_range.filter _
theorem rem_wp {n p : Nat} {ps : List Nat} : rem n (wp ps p) = (rem n ps).erase p := by
  rw [rem_nd.erase_eq_filter]
  unfold rem
  rw [List.filter_filter]
  refine List.filter_congr fun i _ => ?_
  rw [Bool.eq_iff_iff]
  simp only [Bool.not_eq_true', decide_eq_false_iff_not, wp_mem, Bool.and_eq_true, bne_iff_ne]
  exact ⟨fun h => ⟨fun z => h (.inr z), fun z => h (.inl z)⟩, fun ⟨a, b⟩ z => z.elim b a⟩
theorem take_gr {d : Nat} {S S' : Sto} (h : Gr d S S') (hd : S.length ≤ d) : S'.take S.length = S := by
  apply List.ext_getElem?
  intro i
  by_cases hi : i < S.length
  · rw [List.getElem?_take_of_lt hi, h.2 i hi (by omega)]
  · rw [List.getElem?_eq_none (by rw [List.length_take]; omega), List.getElem?_eq_none (by omega)]
section
variable {c : Nat → Int} {fr : D} {fl : Nat → Nat → Bool} {w : List Nat} {n b d m : Nat}
theorem srt_rdy {ps : List Nat} {p : Nat} {rest : List Nat} (h : srt fl w ps = p :: rest) : M53.Rdy (pb fl) (fun i => w.getD i 0) (rem w.length ps) p ∧ ∀ q, M53.Rdy (pb fl) (fun i => w.getD i 0) (rem w.length ps) q → ¬ w.getD q 0 < w.getD p 0 := by
  have hp : p ∈ srt fl w ps := by rw [h]; exact List.mem_cons_self
  obtain ⟨h1, h2, h3⟩ := srt_ok hp
  refine ⟨⟨rem_mem.mpr ⟨h1, h2⟩, fun q hq lt => ?_⟩, fun q ⟨hq, hb⟩ lt => ?_⟩
  · cases e : pb fl (w.getD q 0) (w.getD p 0) with
    | true => rfl
    | false => exact absurd (h3 q lt e) (rem_mem.mp hq).2
  · obtain ⟨q1, q2⟩ := rem_mem.mp hq
    have hm : q ∈ srt fl w ps := by
      rw [(srt_perm fl w ps).mem_iff]
      unfold rd
      rw [List.mem_filter, List.mem_range]
      refine ⟨q1, ?_⟩
      unfold rdy
      rw [decide_eq_false q2, Bool.not_false, Bool.true_and, List.all_eq_true]
      intro j hj
      unfold bk at hj
      obtain ⟨j1, j2⟩ := List.mem_filter.mp hj
      have j1 := List.mem_range.mp j1
      rw [decide_eq_true_eq]
      refine Classical.byContradiction fun z => ?_
      have := hb j (rem_mem.mpr ⟨by omega, z⟩) j1
      rw [this] at j2
      cases j2
    have hs := srt_sorted fl w ps
    rw [h] at hs hm
    rcases List.mem_cons.mp hm with rfl | hm
    · omega
    · have := (List.pairwise_cons.mp hs).1 q hm
      omega
def bI : Ss := .cons (.asg (.nm 8) (.meth (.var 3) "many" (.cons (.call "with_place" 2 (.cons (.var 4) (.cons (.var 7) (.nil)))) (.nil)))) <|
    .cons (.ite (.cmp .Lt (.var 2) (.var 8)) (.cons (.brk) <|
    .nil) (.nil)) <|
    .cons (.aug 2 .Sub (.var 8)) <|
    .nil
def bT : Ss := .cons (.for_ (.nm 7) (.ofE (.meth (.var 3) "ready" (.cons (.var 4) (.nil)))) bI) <|
    .cons (.asg (.nm 4) (.call "with_place" 2 (.cons (.var 4) (.cons (.var 7) (.nil))))) <|
    .cons (.ex (.bm .append (.var 5) (.cons (.idx (.var 1) (.var 7)) (.nil)))) <|
    .nil
theorem row_turn {T : Tab} {e q : Nat} {S : Sto} {ps acc : List Nat} {kvs : List (D × D)} {x0 x6 x7 x8 : Option D} (hcf : T.cf = callF pg (10 + e)) (hme : T.meth = P.methF) (hw : w.length ≤ 6) (hl : ps.length < w.length) (hps : Ps w ps) (hC : Ct c fl w n b d kvs S) (hK : Kn kvs) (hn : kvs.length + Cc 6 < 1000000) (h0 : S[0]? = some (.tab tq)) (hm : S[m]? = some (.lst (acc.map (it c)))) (ha : acc.length ≤ 6) (mb : m ≠ b) :
    ∃ (p : Nat) (S' : Sto) (y8 : Option D), evSs T bT [x0, some (wd c w), some (.int 0), some (.ob n), some (.tup (nts ps)), some (.ob m), x6, x7, x8] S = .nx [x0, some (wd c w), some (.int 0), some (.ob n), some (.tup (nts (wp ps p))), some (.ob m), x6, some (.int (p : Int)), y8] S' ∧
      p < w.length ∧ p ∉ ps ∧ (∀ r, M53.GreP (pb fl) (fun i => w.getD i 0) (rem w.length (wp ps p)) r → M53.GreP (pb fl) (fun i => w.getD i 0) (rem w.length ps) (w.getD p 0 :: r)) ∧ S'[m]? = some (.lst ((acc ++ [w.getD p 0]).map (it c))) ∧ ∃ kvs', Ct c fl w n b d kvs' S' ∧ Kn kvs' ∧ kvs'.length ≤ kvs.length + Cc 6 ∧ S.length ≤ S'.length ∧ ∀ i, i < S.length → i ≠ d → i ≠ m → S'[i]? = S[i]? := by
  cases hs : srt fl w ps with
  | nil => exact absurd (List.eq_nil_of_length_eq_zero (by rw [← (srt_perm fl w ps).length_eq, hs]; rfl)) (rd_ne (fl := fl) hl)
  | cons p rest =>
    obtain ⟨r1, r2⟩ := srt_rdy hs
    have hp : p ∈ srt fl w ps := by rw [hs]; exact List.mem_cons_self
    obtain ⟨p1, p2, _⟩ := srt_ok hp
    have m1 : T.meth 0 "ready" = some 18 := by rw [hme]; exact me1
    have m2 : T.meth 0 "many" = some 19 := by rw [hme]; exact me2
    have hr := ready_call (k := 9 + e) (ps := ps) hC h0 (by omega) (by omega)
    rw [show 9 + e + 1 = 10 + e by omega, ← hcf, hs] at hr
    have hC1 := hC.app (L := [.lst (nts (rd fl w ps w.length)), .lst (nts (p :: rest))])
    have gs : (S ++ [O.lst (nts (rd fl w ps w.length)), .lst (nts (p :: rest))])[S.length + 1]? = some (.lst (nts (p :: rest))) := by simp
    have s0 := app_keep (L := [.lst (nts (rd fl w ps w.length)), .lst (nts (p :: rest))]) h0
    have sm := app_keep (L := [.lst (nts (rd fl w ps w.length)), .lst (nts (p :: rest))]) hm
    have so : ∀ i, i < S.length → (S ++ [O.lst (nts (rd fl w ps w.length)), .lst (nts (p :: rest))])[i]? = S[i]? := fun i hi => List.getElem?_append_left hi
    have sl : S.length ≤ (S ++ [O.lst (nts (rd fl w ps w.length)), .lst (nts (p :: rest))]).length := by simp
    generalize (S ++ [O.lst (nts (rd fl w ps w.length)), .lst (nts (p :: rest))]) = S1 at hr hC1 gs s0 sm so sl
    have nd : m ≠ d := fun z => by rw [z, hC.kn] at hm; cases hm
    have tl : w.length - (ps.length + 1) ≤ 6 := by omega
    have hCm : ∀ t, t ≤ 6 → Cc t ≤ Cc 6 := by decide
    obtain ⟨sz, S2, em, hsz, kvs', c1, c2, c3, gr⟩ := many_call (fl := fl) hw (w.length - (ps.length + 1)) (8 + e - (w.length - (ps.length + 1))) (wp ps p) kvs S1 (by rw [wp_len]; omega) (hps.wp p1 p2) hC1 hK (by have := hCm _ tl; omega) s0
    rw [show w.length - (ps.length + 1) + 2 + (8 + e - (w.length - (ps.length + 1))) = 10 + e by omega, ← hcf] at em
    have hwp := fun S => wp_call (k := 9 + e) (S := S) (ps := ps) (p := p) (by omega)
    rw [show 9 + e + 1 = 10 + e by omega, ← hcf] at hwp
    have gn := hC1.ob
    have lt : decide ((0 : Int) < (sz : Int)) = true := decide_eq_true (by omega)
    have bi : evSs T bI [x0, some (wd c w), some (.int 0), some (.ob n), some (.tup (nts ps)), some (.ob m), x6, some (.int (p : Int)), x8] S1 = .brk [x0, some (wd c w), some (.int 0), some (.ob n), some (.tup (nts ps)), some (.ob m), x6, some (.int (p : Int)), some (.int (sz : Int))] S2 := by
      unfold bI
      simp only [ez, gn, lf5, m2, hwp, em, lt]
    have sm2 : S2[m]? = some (.lst (acc.map (it c))) := by rw [gr.2 m (List.getElem?_eq_some_iff.mp sm).1 nd]; exact sm
    have gp : atI (w.map (it c)) (p : Int) = some (it c (w.getD p 0)) := by rw [atI_n]; exact wd_get p1
    have fb : forR (nts (p :: rest)) { items := nts (p :: rest), watch := [(S.length + 1, nts (p :: rest))] } (bodyR (.nm 7) (evSs T bI)) [x0, some (wd c w), some (.int 0), some (.ob n), some (.tup (nts ps)), some (.ob m), x6, x7, x8] S1 = .nx [x0, some (wd c w), some (.int 0), some (.ob n), some (.tup (nts ps)), some (.ob m), x6, some (.int (p : Int)), some (.int (sz : Int))] S2 :=
      for_brk (stays_at gs) ((body_nm (show 7 < 9 by decide)).trans bi)
    refine ⟨p, S2.set m (.lst ((acc ++ [w.getD p 0]).map (it c))), some (.int (sz : Int)), ?_, p1, p2, fun r hr => .cons r1 r2 (by rw [← rem_wp]; exact hr), set_at sm2 _, kvs', ⟨by rw [List.getElem?_set_ne (fun z => by rw [z, c1.ob] at sm2; cases sm2)]; exact c1.ob, ?_, by rw [List.getElem?_set_ne nd]; exact c1.kn⟩, c2, by have := hCm _ tl; omega, by simp only [List.length_set]; exact Nat.le_trans sl gr.1, fun i hi h1 h2 => by rw [List.getElem?_set_ne (Ne.symm h2), gr.2 i (by omega) h1]; exact so i hi⟩
    · have g1 := hC.ob
      unfold bT
      unfold wd at fb ⊢
      simp only [ez, g1, lf4, m1, hr, gs, fb, hwp, sm2, gp, List.length_map, show acc.length < 10000000 by omega, List.map_append, List.map_cons, List.map_nil]
    · rw [List.getElem?_set_ne mb]; exact c1.bk
theorem f3 : pg.fns[3]? = some ⟨3, 9, b_row_at⟩ := rfl
theorem rem0 {n : Nat} : rem n [] = List.range n := by
  unfold rem
  rw [List.filter_eq_self]
  intro a _
  rfl
theorem rem_full {ps : List Nat} (h : Ps w ps) (hl : ps.length = w.length) : rem w.length ps = [] := by
  rw [List.eq_nil_iff_forall_not_mem]
  intro i hi
  obtain ⟨h1, h2⟩ := rem_mem.mp hi
  have nd : (i :: ps).Nodup := List.nodup_cons.mpr ⟨h2, h.nd⟩
  have := List.Nodup.length_le_of_subset nd (fun x hx => by
    rcases List.mem_cons.mp hx with rfl | hx
    · exact List.mem_range.mpr h1
    · exact List.mem_range.mpr (h.lt x hx) : ∀ x ∈ i :: ps, x ∈ List.range w.length)
  rw [List.length_cons, List.length_range] at this
  omega
theorem row_call {e : Nat} {S : Sto} (h : Fre c fr fl) (hw : w.length ≤ 6) (h0 : S[0]? = some (.tab tq)) : ∃ r, callF pg (11 + e) 3 [fr, wd c w, .int 0] S = .ok (wd c r) S ∧ M53.GreP (pb fl) (fun i => w.getD i 0) (List.range w.length) r := by
  have key : ∃ (r : List Nat) (S' : Sto), evSs ⟨callF pg (10 + e), callF pg (10 + e - 1), pg.meth, pg.init, pg.lit, pg.isx⟩ b_row_at (startE 9 [fr, wd c w, .int 0]) S = .ret (wd c r) S' ∧ M53.GreP (pb fl) (fun i => w.getD i 0) (List.range w.length) r ∧ S'.take S.length = S := by
    generalize hT : (⟨callF pg (10 + e), callF pg (10 + e - 1), pg.meth, pg.init, pg.lit, pg.isx⟩ : Tab) = T
    have hcf : T.cf = callF pg (10 + e) := by rw [← hT]
    have hcn : T.cn = callF pg (9 + e) := by rw [← hT]; show callF pg (10 + e - 1) = _; rw [show 10 + e - 1 = 9 + e by omega]
    have hme : T.meth = P.methF := by rw [← hT]; rfl
    have hin : T.init 0 = some 17 := by rw [← hT]; exact in1
    have hi := init_call (k := 6 + e) (S := S) h (by omega : w.length ≤ 1000)
    rw [show 6 + e + 3 = 9 + e by omega, ← hcn] at hi
    have hC0 : Ct c fl w S.length (S.length + 1) (S.length + 2) [] (S ++ [.ins 0 (flds (wd c w) (S.length + 1) (S.length + 2)), .lst (bks fl w), .dT []]) := ⟨by simp, by simp, by simp⟩
    have gr0 : Gr (S.length + 2) S (S ++ [.ins 0 (flds (wd c w) (S.length + 1) (S.length + 2)), .lst (bks fl w), .dT []]) := ⟨by simp, fun q hq _ => List.getElem?_append_left hq⟩
    have s0 : (S ++ [O.ins 0 (flds (wd c w) (S.length + 1) (S.length + 2)), .lst (bks fl w), .dT []])[0]? = _ := app_keep (L := [.ins 0 (flds (wd c w) (S.length + 1) (S.length + 2)), .lst (bks fl w), .dT []]) h0
    have sl0 : S.length + 3 ≤ (S ++ [O.ins 0 (flds (wd c w) (S.length + 1) (S.length + 2)), .lst (bks fl w), .dT []]).length := by simp
    generalize (S ++ [O.ins 0 (flds (wd c w) (S.length + 1) (S.length + 2)), .lst (bks fl w), .dT []]) = S1 at hi hC0 gr0 s0 sl0
    have hCm : ∀ t, t ≤ 6 → Cc t ≤ Cc 6 := by decide
    have hC6 : Cc 6 = 55987 := by decide
    have m2 : T.meth 0 "many" = some 19 := by rw [hme]; exact me2
    obtain ⟨mz, S2, em, hmz, kvs1, c1, c2, c3, gr1⟩ := many_call (fl := fl) hw w.length (8 + e - w.length) [] [] S1 (by simp) ⟨by simp, fun i hi => nomatch hi⟩ hC0 (fun x hx => nomatch hx) (by have := hCm _ hw; simp; omega) s0
    rw [show w.length + 2 + (8 + e - w.length) = 10 + e by omega, ← hcf] at em
    have em : T.cf 19 [.ob S.length, .tup []] S1 = .ok (.int (mz : Int)) S2 := em
    have gn := hC0.ob
    have lt : decide ((0 : Int) < (mz : Int)) = true := decide_eq_true (by omega)
    have sm : small ((w.map (it c)).length : Int) = true := small_of (by rw [List.length_map]; omega)
    have l2 : S.length + 3 ≤ S2.length := Nat.le_trans sl0 gr1.1
    have lp := forR_inv (v := { items := rngD 0 w.length 1 }) (body := bodyR (.nm 6) (evSs T bT)) (fun q ρ S' => ∃ (ps acc : List Nat) (x6 x7 x8 : Option D) (kvs : List (D × D)), ρ = [some fr, some (wd c w), some (.int 0), some (.ob S.length), some (.tup (nts ps)), some (.ob S2.length), x6, x7, x8] ∧ q ≤ w.length ∧ ps.length = q ∧ acc.length = q ∧ Ps w ps ∧
        (∀ r, M53.GreP (pb fl) (fun i => w.getD i 0) (rem w.length ps) r → M53.GreP (pb fl) (fun i => w.getD i 0) (List.range w.length) (acc ++ r)) ∧ S'[S2.length]? = some (.lst (acc.map (it c))) ∧ Ct c fl w S.length (S.length + 1) (S.length + 2) kvs S' ∧ Kn kvs ∧ kvs.length ≤ (q + 1) * Cc 6 ∧ S2.length < S'.length ∧ S'[0]? = some (.tab tq) ∧ ∀ i, i < S.length → S'[i]? = S[i]?)
      (rngD 0 w.length 1) 0 [some fr, some (wd c w), some (.int 0), some (.ob S.length), some (.tup []), some (.ob S2.length), none, none, none] (S2 ++ [.lst []])
      ⟨[], [], none, none, none, kvs1, rfl, by omega, rfl, rfl, ⟨by simp, fun i hi => nomatch hi⟩, fun r hr => by rw [rem0] at hr; exact hr, by simp, c1.app, c2, by have := hCm _ hw; simp at c3 ⊢; omega, by simp, app_keep (by rw [gr1.2 0 (by omega) (by omega)]; exact s0), fun i hi => by rw [List.getElem?_append_left (by omega), gr1.2 i (by omega) (by omega), gr0.2 i hi (by omega)]⟩ (fun _ _ _ _ => rfl) (fun q x ρ S' hx ⟨ps, acc, x6, x7, x8, kvs, e1, e2, e3, e4, hps, hg, hm, hC, hK, hk, hl, h0', hS⟩ => by
        subst e1
        rw [Nat.zero_add] at e2 e3 e4 hk ⊢
        have hq : q < w.length := by
          have := (List.getElem?_eq_some_iff.mp hx).1
          rw [rngD_len] at this
          exact this
        have hb : (q + 1) * Cc 6 ≤ 6 * Cc 6 := Nat.mul_le_mul_right _ (by omega)
        obtain ⟨p, S3, y8, et, p1, p2, p3, p4, kvs', d1, d2, d3, d4, d5⟩ := row_turn (T := T) (e := e) (q := q) (x0 := some fr) (x6 := some x) (x7 := x7) (x8 := x8) hcf hme hw (by omega) hps hC hK (by omega) h0' hm (by omega) (by omega)
        refine ⟨_, S3, .inl ((body_nm (show 6 < 9 by decide)).trans et), wp ps p, acc ++ [w.getD p 0], _, _, _, kvs', rfl, by omega, by rw [wp_len]; omega, by simp; omega, hps.wp p1 p2, fun r hr => ?_, p4, d1, d2, by rw [Nat.succ_mul]; omega, by omega, ?_, fun i hi => ?_⟩
        · rw [List.append_assoc]
          exact hg _ (p3 r hr)
        · rw [d5 0 (by omega) (by omega) (by omega)]
          exact h0'
        · rw [d5 i (by omega) (by omega) (by omega)]
          exact hS i hi)
    obtain ⟨ρ', S3, e3, ps, acc, x6, x7, x8, kvs, rfl, _, q2, q3, hps, hg, hm, _, _, _, hl, _, hS⟩ := lp
    rw [rngD_len, Nat.zero_add] at q2 q3
    refine ⟨acc, S3, ?_, ?_, ?_⟩
    · have eρ : startE 9 [fr, wd c w, .int 0] = [some fr, some (wd c w), some (.int 0), none, none, none, none, none, none] := rfl
      rw [eρ]
      have z0 : decide ((0 : Int) ≤ 0) = true := by decide
      unfold bT bI at e3
      unfold b_row_at
      unfold wd at e3 hi gn ⊢
      simp only [List.length_map] at sm
      simp only [ez, hin, hi, gn, lf5, m2, em, z0, lt, List.length_map, sm, Int.toNat_natCast]
      simp only [ez, e3, hm]
    · have := hg [] (by rw [rem_full hps q2]; exact .nil)
      rwa [List.append_nil] at this
    · apply List.ext_getElem?
      intro i
      by_cases hi : i < S.length
      · rw [List.getElem?_take_of_lt hi, hS i hi]
      · rw [List.getElem?_eq_none (by rw [List.length_take]; omega), List.getElem?_eq_none (by omega)]
  obtain ⟨r, S', eb, hg, ht⟩ := key
  refine ⟨r, ?_, hg⟩
  rw [show 11 + e = 10 + e + 1 by omega]
  exact call_of f3 rfl eb (dat_low wd_dat) ht
end
end K53

set_option Elab.async false
set_option linter.all false
set_option maxRecDepth 100000
set_option maxHeartbeats 2000000
namespace K53
open PySem PL
open M53 (Mx Ls Tr)
/-! ### the ways of a layer, one item more -/
section
variable {c : Nat → Int} {fr : D} {fl : Nat → Nat → Bool} {w : List Nat} {k : Nat}
theorem range_get (w : List Nat) : (List.range w.length).map (fun i => w.getD i 0) = w := by
  apply List.ext_getElem
  · simp
  · intro i h1 h2
    simp [List.getD_eq_getElem?_getD, List.getElem?_eq_getElem h2]
theorem row_ls {e : Nat} {S : Sto} (h : Fre c fr fl) (hw : w.length ≤ 6) (h0 : S[0]? = some (.tab tq)) : ∃ r, callF pg (11 + e) 3 [fr, wd c w, .int 0] S = .ok (wd c r) S ∧ Ls (pb fl) w r := by
  obtain ⟨r, e1, g⟩ := row_call (e := e) h hw h0
  have g2 := g.gre (pb_irr fl) List.pairwise_lt_range
  rw [range_get] at g2
  exact ⟨r, e1, g2.lst (pb_sym fl) fun a z => by have h1 := pb_irr fl a; rw [show pb fl a a = true from z] at h1; cases h1⟩
theorem in_wds {l : List (List Nat)} {r : List Nat} : inD (wd c r) (l.map (wd c)) = some (decide (r ∈ l)) := by
  have h2 := wd_dep (c := c) (w := r)
  rw [inD_dat wd_dat (dats_all.mpr cmp_wds.1) (by omega) (deps_le.mpr fun x hx => by
    obtain ⟨u, _, rfl⟩ := List.mem_map.mp hx
    have := wd_dep (c := c) (w := u)
    omega)]
  congr 1
  rw [Bool.eq_iff_iff, decide_eq_true_eq, decide_eq_true_eq, List.mem_map]
  exact ⟨fun ⟨u, hu, e⟩ => wd_inj.mp e ▸ hu, fun h => ⟨r, h, rfl⟩⟩
def bW : Ss := .cons (.asg (.nm 11) (.call "row_at" 3 (.cons (.var 0) (.cons (.bin .Add (.var 10) (.tup (.cons (.idx (.var 7) (.idx (.var 4) (.var 6))) (.nil)))) (.cons (.cst (.int 0)) (.nil)))))) <|
    .cons (.ite (.cmp .NotIn (.var 11) (.var 9)) (.cons (.ex (.bm .append (.var 9) (.cons (.var 11) (.nil)))) <|
    .nil) (.nil)) <|
    .nil
theorem lst_len {u r : List Nat} (h : Ls (pb fl) u r) : r.length = u.length := (h.1.length).symm
theorem ways_loop {T : Tab} {e : Nat} {S : Sto} {pl row : List Nat} {ws kn : List (List Nat)} {i iw p x : Nat} {x1 x2 x3 x8 x10 x11 : Option D} (hcf : T.cf = callF pg (11 + e)) (h : Fre c fr fl) (h0 : S[0]? = some (.tab tq)) (hiw : S[iw]? = some (.lst (ws.map (wd c)))) (hi : S[i]? = some (.lst (kn.map (wd c)))) (ne : iw ≠ i)
    (hp : pl[k]? = some p) (hx : row[p]? = some x) (hl : ∀ u ∈ ws, u.length ≤ 5) (nd : kn.Nodup) (hb : kn.length + ws.length ≤ 100000) :
    ∃ (kn' : List (List Nat)) (S' : Sto) (y10 y11 : Option D), forR (ws.map (wd c)) { items := ws.map (wd c), watch := [(iw, ws.map (wd c))] } (bodyR (.nm 10) (evSs T bW)) [some fr, x1, x2, x3, some (.tup (nts pl)), some (.ob iw), some (.int (k : Int)), some (wd c row), x8, some (.ob i), x10, x11] S = .nx [some fr, x1, x2, x3, some (.tup (nts pl)), some (.ob iw), some (.int (k : Int)), some (wd c row), x8, some (.ob i), y10, y11] S' ∧
      kn'.Nodup ∧ (∀ r, r ∈ kn' ↔ r ∈ kn ∨ ∃ u ∈ ws, Ls (pb fl) (u ++ [x]) r) ∧ S'[i]? = some (.lst (kn'.map (wd c))) ∧ But i S S' := by
  have pg1 : atI (nts pl) (k : Int) = some (.int (p : Int)) := by rw [atI_n]; unfold nts; rw [List.getElem?_map, hp]; rfl
  have pg2 : atI (row.map (it c)) (p : Int) = some (it c x) := by rw [atI_n, List.getElem?_map, hx]; rfl
  have i0 : i ≠ 0 := fun z => by rw [z, h0] at hi; cases hi
  have lp := forR_inv (v := { items := ws.map (wd c), watch := [(iw, ws.map (wd c))] }) (body := bodyR (.nm 10) (evSs T bW)) (fun q ρ S' => ∃ (kn' : List (List Nat)) (y10 y11 : Option D), ρ = [some fr, x1, x2, x3, some (.tup (nts pl)), some (.ob iw), some (.int (k : Int)), some (wd c row), x8, some (.ob i), y10, y11] ∧
      kn'.Nodup ∧ (∀ r, r ∈ kn' ↔ r ∈ kn ∨ ∃ u ∈ ws.take q, Ls (pb fl) (u ++ [x]) r) ∧ S'[i]? = some (.lst (kn'.map (wd c))) ∧ But i S S' ∧ kn'.length ≤ kn.length + q)
    (ws.map (wd c)) 0 _ S ⟨kn, x10, x11, rfl, nd, fun r => by simp, hi, .refl, by omega⟩ (fun _ _ S' ⟨_, _, _, _, _, _, _, hb, _⟩ => stays_at (by rw [hb.2 iw ne]; exact hiw)) (fun q y ρ S' hy ⟨kn', y10, y11, e1, d1, d2, d3, d4, d5⟩ => by
      subst e1
      rw [Nat.zero_add] at d2 d5 ⊢
      rw [List.getElem?_map] at hy
      obtain ⟨u, hu, rfl⟩ := Option.map_eq_some_iff.mp hy
      have hum := List.mem_of_getElem? hu
      have hql := (List.getElem?_eq_some_iff.mp hu).1
      have ul := hl u hum
      obtain ⟨r, er, lr⟩ := row_ls (w := u ++ [x]) (e := e) (S := S') h (by simp; omega) (by rw [d4.2 0 (Ne.symm i0)]; exact h0)
      rw [← hcf] at er
      have tk : ws.take (q + 1) = ws.take q ++ [u] := by rw [List.take_add_one, hu]; rfl
      have wu : wd c (u ++ [x]) = .tup (u.map (it c) ++ [it c x]) := by simp [wd]
      have hcat : binD .Add (wd c u) (.tup [it c x]) = some (wd c (u ++ [x])) := by
        rw [wu]
        exact n_catT (line_le (by simp; omega))
      have uniq : ∀ r', Ls (pb fl) (u ++ [x]) r' → r' = r := fun r' h' => M53.ls_uniq (pb_sym fl) h' lr (.refl _)
      have inw := in_wds (c := c) (l := kn') (r := r)
      have st0 : ∀ z : Option D, evSs T bW [some fr, x1, x2, x3, some (.tup (nts pl)), some (.ob iw), some (.int (k : Int)), some (wd c row), x8, some (.ob i), some (wd c u), z] S' = .nx [some fr, x1, x2, x3, some (.tup (nts pl)), some (.ob iw), some (.int (k : Int)), some (wd c row), x8, some (.ob i), some (wd c u), some (wd c r)] (if r ∈ kn' then S' else S'.set i (.lst (kn'.map (wd c) ++ [wd c r]))) := fun z => by
        unfold bW
        have pg3 : idxD S' (wd c row) (.int (p : Int)) = some (it c x) := pg2
        by_cases hm : r ∈ kn'
        · rw [decide_eq_true hm] at inw
          simp only [ez, pg1, pg3, hcat, er, d3, inw, if_pos hm]
        · rw [decide_eq_false hm] at inw
          simp only [ez, pg1, pg3, hcat, er, d3, inw, if_neg hm, List.length_map, show kn'.length < 10000000 by omega]
      by_cases hm : r ∈ kn'
      · refine ⟨_, S', .inl ((body_nm (show 10 < 12 by decide)).trans (by have z := st0 y11; rw [if_pos hm] at z; exact z)), kn', _, _, rfl, d1, fun r' => ?_, d3, d4, by omega⟩
        rw [d2 r', tk]
        constructor
        · rintro (h1 | ⟨u', h1, h2⟩)
          · exact .inl h1
          · exact .inr ⟨u', List.mem_append_left _ h1, h2⟩
        · rintro (h1 | ⟨u', h1, h2⟩)
          · exact .inl h1
          · rcases List.mem_append.mp h1 with h1 | h1
            · exact .inr ⟨u', h1, h2⟩
            · have : u' = u := by simpa using h1
              subst this
              rw [uniq r' h2]
              exact (d2 r).mp hm
      · refine ⟨_, _, .inl ((body_nm (show 10 < 12 by decide)).trans (by have z := st0 y11; rw [if_neg hm] at z; exact z)), kn' ++ [r], _, _, rfl, ?_, fun r' => ?_, ?_, d4.trans ⟨List.length_set, fun j hj => List.getElem?_set_ne (Ne.symm hj)⟩, by simp; omega⟩
        · rw [List.nodup_append]
          refine ⟨d1, by simp, fun a ha b hb => ?_⟩
          have : b = r := by simpa using hb
          rw [this]
          exact fun z => hm (z ▸ ha)
        · rw [List.mem_append, d2 r', tk]
          constructor
          · rintro ((h1 | ⟨u', h1, h2⟩) | h1)
            · exact .inl h1
            · exact .inr ⟨u', List.mem_append_left _ h1, h2⟩
            · have : r' = r := by simpa using h1
              subst this
              exact .inr ⟨u, by simp, lr⟩
          · rintro (h1 | ⟨u', h1, h2⟩)
            · exact .inl (.inl h1)
            · rcases List.mem_append.mp h1 with h1 | h1
              · exact .inl (.inr ⟨u', h1, h2⟩)
              · have : u' = u := by simpa using h1
                subst this
                rw [uniq r' h2]
                exact .inr (by simp)
        · rw [set_at d3]
          simp)
  obtain ⟨ρ', S', e1, kn', y10, y11, rfl, d1, d2, d3, d4, _⟩ := lp
  refine ⟨kn', S', y10, y11, e1, d1, fun r => ?_, d3, d4⟩
  rw [d2 r, List.length_map, Nat.zero_add, List.take_length]
end
end K53

set_option Elab.async false
set_option linter.all false
set_option maxRecDepth 100000
set_option maxHeartbeats 2000000
namespace K53
open PySem PL
open M53 (Mx Ls Tr)
/-! ### layers in the store -/
theorem cut_pre {α : Type} {l : List α} {b : Nat} (h : b ≤ l.length) : cut l none (some (b : Int)) = l.take b := by
  unfold cut
  rw [HT.sIx_none, HT.sIx_nat, Nat.min_eq_left h, List.drop_zero, Nat.sub_zero]
theorem cut_suf {α : Type} {l : List α} {b : Nat} (h : b ≤ l.length) : cut l (some (b : Int)) none = l.drop b := by
  unfold cut
  rw [HT.sIx_none, HT.sIx_nat, Nat.min_eq_left h]
  exact List.take_of_length_le (by simp)
theorem nts_inj {a b : List Nat} (h : nts a = nts b) : a = b := by
  unfold nts at h
  have := congrArg (List.map fun d : D => match d with | .int i => i.toNat | _ => 0) h
  rw [List.map_map, List.map_map] at this
  have e : ∀ l : List Nat, l.map ((fun d : D => match d with | .int i => i.toNat | _ => 0) ∘ fun (j : Nat) => D.int (j : Int)) = l := fun l => (List.map_congr_left fun a _ => by simp).trans (List.map_id l)
  rw [e, e] at this
  exact this
theorem key_inj {a b : List Nat} : D.tup (nts a) = .tup (nts b) ↔ a = b := ⟨fun h => nts_inj (by injection h), fun h => by rw [h]⟩
abbrev Lm := List (List Nat × List (List Nat))
def enc (z : (List Nat × List (List Nat)) × Nat) : D × D := (.tup (nts z.1.1), .ob z.2)
structure LD (c : Nat → Int) (S : Sto) (kvs : List (D × D)) (m : Lm) (is : List Nat) : Prop where
  len : is.length = m.length
  nd : is.Nodup
  kn : (m.map (·.1)).Nodup
  kv : kvs = (m.zip is).map enc
  obj : ∀ (j : Nat) (z : List Nat × List (List Nat)) (i : Nat), m[j]? = some z → is[j]? = some i → S[i]? = some (.lst (z.2.map (wd c)))
theorem look_zip : ∀ {m : Lm} {is : List Nat} {j i : Nat} {z : List Nat × List (List Nat)}, (m.map (·.1)).Nodup → m[j]? = some z → is[j]? = some i → dlook ((m.zip is).map enc) (.tup (nts z.1)) = some (.ob i)
  | [], _, j, _, _, _, h, _ => by simp at h
  | _ :: _, [], j, _, _, _, _, h => by simp at h
  | a :: m, b :: is, 0, i, z, _, h1, h2 => by
    have e1 : a = z := by simpa using h1
    have e2 : b = i := by simpa using h2
    subst e1 e2
    unfold dlook
    simp [enc]
  | a :: m, b :: is, j + 1, i, z, nd, h1, h2 => by
    rw [List.map_cons, List.nodup_cons] at nd
    have h1 : m[j]? = some z := by simpa using h1
    have ne : ¬ D.tup (nts a.1) = .tup (nts z.1) := fun e => nd.1 (by rw [key_inj.mp e]; exact List.mem_map.mpr ⟨z, List.mem_of_getElem? h1, rfl⟩)
    have ih := look_zip nd.2 h1 (show is[j]? = some i by simpa using h2)
    unfold dlook at ih ⊢
    rw [List.zip_cons_cons, List.map_cons, List.find?_cons]
    have : decide ((enc (a, b)).1 = D.tup (nts z.1)) = false := decide_eq_false ne
    rw [this]
    exact ih
theorem look_none {m : Lm} {is : List Nat} {pl : List Nat} (h : pl ∉ m.map (·.1)) : dlook ((m.zip is).map enc) (.tup (nts pl)) = none := by
  unfold dlook
  rw [Option.map_eq_none_iff, List.find?_eq_none]
  intro x hx hp
  obtain ⟨z, hz, rfl⟩ := List.mem_map.mp hx
  rw [decide_eq_true_eq] at hp
  have := key_inj.mp hp
  exact h (this ▸ List.mem_map.mpr ⟨z.1, (List.of_mem_zip hz).1, rfl⟩)
section
variable {c : Nat → Int} {S S' : Sto} {kvs : List (D × D)} {m : Lm} {is : List Nat}
theorem LD.look (h : LD c S kvs m is) {j i : Nat} {z : List Nat × List (List Nat)} (h1 : m[j]? = some z) (h2 : is[j]? = some i) : dlook kvs (.tup (nts z.1)) = some (.ob i) := by
  rw [h.kv]
  exact look_zip h.kn h1 h2
theorem LD.none (h : LD c S kvs m is) {pl : List Nat} (hn : pl ∉ m.map (·.1)) : dlook kvs (.tup (nts pl)) = none := by
  rw [h.kv]
  exact look_none hn
theorem LD.mono (h : LD c S kvs m is) (k : ∀ i ∈ is, S'[i]? = S[i]?) : LD c S' kvs m is := ⟨h.len, h.nd, h.kn, h.kv, fun j z i h1 h2 => by rw [k i (List.mem_of_getElem? h2)]; exact h.obj j z i h1 h2⟩
theorem LD.lt (h : LD c S kvs m is) {i : Nat} (hi : i ∈ is) : i < S.length := by
  obtain ⟨j, hj⟩ := List.getElem?_of_mem hi
  have hl := (List.getElem?_eq_some_iff.mp hj).1
  exact (List.getElem?_eq_some_iff.mp (h.obj j _ i (List.getElem?_eq_getElem (by rw [← h.len]; exact hl)) hj)).1
/-- a new key -/
theorem LD.new (h : LD c S kvs m is) {pl : List Nat} {i : Nat} (hn : pl ∉ m.map (·.1)) (ni : i ∉ is) (hi : S[i]? = some (.lst [])) : dput kvs (.tup (nts pl)) (.ob i) = kvs ++ [(.tup (nts pl), .ob i)] ∧ LD c S (kvs ++ [(.tup (nts pl), .ob i)]) (m ++ [(pl, [])]) (is ++ [i]) := by
  have hno := h.none hn
  refine ⟨?_, by simp [h.len], ?_, ?_, ?_, fun j z i' h1 h2 => ?_⟩
  · unfold dput
    rw [if_neg]
    intro ha
    obtain ⟨x, hx, hp⟩ := List.any_eq_true.mp ha
    unfold dlook at hno
    rw [Option.map_eq_none_iff, List.find?_eq_none] at hno
    exact hno x hx hp
  · rw [List.nodup_append]
    refine ⟨h.nd, by simp, fun a ha b hb => ?_⟩
    have : b = i := by simpa using hb
    rw [this]
    exact fun e => ni (e ▸ ha)
  · rw [List.map_append, List.nodup_append]
    refine ⟨h.kn, by simp, fun a ha b hb => ?_⟩
    have : b = pl := by simpa using hb
    rw [this]
    exact fun e => hn (e ▸ ha)
  · rw [List.zip_append h.len.symm, List.map_append, ← h.kv]
    rfl
  · by_cases hj : j < m.length
    · rw [List.getElem?_append_left hj] at h1
      rw [List.getElem?_append_left (by rw [h.len]; exact hj)] at h2
      exact h.obj j z i' h1 h2
    · have hj2 : j = m.length := by
        have := (List.getElem?_eq_some_iff.mp h1).1
        simp at this
        omega
      subst hj2
      rw [List.getElem?_append_right (Nat.le_refl _), Nat.sub_self] at h1
      rw [← h.len, List.getElem?_append_right (Nat.le_refl _), Nat.sub_self] at h2
      have e1 : (pl, []) = z := by simpa using h1
      have e2 : i = i' := by simpa using h2
      rw [← e1, ← e2]
      exact hi
/-- a list is changed -/
theorem LD.mod (h : LD c S kvs m is) {j i : Nat} {z : List Nat × List (List Nat)} {ws : List (List Nat)} (h1 : m[j]? = some z) (h2 : is[j]? = some i) (hb : But i S S') (hi : S'[i]? = some (.lst (ws.map (wd c)))) : LD c S' kvs (m.set j (z.1, ws)) is := by
  have hj := (List.getElem?_eq_some_iff.mp h1).1
  have hk : (m.set j (z.1, ws)).map (·.1) = m.map (·.1) := by
    rw [List.map_set]
    apply List.ext_getElem?
    intro q
    by_cases e : j = q
    · subst e
      rw [List.getElem?_set_self (by simpa using hj), List.getElem?_map, h1]
      rfl
    · rw [List.getElem?_set_ne e]
  refine ⟨by simp [h.len], h.nd, by rw [hk]; exact h.kn, ?_, fun q y i' g1 g2 => ?_⟩
  · rw [h.kv]
    have : ∀ (m : Lm) (is : List Nat), (m.zip is).map enc = ((m.map (·.1)).zip is).map fun y => (.tup (nts y.1), .ob y.2) := fun m => by
      induction m with
      | nil => intro is; rfl
      | cons a m ih =>
        intro is
        cases is with
        | nil => rfl
        | cons b is => rw [List.zip_cons_cons, List.map_cons, List.map_cons, List.zip_cons_cons, List.map_cons, ih]; rfl
    rw [this, this, hk]
  · by_cases e : j = q
    · subst e
      rw [List.getElem?_set_self hj] at g1
      cases g1
      rw [h2] at g2
      cases g2
      exact hi
    · rw [List.getElem?_set_ne e] at g1
      have ne : i' ≠ i := fun z' => by
        subst z'
        obtain ⟨l1, k1⟩ := List.getElem?_eq_some_iff.mp h2
        obtain ⟨l2, k2⟩ := List.getElem?_eq_some_iff.mp g2
        exact e ((List.getElem_inj h.nd).mp (by rw [k1, k2]))
      rw [hb.2 i' ne]
      exact h.obj q y i' g1 g2
end
/-! ### what a layer has -/
def Has (m : Lm) (pl r : List Nat) : Prop := ∃ ws, (pl, ws) ∈ m ∧ r ∈ ws
def HasK (m : Lm) (pl : List Nat) : Prop := pl ∈ m.map (·.1)
/-- bounds; each row once -/
structure Gd (n L : Nat) (m : Lm) : Prop where
  key : ∀ z ∈ m, z.1.length = n ∧ ∀ q ∈ z.1, q < 4
  row : ∀ z ∈ m, z.2.Nodup ∧ ∀ r ∈ z.2, r.length = L ∧ ∀ a ∈ r, a < 4
theorem words_few {l : List (List Nat)} {L : Nat} (nd : l.Nodup) (h : ∀ r ∈ l, r.length = L ∧ ∀ a ∈ r, a < 4) : l.length ≤ 4 ^ L :=
  M53.pigeon_map M53.num l nd (fun x hx y hy e => M53.num_inj ((h x hx).1.trans (h y hy).1.symm) (h x hx).2 (h y hy).2 e) fun x hx => by
    have := M53.num_lt (h x hx).2
    rwa [(h x hx).1] at this
theorem Gd.few {n L : Nat} {m : Lm} (h : Gd n L m) (nd : (m.map (·.1)).Nodup) (hn : n ≤ 3) : m.length ≤ 64 := by
  have := words_few (L := n) nd fun r hr => by
    obtain ⟨z, hz, rfl⟩ := List.mem_map.mp hr
    exact h.key z hz
  rw [List.length_map] at this
  exact Nat.le_trans this (by have : 4 ^ n ≤ 4 ^ 3 := Nat.pow_le_pow_right (by omega) hn; simpa using this)
theorem few6 {l : List (List Nat)} {L : Nat} (nd : l.Nodup) (h : ∀ r ∈ l, r.length = L ∧ ∀ a ∈ r, a < 4) (hL : L ≤ 6) : l.length ≤ 4096 :=
  Nat.le_trans (words_few nd h) (by have : 4 ^ L ≤ 4 ^ 6 := Nat.pow_le_pow_right (by omega) hL; simpa using this)
end K53

set_option Elab.async false
set_option linter.all false
set_option maxRecDepth 100000
set_option maxHeartbeats 2000000
namespace K53
open PySem PL
open M53 (Mx Ls Tr)
theorem has_of {m : Lm} {j : Nat} {pl : List Nat} {ws : List (List Nat)} (nd : (m.map (·.1)).Nodup) (h : m[j]? = some (pl, ws)) {r : List Nat} : Has m pl r ↔ r ∈ ws := by
  constructor
  · rintro ⟨ws', h1, h2⟩
    obtain ⟨q, hq⟩ := List.getElem?_of_mem h1
    have e : q = j := by
      have a : (m.map (·.1))[q]? = some pl := by rw [List.getElem?_map, hq]; rfl
      have b : (m.map (·.1))[j]? = some pl := by rw [List.getElem?_map, h]; rfl
      obtain ⟨l1, k1⟩ := List.getElem?_eq_some_iff.mp a
      obtain ⟨l2, k2⟩ := List.getElem?_eq_some_iff.mp b
      exact (List.getElem_inj nd).mp (by rw [k1, k2])
    subst e
    rw [h] at hq
    cases hq
    exact h2
  · exact fun h2 => ⟨ws, List.mem_of_getElem? h, h2⟩
theorem has_set {m : Lm} {j : Nat} {pl : List Nat} {ws ws' : List (List Nat)} (nd : (m.map (·.1)).Nodup) (h : m[j]? = some (pl, ws)) {q r : List Nat} : Has (m.set j (pl, ws')) q r ↔ (q = pl ∧ r ∈ ws') ∨ (q ≠ pl ∧ Has m q r) := by
  have hj := (List.getElem?_eq_some_iff.mp h).1
  constructor
  · rintro ⟨us, h1, h2⟩
    obtain ⟨i, hi⟩ := List.getElem?_of_mem h1
    by_cases e : j = i
    · subst e
      rw [List.getElem?_set_self hj] at hi
      cases hi
      exact .inl ⟨rfl, h2⟩
    · rw [List.getElem?_set_ne e] at hi
      refine .inr ⟨fun z => ?_, us, List.mem_of_getElem? hi, h2⟩
      subst z
      have a : (m.map (·.1))[i]? = some q := by rw [List.getElem?_map, hi]; rfl
      have b : (m.map (·.1))[j]? = some q := by rw [List.getElem?_map, h]; rfl
      obtain ⟨l1, k1⟩ := List.getElem?_eq_some_iff.mp a
      obtain ⟨l2, k2⟩ := List.getElem?_eq_some_iff.mp b
      exact e ((List.getElem_inj nd).mp (by rw [k1, k2])).symm
  · rintro (⟨rfl, h2⟩ | ⟨n, us, h1, h2⟩)
    · exact ⟨ws', List.mem_of_getElem? (List.getElem?_set_self hj), h2⟩
    · obtain ⟨i, hi⟩ := List.getElem?_of_mem h1
      have e : j ≠ i := fun z => by
        subst z
        rw [h] at hi
        cases hi
        exact n rfl
      exact ⟨us, List.mem_of_getElem? (by rw [List.getElem?_set_ne e]; exact hi), h2⟩
theorem hasK_set {m : Lm} {j : Nat} {pl : List Nat} {ws ws' : List (List Nat)} (h : m[j]? = some (pl, ws)) : (m.set j (pl, ws')).map (·.1) = m.map (·.1) := by
  have hj := (List.getElem?_eq_some_iff.mp h).1
  rw [List.map_set]
  apply List.ext_getElem?
  intro q
  by_cases e : j = q
  · subst e
    rw [List.getElem?_set_self (by simpa using hj), List.getElem?_map, h]
    rfl
  · rw [List.getElem?_set_ne e]
section
variable {c : Nat → Int} {fr : D} {fl : Nat → Nat → Bool} {k : Nat}
/-- found.setdefault(after, []) -/
theorem setdef {S : Sto} {kvs : List (D × D)} {m : Lm} {is pl : List Nat} {d n L : Nat} (h : LD c S kvs m is) (hd : S[d]? = some (.dT kvs)) (g : Gd n L m) (hn : n ≤ 3) (hp : pl.length = n ∧ ∀ q ∈ pl, q < 4) :
    ∃ (S1 : Sto) (kvs1 : List (D × D)) (m1 : Lm) (is1 : List Nat) (j i : Nat) (kn : List (List Nat)), bmD .setdefault (.ob d) [.tup (nts pl), .ob S.length] (S ++ [.lst []]) = .ok (.ob i) S1 ∧ LD c S1 kvs1 m1 is1 ∧ S1[d]? = some (.dT kvs1) ∧ Gd n L m1 ∧ m1[j]? = some (pl, kn) ∧ is1[j]? = some i ∧
      (∀ q r, Has m1 q r ↔ Has m q r) ∧ (∀ q, HasK m1 q ↔ HasK m q ∨ q = pl) ∧ S.length ≤ S1.length ∧ (∀ q, q < S.length → q ≠ d → S1[q]? = S[q]?) ∧ (∀ q ∈ is1, q ∈ is ∨ S.length ≤ q) := by
  have dl := (List.getElem?_eq_some_iff.mp hd).1
  have few := g.few h.kn hn
  have hkl : kvs.length < 1000000 := by
    rw [h.kv, List.length_map, List.length_zip]
    omega
  have hdc : dctAt (S ++ [.lst []]) d = some (true, kvs) := by
    unfold dctAt
    rw [List.getElem?_append_left dl, hd]
  by_cases hm : pl ∈ m.map (·.1)
  · obtain ⟨⟨pl', kn⟩, hz, e⟩ := List.mem_map.mp hm
    dsimp only at e
    subst e
    obtain ⟨j, hj⟩ := List.getElem?_of_mem hz
    have jl := (List.getElem?_eq_some_iff.mp hj).1
    obtain ⟨i, hi⟩ : ∃ i, is[j]? = some i := ⟨_, List.getElem?_eq_getElem (by rw [h.len]; exact jl)⟩
    have hl := h.look hj hi
    refine ⟨S ++ [.lst []], kvs, m, is, j, i, kn, ?_, h.mono fun q hq => List.getElem?_append_left (h.lt hq), by rw [List.getElem?_append_left dl]; exact hd, g, hj, hi, fun _ _ => Iff.rfl, fun q => ⟨.inl, fun z => z.elim id fun z => by rw [z]; exact hm⟩, by simp, fun q hq _ => List.getElem?_append_left hq, fun q hq => .inl hq⟩
    rw [n_setd, hdc, n_setd_t okK hkl hl]
  · have ni : S.length ∉ is := fun z => Nat.lt_irrefl _ (h.lt z)
    have h' : LD c (S ++ [.lst []]) kvs m is := h.mono fun q hq => List.getElem?_append_left (h.lt hq)
    obtain ⟨e1, h2⟩ := h'.new hm ni (by simp)
    have nd : d ∉ is := fun z => by
      obtain ⟨j, hj⟩ := List.getElem?_of_mem z
      have jl := (List.getElem?_eq_some_iff.mp hj).1
      have := h.obj j _ d (List.getElem?_eq_getElem (by rw [← h.len]; exact jl)) hj
      rw [hd] at this
      cases this
    refine ⟨(S ++ [O.lst []]).set d (O.dT (kvs ++ [(D.tup (nts pl), D.ob S.length)])), _, _, _, m.length, S.length, [], ?_, h2.mono fun q hq => List.getElem?_set_ne fun z => ?_, set_at (by rw [List.getElem?_append_left dl]; exact hd) _, ⟨fun z hz => ?_, fun z hz => ?_⟩, by simp, ?_, fun q r => ?_, fun q => ?_, by simp, fun q hq n => by rw [List.getElem?_set_ne (Ne.symm n), List.getElem?_append_left hq], fun q hq => ?_⟩
    · rw [n_setd, hdc, n_setd_f okK hkl (h.none hm), e1]
      rfl
    · subst z
      rcases List.mem_append.mp hq with hq | hq
      · exact nd hq
      · have : d = S.length := by simpa using hq
        omega
    · rcases List.mem_append.mp hz with hz | hz
      · exact g.key z hz
      · rw [show z = (pl, []) by simpa using hz]; exact hp
    · rcases List.mem_append.mp hz with hz | hz
      · exact g.row z hz
      · rw [show z = (pl, []) by simpa using hz]; exact ⟨by simp, fun r hr => nomatch hr⟩
    · rw [← h.len, List.getElem?_append_right (Nat.le_refl _), Nat.sub_self]; rfl
    · constructor
      · rintro ⟨ws, h1, h2⟩
        rcases List.mem_append.mp h1 with h1 | h1
        · exact ⟨ws, h1, h2⟩
        · have : (q, ws) = (pl, []) := by simpa using h1
          cases this
          cases h2
      · rintro ⟨ws, h1, h2⟩
        exact ⟨ws, List.mem_append_left _ h1, h2⟩
    · unfold HasK
      rw [List.map_append, List.mem_append]
      simp
    · rcases List.mem_append.mp hq with hq | hq
      · exact .inl hq
      · exact .inr (by rw [show q = S.length by simpa using hq]; exact Nat.le_refl _)
def bRow : Ss := .cons (.ite (.cmp .Lt (.idx (.var 4) (.var 6)) (.bi .len (.cons (.var 7) (.nil)))) (.cons (.asg (.nm 8) (.bin .Add (.bin .Add (.slc (.var 4) (.cst .non) (.var 6)) (.tup (.cons (.bin .Add (.idx (.var 4) (.var 6)) (.cst (.int 1))) (.nil)))) (.slc (.var 4) (.bin .Add (.var 6) (.cst (.int 1))) (.cst .non)))) <|
    .cons (.asg (.nm 9) (.bm .setdefault (.var 3) (.cons (.var 8) (.cons (.own (.disp (.nil))) (.nil))))) <|
    .cons (.for_ (.nm 10) (.ofE (.var 5)) bW) <|
    .nil) (.nil)) <|
    .nil
/-- what row k adds -/
def New (fl : Nat → Nat → Bool) (row pl : List Nat) (ws : List (List Nat)) (k : Nat) (q r : List Nat) : Prop := ∃ p x, pl[k]? = some p ∧ row[p]? = some x ∧ q = pl.set k (p + 1) ∧ ∃ u ∈ ws, Ls (pb fl) (u ++ [x]) r
def NewK (row pl : List Nat) (k : Nat) (q : List Nat) : Prop := ∃ p x, pl[k]? = some p ∧ row[p]? = some x ∧ q = pl.set k (p + 1)
theorem set_parts {pl : List Nat} {k p : Nat} (hp : pl[k]? = some p) : nts (pl.take k) ++ [D.int ((p : Int) + 1)] ++ nts (pl.drop (k + 1)) = nts (pl.set k (p + 1)) := by
  have hk := (List.getElem?_eq_some_iff.mp hp).1
  rw [List.set_eq_take_append_cons_drop, if_pos hk]
  unfold nts
  simp
theorem row_step {T : Tab} {e : Nat} {S : Sto} {pl row : List Nat} {ws : List (List Nat)} {kvs : List (D × D)} {m : Lm} {is : List Nat} {d iw L : Nat} {x1 x2 x8 x9 x10 x11 : Option D} (hcf : T.cf = callF pg (11 + e)) (h : Fre c fr fl) (h0 : S[0]? = some (.tab tq))
    (hL : LD c S kvs m is) (hd : S[d]? = some (.dT kvs)) (g : Gd pl.length (L + 1) m) (hn : pl.length ≤ 3) (hq : ∀ q ∈ pl, q < 3) (hk : k < pl.length) (hiw : S[iw]? = some (.lst (ws.map (wd c)))) (nw : iw ∉ is) (hws : ws.Nodup) (hwl : ∀ u ∈ ws, u.length = L ∧ ∀ a ∈ u, a < 4) (hL5 : L ≤ 5) (hr : row.length ≤ 3 ∧ ∀ a ∈ row, a < 4) :
    ∃ (S' : Sto) (kvs' : List (D × D)) (m' : Lm) (is' : List Nat) (y8 y9 y10 y11 : Option D), evSs T bRow [some fr, x1, x2, some (.ob d), some (.tup (nts pl)), some (.ob iw), some (.int (k : Int)), some (wd c row), x8, x9, x10, x11] S = .nx [some fr, x1, x2, some (.ob d), some (.tup (nts pl)), some (.ob iw), some (.int (k : Int)), some (wd c row), y8, y9, y10, y11] S' ∧
      LD c S' kvs' m' is' ∧ S'[d]? = some (.dT kvs') ∧ Gd pl.length (L + 1) m' ∧ (∀ q r, Has m' q r ↔ Has m q r ∨ New fl row pl ws k q r) ∧ (∀ q, HasK m' q ↔ HasK m q ∨ NewK row pl k q) ∧ S.length ≤ S'.length ∧ (∀ q, q < S.length → q ≠ d → q ∉ is → S'[q]? = S[q]?) ∧ (∀ q ∈ is', q ∈ is ∨ S.length ≤ q) := by
  obtain ⟨p, hp⟩ : ∃ p, pl[k]? = some p := ⟨_, List.getElem?_eq_getElem hk⟩
  have pg1 : atI (nts pl) (k : Int) = some (.int (p : Int)) := by rw [atI_n]; unfold nts; rw [List.getElem?_map, hp]; rfl
  have hlen : biD .len [wd c row] S = some (.int (row.length : Int)) := by
    show some (D.int ((row.map (it c)).length : Int)) = _
    rw [List.length_map]
  by_cases hpr : p < row.length
  · obtain ⟨x, hx⟩ : ∃ x, row[p]? = some x := ⟨_, List.getElem?_eq_getElem hpr⟩
    have pq := hq p (List.mem_of_getElem? hp)
    obtain ⟨S1, kvs1, m1, is1, j, i, kn, e1, hL1, hd1, g1, hj, hi, hH, hHK, l1, fr1, is1'⟩ := setdef (pl := pl.set k (p + 1)) hL hd g hn ⟨by simp, fun q hq' => by
      rcases List.mem_or_eq_of_mem_set hq' with z | z
      · have := hq q z; omega
      · omega⟩
    have gz := g1.row _ (List.mem_of_getElem? hj)
    dsimp only at gz
    have hiS : S1[i]? = some (.lst (kn.map (wd c))) := hL1.obj j _ i hj hi
    have nwd : iw ≠ d := fun z => by rw [z, hd] at hiw; cases hiw
    have iwl := (List.getElem?_eq_some_iff.mp hiw).1
    have hiw1 : S1[iw]? = some (.lst (ws.map (wd c))) := by rw [fr1 iw iwl nwd]; exact hiw
    have ne : iw ≠ i := fun z => by
      rcases is1' i (List.mem_of_getElem? hi) with q | q
      · exact nw (z ▸ q)
      · omega
    have z0 : (0 : Nat) ≠ d := fun z => by rw [← z, h0] at hd; cases hd
    have h01 : S1[0]? = some (.tab tq) := by rw [fr1 0 (by omega) z0]; exact h0
    obtain ⟨kn', S2, y10, y11, eW, nd2, hk2, hi2, hb2⟩ := ways_loop (T := T) (e := e) (x1 := x1) (x2 := x2) (x3 := some (.ob d)) (x8 := some (.tup (nts (pl.set k (p + 1))))) (x10 := x10) (x11 := x11) hcf h h01 hiw1 hiS ne hp hx (fun u hu => by have := (hwl u hu).1; omega) gz.1 (by
      have a := few6 (l := kn) gz.1 gz.2 (by omega)
      have b := few6 (l := ws) hws hwl (by omega)
      omega)
    have hL2 := hL1.mod hj hi hb2 hi2
    have di : d ≠ i := fun z => by rw [z, hiS] at hd1; cases hd1
    refine ⟨S2, kvs1, m1.set j (pl.set k (p + 1), kn'), is1, some (.tup (nts (pl.set k (p + 1)))), some (.ob i), y10, y11, ?_, hL2, by rw [hb2.2 d di]; exact hd1, ⟨fun z hz => ?_, fun z hz => ?_⟩, fun q r => ?_, fun q => ?_, by rw [hb2.1]; exact l1, fun q h1 h2 h3 => ?_, is1'⟩
    · have lt : decide ((p : Int) < (row.length : Int)) = true := decide_eq_true (by omega)
      have c1 : cut (nts pl) none (some (k : Int)) = nts (pl.take k) := by
        rw [cut_pre (by rw [nts_len]; omega)]
        unfold nts
        rw [List.map_take]
      have c2 : cut (nts pl) (some ((k : Int) + 1)) none = nts (pl.drop (k + 1)) := by
        have := cut_suf (l := nts pl) (b := k + 1) (by rw [nts_len]; omega)
        rw [show ((k + 1 : Nat) : Int) = (k : Int) + 1 by omega] at this
        rw [this]
        unfold nts
        rw [List.map_drop]
      have a1 : binD .Add (.tup (nts (pl.take k))) (.tup [.int ((p : Int) + 1)]) = some (.tup (nts (pl.take k) ++ [.int ((p : Int) + 1)])) := n_catT (line_le (by rw [nts_len]; simp; omega))
      have a2 : binD .Add (.tup (nts (pl.take k) ++ [.int ((p : Int) + 1)])) (.tup (nts (pl.drop (k + 1)))) = some (.tup (nts (pl.set k (p + 1)))) := by
        rw [n_catT (line_le (by simp [nts_len]; omega)), set_parts hp]
      have rcv : recvOk .setdefault (.ob d) S = true := by
        rw [n_recvS]
        unfold dctAt
        rw [hd]
        rfl
      unfold bRow
      simp only [ez, pg1, hlen, lt, c1, c2, a1, a2, rcv, e1, hiw1, eW]
    · obtain ⟨q, hq'⟩ := List.getElem?_of_mem hz
      by_cases e : j = q
      · subst e
        rw [List.getElem?_set_self (List.getElem?_eq_some_iff.mp hj).1] at hq'
        cases hq'
        have w := g1.key _ (List.mem_of_getElem? hj)
        exact w
      · rw [List.getElem?_set_ne e] at hq'
        exact g1.key z (List.mem_of_getElem? hq')
    · obtain ⟨q, hq'⟩ := List.getElem?_of_mem hz
      by_cases e : j = q
      · subst e
        rw [List.getElem?_set_self (List.getElem?_eq_some_iff.mp hj).1] at hq'
        cases hq'
        refine ⟨nd2, fun r hr' => ?_⟩
        rcases (hk2 r).mp hr' with h1 | ⟨u, h1, h2⟩
        · exact gz.2 r h1
        · refine ⟨by rw [lst_len h2]; simp [(hwl u h1).1], fun a ha => ?_⟩
          rcases List.mem_append.mp ((h2.1.mem a).mpr ha) with z | z
          · exact (hwl u h1).2 a z
          · rw [show a = x by simpa using z]
            exact hr.2 x (List.mem_of_getElem? hx)
      · rw [List.getElem?_set_ne e] at hq'
        exact g1.row z (List.mem_of_getElem? hq')
    · rw [has_set hL1.kn hj, hk2 r]
      have hh := has_of hL1.kn hj (r := r)
      constructor
      · rintro (⟨rfl, h1 | h1⟩ | ⟨_, h1⟩)
        · exact .inl ((hH _ _).mp (hh.mpr h1))
        · exact .inr ⟨p, x, hp, hx, rfl, h1⟩
        · exact .inl ((hH _ _).mp h1)
      · rintro (h1 | ⟨p', x', h1, h2, h3, h4⟩)
        · by_cases e : q = pl.set k (p + 1)
          · subst e
            exact .inl ⟨rfl, .inl (hh.mp ((hH _ _).mpr h1))⟩
          · exact .inr ⟨e, (hH _ _).mpr h1⟩
        · rw [hp] at h1
          cases h1
          rw [hx] at h2
          cases h2
          exact .inl ⟨h3, .inr h4⟩
    · unfold HasK at hHK ⊢
      rw [hasK_set hj, hHK q]
      constructor
      · rintro (h1 | h1)
        · exact .inl h1
        · exact .inr ⟨p, x, hp, hx, h1⟩
      · rintro (h1 | ⟨p', x', h1, _, h3⟩)
        · exact .inl h1
        · rw [hp] at h1
          cases h1
          exact .inr h3
    · rw [hb2.2 q fun z => ?_]
      · exact fr1 q h1 h2
      · subst z
        rcases is1' q (List.mem_of_getElem? hi) with w | w
        · exact h3 w
        · omega
  · have lt : decide ((p : Int) < (row.length : Int)) = false := decide_eq_false (by omega)
    have no : row[p]? = none := List.getElem?_eq_none (by omega)
    refine ⟨S, kvs, m, is, x8, x9, x10, x11, ?_, hL, hd, g, fun q r => ⟨.inl, fun z => z.elim id fun ⟨p', x', h1, h2, _⟩ => by rw [hp] at h1; cases h1; rw [no] at h2; cases h2⟩, fun q => ⟨.inl, fun z => z.elim id fun ⟨p', x', h1, h2, _⟩ => by rw [hp] at h1; cases h1; rw [no] at h2; cases h2⟩, Nat.le_refl _, fun _ _ _ _ => rfl, fun q hq => .inl hq⟩
    unfold bRow
    simp only [ez, pg1, hlen, lt]
end
end K53

set_option Elab.async false
set_option linter.all false
set_option maxRecDepth 100000
set_option maxHeartbeats 2000000
namespace K53
open PySem PL
open M53 (Mx Ls Tr)
def rwD (c : Nat → Int) (rows : List (List Nat)) : D := .tup (rows.map (wd c))
/-- rows as the law draws them -/
structure Rws (rows : List (List Nat)) : Prop where
  n : rows.length ≤ 3
  row : ∀ r ∈ rows, r.length ≤ 2 ∧ ∀ a ∈ r, a < 4
def NewR (fl : Nat → Nat → Bool) (rows : List (List Nat)) (pl : List Nat) (ws : List (List Nat)) (K : Nat) (q r : List Nat) : Prop := ∃ k row, k < K ∧ rows[k]? = some row ∧ New fl row pl ws k q r
def NewRK (rows : List (List Nat)) (pl : List Nat) (K : Nat) (q : List Nat) : Prop := ∃ k row, k < K ∧ rows[k]? = some row ∧ NewK row pl k q
section
variable {c : Nat → Int} {fr : D} {fl : Nat → Nat → Bool} {rows : List (List Nat)}
def bL : Ss := .cons (.for_ (.tup (.cons (.nm 6) (.cons (.nm 7) (.nil)))) (.enm (.var 1)) bRow) .nil
/-- a store behind: found at d, its lists new or of is -/
structure Fw (c : Nat → Int) (n L d : Nat) (B : Sto) (is0 : List Nat) (S : Sto) (m : Lm) (is : List Nat) : Prop where
  ex : ∃ kvs, LD c S kvs m is ∧ S[d]? = some (.dT kvs)
  gd : Gd n L m
  le : B.length ≤ S.length
  fr : ∀ q, q < B.length → q ≠ d → q ∉ is0 → S[q]? = B[q]?
  is : ∀ q ∈ is, q ∈ is0 ∨ B.length ≤ q
theorem rows_loop {T : Tab} {e : Nat} {B : Sto} {pl : List Nat} {ws : List (List Nat)} {m : Lm} {is : List Nat} {d iw L : Nat} {x2 x6 x7 x8 x9 x10 x11 : Option D} (hcf : T.cf = callF pg (11 + e)) (h : Fre c fr fl) (hR : Rws rows) (h0 : B[0]? = some (.tab tq))
    (hF : Fw c rows.length (L + 1) d B is B m is) (hn : pl.length = rows.length) (hq : ∀ q ∈ pl, q < 3) (hiw : B[iw]? = some (.lst (ws.map (wd c)))) (nw : iw ∉ is) (h0s : 0 ∉ is) (hws : ws.Nodup) (hwl : ∀ u ∈ ws, u.length = L ∧ ∀ a ∈ u, a < 4) (hL5 : L ≤ 5) :
    ∃ (S' : Sto) (m' : Lm) (is' : List Nat) (y6 y7 y8 y9 y10 y11 : Option D), evSs T bL [some fr, some (rwD c rows), x2, some (.ob d), some (.tup (nts pl)), some (.ob iw), x6, x7, x8, x9, x10, x11] B = .nx [some fr, some (rwD c rows), x2, some (.ob d), some (.tup (nts pl)), some (.ob iw), y6, y7, y8, y9, y10, y11] S' ∧
      Fw c rows.length (L + 1) d B is S' m' is' ∧ (∀ q r, Has m' q r ↔ Has m q r ∨ NewR fl rows pl ws rows.length q r) ∧ (∀ q, HasK m' q ↔ HasK m q ∨ NewRK rows pl rows.length q) := by
  have dB : 0 ≠ d := fun z => by
    obtain ⟨kvs, _, hd⟩ := hF.ex
    rw [← z, h0] at hd
    cases hd
  have nwd : iw ≠ d := fun z => by
    obtain ⟨kvs, _, hd⟩ := hF.ex
    rw [z, hd] at hiw
    cases hiw
  have lp := forR_inv (v := { items := enumD 0 (rows.map (wd c)) }) (body := bodyR (.tup (.cons (.nm 6) (.cons (.nm 7) .nil))) (evSs T bRow)) (fun q ρ S' => ∃ (m' : Lm) (is' : List Nat) (y6 y7 y8 y9 y10 y11 : Option D), ρ = [some fr, some (rwD c rows), x2, some (.ob d), some (.tup (nts pl)), some (.ob iw), y6, y7, y8, y9, y10, y11] ∧
      Fw c rows.length (L + 1) d B is S' m' is' ∧ (∀ a r, Has m' a r ↔ Has m a r ∨ NewR fl rows pl ws q a r) ∧ (∀ a, HasK m' a ↔ HasK m a ∨ NewRK rows pl q a))
    (enumD 0 (rows.map (wd c))) 0 _ B ⟨m, is, x6, x7, x8, x9, x10, x11, rfl, hF, fun a r => ⟨.inl, fun z => z.elim id fun ⟨k, _, hk, _⟩ => absurd hk (Nat.not_lt_zero _)⟩, fun a => ⟨.inl, fun z => z.elim id fun ⟨k, _, hk, _⟩ => absurd hk (Nat.not_lt_zero _)⟩⟩ (fun _ _ _ _ => rfl)
    (fun q x ρ S' hx ⟨m', is', y6, y7, y8, y9, y10, y11, e1, hF', hH, hHK⟩ => by
      subst e1
      rw [Nat.zero_add] at hH hHK ⊢
      rw [enumD_get, List.getElem?_map, Option.map_map] at hx
      obtain ⟨row, hrow, rfl⟩ := Option.map_eq_some_iff.mp hx
      have ql := (List.getElem?_eq_some_iff.mp hrow).1
      obtain ⟨kvs, hL, hd⟩ := hF'.ex
      have rr := hR.row row (List.mem_of_getElem? hrow)
      obtain ⟨S2, kvs2, m2, is2, z8, z9, z10, z11, eB, k1, k2, k3, k4, k5, k6, k7, k8⟩ := row_step (T := T) (e := e) (S := S') (pl := pl) (row := row) (ws := ws) (k := q) (d := d) (iw := iw) (L := L) (x1 := some (rwD c rows)) (x2 := x2) (x8 := y8) (x9 := y9) (x10 := y10) (x11 := y11) hcf h (by rw [hF'.fr 0 (by have := (List.getElem?_eq_some_iff.mp h0).1; exact this) dB h0s]; exact h0) hL hd
        (by rw [hn]; exact hF'.gd) (by rw [hn]; exact hR.n) hq (by omega) (by rw [hF'.fr iw (List.getElem?_eq_some_iff.mp hiw).1 nwd nw]; exact hiw) (fun z => (hF'.is iw z).elim nw fun z => by have := (List.getElem?_eq_some_iff.mp hiw).1; omega) hws hwl hL5 ⟨by omega, rr.2⟩
      refine ⟨_, S2, .inl ((body_at (ρ1 := [some fr, some (rwD c rows), x2, some (.ob d), some (.tup (nts pl)), some (.ob iw), some (.int (q : Int)), some (wd c row), y8, y9, y10, y11]) (by simp [asgG, asgGs])).trans eB), m2, is2, _, _, _, _, _, _, rfl, ⟨⟨kvs2, k1, k2⟩, by rw [hn] at k3; exact k3, Nat.le_trans hF'.le k6, fun i h1 h2 h3 => ?_, fun i hi => ?_⟩, fun a r => ?_, fun a => ?_⟩
      · rw [k7 i (Nat.lt_of_lt_of_le h1 hF'.le) h2 fun z => (hF'.is i z).elim h3 fun z => by omega]
        exact hF'.fr i h1 h2 h3
      · rcases k8 i hi with z | z
        · exact hF'.is i z
        · exact .inr (Nat.le_trans hF'.le z)
      · rw [k4 a r, hH a r]
        constructor
        · rintro ((z | ⟨k, rw', z1, z2, z3⟩) | z)
          · exact .inl z
          · exact .inr ⟨k, rw', by omega, z2, z3⟩
          · exact .inr ⟨q, row, by omega, hrow, z⟩
        · rintro (z | ⟨k, rw', z1, z2, z3⟩)
          · exact .inl (.inl z)
          · by_cases e : k = q
            · subst e
              rw [hrow] at z2
              cases z2
              exact .inr z3
            · exact .inl (.inr ⟨k, rw', by omega, z2, z3⟩)
      · rw [k5 a, hHK a]
        constructor
        · rintro ((z | ⟨k, rw', z1, z2, z3⟩) | z)
          · exact .inl z
          · exact .inr ⟨k, rw', by omega, z2, z3⟩
          · exact .inr ⟨q, row, by omega, hrow, z⟩
        · rintro (z | ⟨k, rw', z1, z2, z3⟩)
          · exact .inl (.inl z)
          · by_cases e : k = q
            · subst e
              rw [hrow] at z2
              cases z2
              exact .inr z3
            · exact .inl (.inr ⟨k, rw', by omega, z2, z3⟩))
  obtain ⟨ρ', S', e1, m', is', y6, y7, y8, y9, y10, y11, rfl, hF', hH, hHK⟩ := lp
  rw [enumD_len, List.length_map, Nat.zero_add] at hH hHK
  refine ⟨S', m', is', y6, y7, y8, y9, y10, y11, ?_, hF', hH, hHK⟩
  unfold bL
  unfold rwD at e1 ⊢
  simp only [ez, e1]
theorem f5 : pg.fns[5]? = some ⟨3, 12, b_mixed_further⟩ := rfl
/-- one layer further -/
theorem further_call {e : Nat} {S : Sto} {m : Lm} {is : List Nat} {kvs : List (D × D)} {il L : Nat} (h : Fre c fr fl) (hR : Rws rows) (h0 : S[0]? = some (.tab tq)) (hL : LD c S kvs m is) (hil : S[il]? = some (.dT kvs)) (g : Gd rows.length L m) (hq : ∀ z ∈ m, ∀ q ∈ z.1, q < 3) (hL5 : L ≤ 5) :
    ∃ (S1 : Sto) (kvs1 : List (D × D)) (m1 : Lm) (is1 : List Nat), callF pg (12 + e) 5 [fr, rwD c rows, .ob il] S = .ok (.ob S.length) S1 ∧ LD c S1 kvs1 m1 is1 ∧ S1[S.length]? = some (.dT kvs1) ∧ Gd rows.length (L + 1) m1 ∧
      (∀ q r, Has m1 q r ↔ ∃ z ∈ m, NewR fl rows z.1 z.2 rows.length q r) ∧ (∀ q, HasK m1 q ↔ ∃ z ∈ m, NewRK rows z.1 rows.length q) ∧ S.length < S1.length ∧ (∀ q, q < S.length → S1[q]? = S[q]?) ∧ ∀ i ∈ is1, S.length ≤ i := by
  have key : ∃ (S1 : Sto) (kvs1 : List (D × D)) (m1 : Lm) (is1 : List Nat), evSs ⟨callF pg (11 + e), callF pg (11 + e - 1), pg.meth, pg.init, pg.lit, pg.isx⟩ b_mixed_further (startE 12 [fr, rwD c rows, .ob il]) S = .ret (.ob S.length) S1 ∧ LD c S1 kvs1 m1 is1 ∧ S1[S.length]? = some (.dT kvs1) ∧ Gd rows.length (L + 1) m1 ∧
      (∀ q r, Has m1 q r ↔ ∃ z ∈ m, NewR fl rows z.1 z.2 rows.length q r) ∧ (∀ q, HasK m1 q ↔ ∃ z ∈ m, NewRK rows z.1 rows.length q) ∧ S.length < S1.length ∧ (∀ q, q < S.length → S1[q]? = S[q]?) ∧ ∀ i ∈ is1, S.length ≤ i := by
    generalize hT : (⟨callF pg (11 + e), callF pg (11 + e - 1), pg.meth, pg.init, pg.lit, pg.isx⟩ : Tab) = T
    have hcf : T.cf = callF pg (11 + e) := by rw [← hT]
    have ill := (List.getElem?_eq_some_iff.mp hil).1
    have i0 : (0 : Nat) ≠ il := fun z => by rw [← z, h0] at hil; cases hil
    have s0l := (List.getElem?_eq_some_iff.mp h0).1
    generalize hB : (S ++ [O.dT []]).set il .gone = B
    have Bl : B.length = S.length + 1 := by rw [← hB]; simp
    have Bq : ∀ q, q < S.length → q ≠ il → B[q]? = S[q]? := fun q h1 h2 => by rw [← hB, List.getElem?_set_ne (Ne.symm h2), List.getElem?_append_left h1]
    have Bd : B[S.length]? = some (.dT []) := by rw [← hB, List.getElem?_set_ne (by omega)]; simp
    have Bil : B[il]? = some .gone := by rw [← hB]; exact List.getElem?_set_self (by simp; omega)
    have isn : ∀ i ∈ is, i < S.length ∧ i ≠ il := fun i hi => ⟨hL.lt hi, fun z => by
      obtain ⟨j, hj⟩ := List.getElem?_of_mem hi
      have jl := (List.getElem?_eq_some_iff.mp hj).1
      have := hL.obj j _ i (List.getElem?_eq_getElem (by rw [← hL.len]; exact jl)) hj
      rw [z, hil] at this
      cases this⟩
    have F0 : Fw c rows.length (L + 1) S.length B [] B [] [] := ⟨⟨[], ⟨rfl, by simp, by simp, rfl, fun j z i h1 => by simp at h1⟩, Bd⟩, ⟨fun z hz => (nomatch hz), fun z hz => (nomatch hz)⟩, Nat.le_refl _, fun _ _ _ _ => rfl, fun q hq => nomatch hq⟩
    have hitems : walkD true kvs = (m.zip is).map fun z => D.tup [.tup (nts z.1.1), .ob z.2] := by
      rw [hL.kv]
      unfold walkD
      simp only [if_true, List.map_map]
      rfl
    have lp := forR_inv (v := { items := walkD true kvs }) (body := bodyR (.tup (.cons (.nm 4) (.cons (.nm 5) .nil))) (evSs T bL)) (fun q ρ S' => ∃ (m' : Lm) (is' : List Nat) (y4 y5 y6 y7 y8 y9 y10 y11 : Option D), ρ = [some fr, some (rwD c rows), some (.ob il), some (.ob S.length), y4, y5, y6, y7, y8, y9, y10, y11] ∧
        Fw c rows.length (L + 1) S.length B [] S' m' is' ∧ (∀ a r, Has m' a r ↔ ∃ j z, j < q ∧ m[j]? = some z ∧ NewR fl rows z.1 z.2 rows.length a r) ∧ (∀ a, HasK m' a ↔ ∃ j z, j < q ∧ m[j]? = some z ∧ NewRK rows z.1 rows.length a))
      (walkD true kvs) 0 [some fr, some (rwD c rows), some (.ob il), some (.ob S.length), none, none, none, none, none, none, none, none] B ⟨[], [], none, none, none, none, none, none, none, none, rfl, F0, fun a r => ⟨fun ⟨_, h1, _⟩ => (nomatch h1), fun ⟨j, _, h1, _⟩ => absurd h1 (Nat.not_lt_zero _)⟩, fun a => ⟨fun h1 => (nomatch h1), fun ⟨j, _, h1, _⟩ => absurd h1 (Nat.not_lt_zero _)⟩⟩ (fun _ _ _ _ => rfl)
      (fun q x ρ S' hx ⟨m', is', y4, y5, y6, y7, y8, y9, y10, y11, e1, hF, hH, hHK⟩ => by
        subst e1
        rw [Nat.zero_add] at hH hHK ⊢
        rw [hitems, List.getElem?_map] at hx
        obtain ⟨⟨z, iw⟩, hz, rfl⟩ := Option.map_eq_some_iff.mp hx
        have hz1 : m[q]? = some z := by
          have := congrArg (Option.map (·.1)) hz
          rw [List.getElem?_zip_eq_some] at hz
          exact hz.1
        have hz2 : is[q]? = some iw := (List.getElem?_zip_eq_some.mp hz).2
        have zm := List.mem_of_getElem? hz1
        have im := List.mem_of_getElem? hz2
        obtain ⟨iwl, iwn⟩ := isn iw im
        have hiw : S'[iw]? = some (.lst (z.2.map (wd c))) := by
          rw [hF.fr iw (by omega) (by omega) (by simp), Bq iw iwl iwn]
          exact hL.obj q z iw hz1 hz2
        have h0' : S'[0]? = some (.tab tq) := by
          rw [hF.fr 0 (by omega) (by omega) (by simp), Bq 0 s0l i0]
          exact h0
        have isB : ∀ i ∈ is', B.length ≤ i := fun i hi => (hF.is i hi).elim (fun z => nomatch z) id
        obtain ⟨S2, m2, is2, z6, z7, z8, z9, z10, z11, eB, F2, k1, k2⟩ := rows_loop (T := T) (e := e) (B := S') (pl := z.1) (ws := z.2) (m := m') (is := is') (d := S.length) (iw := iw) (L := L) (x2 := some (.ob il)) (x6 := y6) (x7 := y7) (x8 := y8) (x9 := y9) (x10 := y10) (x11 := y11) hcf h hR h0' ⟨hF.ex, hF.gd, Nat.le_refl _, fun _ _ _ _ => rfl, fun q hq => .inl hq⟩
          (g.key z zm).1 (hq z zm) hiw (fun y => by have := isB iw y; omega) (fun y => by have := isB 0 y; omega) (g.row z zm).1 (g.row z zm).2 hL5
        refine ⟨_, S2, .inl ((body_at (ρ1 := [some fr, some (rwD c rows), some (.ob il), some (.ob S.length), some (.tup (nts z.1)), some (.ob iw), y6, y7, y8, y9, y10, y11]) (by simp [asgG, asgGs])).trans eB), m2, is2, _, _, _, _, _, _, _, _, rfl, ⟨F2.ex, F2.gd, Nat.le_trans hF.le F2.le, fun i h1 h2 h3 => ?_, fun i hi => ?_⟩, fun a r => ?_, fun a => ?_⟩
        · rw [F2.fr i (Nat.lt_of_lt_of_le h1 hF.le) h2 fun y => by have := isB i y; omega]
          exact hF.fr i h1 h2 h3
        · rcases F2.is i hi with y | y
          · exact hF.is i y
          · exact .inr (Nat.le_trans hF.le y)
        · rw [k1 a r, hH a r]
          constructor
          · rintro (⟨j, y, w1, w2, w3⟩ | w)
            · exact ⟨j, y, by omega, w2, w3⟩
            · exact ⟨q, z, by omega, hz1, w⟩
          · rintro ⟨j, y, w1, w2, w3⟩
            by_cases e : j = q
            · subst e
              rw [hz1] at w2
              cases w2
              exact .inr w3
            · exact .inl ⟨j, y, by omega, w2, w3⟩
        · rw [k2 a, hHK a]
          constructor
          · rintro (⟨j, y, w1, w2, w3⟩ | w)
            · exact ⟨j, y, by omega, w2, w3⟩
            · exact ⟨q, z, by omega, hz1, w⟩
          · rintro ⟨j, y, w1, w2, w3⟩
            by_cases e : j = q
            · subst e
              rw [hz1] at w2
              cases w2
              exact .inr w3
            · exact .inl ⟨j, y, by omega, w2, w3⟩)
    obtain ⟨ρ', S', e1, m1, is1, y4, y5, y6, y7, y8, y9, y10, y11, rfl, hF, hH, hHK⟩ := lp
    have wl : (walkD true kvs).length = m.length := by rw [hitems, List.length_map, List.length_zip, hL.len, Nat.min_self]
    rw [wl, Nat.zero_add] at hH hHK
    obtain ⟨kvs1, hL1, hd1⟩ := hF.ex
    have gone : S'[il]? = some .gone := by rw [hF.fr il (by omega) (by omega) (by simp)]; exact Bil
    have isB : ∀ i ∈ is1, B.length ≤ i := fun i hi => (hF.is i hi).elim (fun z => nomatch z) id
    refine ⟨S'.set il (.dT kvs), kvs1, m1, is1, ?_, hL1.mono fun i hi => List.getElem?_set_ne (by have := isB i hi; omega), by rw [List.getElem?_set_ne (by omega)]; exact hd1, hF.gd, fun q r => ?_, fun q => ?_, by rw [List.length_set]; have := hF.le; omega, fun q hq => ?_, fun i hi => by have := isB i hi; omega⟩
    · have eρ : startE 12 [fr, rwD c rows, .ob il] = [some fr, some (rwD c rows), some (.ob il), none, none, none, none, none, none, none, none, none] := rfl
      rw [eρ]
      have g1 : (S ++ [O.dT []])[il]? = some (.dT kvs) := app_keep hil
      unfold bL bRow bW at e1
      unfold b_mixed_further
      simp only [ez, g1, hB, e1]
      have : unlockF il (.dT kvs) (F.nx [some fr, some (rwD c rows), some (.ob il), some (.ob S.length), y4, y5, y6, y7, y8, y9, y10, y11] S') = .nx [some fr, some (rwD c rows), some (.ob il), some (.ob S.length), y4, y5, y6, y7, y8, y9, y10, y11] (S'.set il (.dT kvs)) := by
        unfold unlockF
        simp only [gone, if_true]
      rw [this]
      simp only [ez]
    · rw [hH q r]
      constructor
      · rintro ⟨j, z, _, h1, h2⟩
        exact ⟨z, List.mem_of_getElem? h1, h2⟩
      · rintro ⟨z, h1, h2⟩
        obtain ⟨j, hj⟩ := List.getElem?_of_mem h1
        exact ⟨j, z, (List.getElem?_eq_some_iff.mp hj).1, hj, h2⟩
    · rw [hHK q]
      constructor
      · rintro ⟨j, z, _, h1, h2⟩
        exact ⟨z, List.mem_of_getElem? h1, h2⟩
      · rintro ⟨z, h1, h2⟩
        obtain ⟨j, hj⟩ := List.getElem?_of_mem h1
        exact ⟨j, z, (List.getElem?_eq_some_iff.mp hj).1, hj, h2⟩
    · by_cases e : q = il
      · subst e
        rw [List.getElem?_set_self (by have := hF.le; omega)]
        exact hil.symm
      · rw [List.getElem?_set_ne (Ne.symm e), hF.fr q (by omega) (by omega) (by simp)]
        exact Bq q hq e
  obtain ⟨S1, kvs1, m1, is1, eb, k1, k2, k3, k4, k5, k6, k7, k8⟩ := key
  refine ⟨S1, kvs1, m1, is1, ?_, k1, k2, k3, k4, k5, k6, k7, k8⟩
  rw [show 12 + e = 11 + e + 1 by omega]
  exact call_new f5 rfl eb (low_new (Nat.le_refl _))
end
end K53

set_option Elab.async false
set_option linter.all false
set_option maxRecDepth 100000
set_option maxHeartbeats 2000000
namespace K53
open PySem PL
open M53 (Mx Ls Tr)
section
variable {c : Nat → Int} {fr : D} {fl : Nat → Nat → Bool} {rows : List (List Nat)}
structure Lay (fl : Nat → Nat → Bool) (rows : List (List Nat)) (t : Nat) (m : Lm) : Prop where
  has : ∀ pl r, Has m pl r ↔ ∃ way, way.length = t ∧ Mx rows pl way ∧ Ls (pb fl) way r
  key : ∀ pl, HasK m pl ↔ ∃ way, way.length = t ∧ Mx rows pl way
theorem lay0 : Lay fl rows 0 [(List.replicate rows.length 0, [[]])] := by
  have inv : ∀ {pl way : List Nat}, Mx rows pl way → way.length = 0 → pl = List.replicate rows.length 0 ∧ way = [] := fun h e => by
    cases h with
    | start => exact ⟨rfl, rfl⟩
    | step _ _ _ _ => simp at e
  have l0 : Ls (pb fl) [] [] := by
    obtain ⟨r, h⟩ := M53.ls_ex (pb_sym fl) (pb_irr fl) []
    have := lst_len h
    have e : r = [] := List.eq_nil_of_length_eq_zero (by simpa using this)
    rw [e] at h
    exact h
  refine ⟨fun pl r => ⟨?_, ?_⟩, fun pl => ⟨?_, ?_⟩⟩
  · rintro ⟨ws, h1, h2⟩
    have : (pl, ws) = (List.replicate rows.length 0, [[]]) := by simpa using h1
    cases this
    have : r = [] := by simpa using h2
    subst this
    exact ⟨[], rfl, .start, l0⟩
  · rintro ⟨way, h1, h2, h3⟩
    obtain ⟨rfl, rfl⟩ := inv h2 h1
    have := lst_len h3
    have e : r = [] := List.eq_nil_of_length_eq_zero (by simpa using this)
    rw [e]
    exact ⟨[[]], by simp, by simp⟩
  · intro h
    have : pl = List.replicate rows.length 0 := by simpa [HasK] using h
    exact ⟨[], rfl, this ▸ .start⟩
  · rintro ⟨way, h1, h2⟩
    obtain ⟨rfl, _⟩ := inv h2 h1
    simp [HasK]
theorem lay_step {t : Nat} {m m1 : Lm} (h : Lay fl rows t m) (h1 : ∀ q r, Has m1 q r ↔ ∃ z ∈ m, NewR fl rows z.1 z.2 rows.length q r) (h2 : ∀ q, HasK m1 q ↔ ∃ z ∈ m, NewRK rows z.1 rows.length q) : Lay fl rows (t + 1) m1 := by
  refine ⟨fun pl r => ?_, fun pl => ?_⟩
  · rw [h1 pl r]
    constructor
    · rintro ⟨z, hz, k, row, hk, hrow, p, x, e1, e2, rfl, u, hu, hl⟩
      obtain ⟨way, w1, w2, w3⟩ := (h.has z.1 u).mp ⟨z.2, hz, hu⟩
      exact ⟨way ++ [x], by simp [w1], .step w2 hrow e1 e2, (M53.ls_snoc (pb_sym fl) (pb_irr fl) w3).mp hl⟩
    · rintro ⟨way', w1, w2, w3⟩
      cases w2 with
      | start => simp at w1
      | @step pl way k p x row w2 g1 g2 g3 =>
        obtain ⟨u, hu⟩ := M53.ls_ex (pb_sym fl) (pb_irr fl) way
        obtain ⟨ws, k1, k2⟩ := (h.has pl u).mpr ⟨way, by simpa using w1, w2, hu⟩
        exact ⟨(pl, ws), k1, k, row, (List.getElem?_eq_some_iff.mp g1).1, g1, p, x, g2, g3, rfl, u, k2, (M53.ls_snoc (pb_sym fl) (pb_irr fl) hu).mpr w3⟩
  · rw [h2 pl]
    constructor
    · rintro ⟨z, hz, k, row, hk, hrow, p, x, e1, e2, rfl⟩
      obtain ⟨way, w1, w2⟩ := (h.key z.1).mp (List.mem_map.mpr ⟨z, hz, rfl⟩)
      exact ⟨way ++ [x], by simp [w1], .step w2 hrow e1 e2⟩
    · rintro ⟨way', w1, w2⟩
      cases w2 with
      | start => simp at w1
      | @step pl way k p x row w2 g1 g2 g3 =>
        obtain ⟨z, hz, e⟩ := List.mem_map.mp ((h.key pl).mpr ⟨way, by simpa using w1, w2⟩)
        subst e
        exact ⟨z, hz, k, row, (List.getElem?_eq_some_iff.mp g1).1, g1, p, x, g2, g3, rfl⟩
def total (rows : List (List Nat)) : Nat := (rows.map List.length).sum
theorem total_le (hR : Rws rows) : total rows ≤ 6 := by
  unfold total
  have : ∀ l : List (List Nat), (∀ r ∈ l, r.length ≤ 2) → (l.map List.length).sum ≤ 2 * l.length := fun l => by
    induction l with
    | nil => intro _; simp
    | cons a l ih =>
      intro hl
      have h1 := ih fun r hr => hl r (List.mem_cons_of_mem _ hr)
      have h2 := hl a List.mem_cons_self
      simp only [List.map_cons, List.sum_cons, List.length_cons]
      omega
  have := this rows fun r hr => (hR.row r hr).1
  have := hR.n
  omega
theorem mx_lt (hR : Rws rows) {pl way : List Nat} (h : Mx rows pl way) : ∀ q ∈ pl, q < 3 := fun q hq => by
  obtain ⟨k, hk⟩ := List.getElem?_of_mem hq
  have kl := (List.getElem?_eq_some_iff.mp hk).1
  rw [h.len] at kl
  have := h.le k q _ hk (List.getElem?_eq_getElem kl)
  have := (hR.row _ (List.getElem_mem kl)).1
  omega
/-- the words sorted -/
theorem sortD_wds {ws : List (List Nat)} {L : Nat} (nd : ws.Nodup) (h : ∀ r ∈ ws, r.length = L) (hl : ws.length ≤ 1000000) : sortD (ws.map (wd c)) = some ((ws.map (wd c)).mergeSort pyLe) := by
  have hd : ∀ x ∈ ws.map (wd c), x.dep ≤ 16 := fun x hx => by
    obtain ⟨u, _, rfl⟩ := List.mem_map.mp hx
    have := wd_dep (c := c) (w := u)
    omega
  cases L with
  | zero =>
    have he : ∀ r ∈ ws, r = [] := fun r hr => List.eq_nil_of_length_eq_zero (h r hr)
    cases ws with
    | nil => simp [sortD, allInt, sortI]
    | cons a ws =>
      cases ws with
      | nil =>
        unfold sortD
        have : allInt ([a].map (wd c)) = none := rfl
        rw [this]
        exact sort_dat cmp_wds (.inl (by simp)) hd (by simp)
      | cons b ws =>
        rw [List.nodup_cons] at nd
        exact absurd (by rw [he a (by simp), he b (by simp)]; simp) nd.1
  | succ L =>
    refine sortD_tup cmp_wds (fun x hx => ?_) hd (by rw [List.length_map]; exact hl)
    obtain ⟨u, hu, rfl⟩ := List.mem_map.mp hx
    have := h u hu
    cases u with
    | nil => simp at this
    | cons a u => rfl
theorem f4 : pg.fns[4]? = some ⟨2, 8, b_mixed_traces⟩ := rfl
def bM : Ss := .cons (.asg (.nm 4) (.call "mixed_further" 5 (.cons (.var 0) (.cons (.var 1) (.cons (.var 4) (.nil)))))) .nil
def bX : Ss := .cons (.ex (.bm .extend (.var 6) (.cons (.var 7) (.nil)))) .nil
theorem rep_zero : ∀ rows : List (List Nat), (rows.map (wd c)).map (fun _ => D.int 0) = nts (List.replicate rows.length 0)
  | [] => rfl
  | r :: rows => by
    have := rep_zero rows
    simp only [List.map_cons, List.length_cons, List.replicate_succ]
    rw [this]
    rfl
theorem lens_ints : ∀ rows : List (List Nat), allInt (rows.map fun r => D.int (r.length : Int)) = some (rows.map fun r => (r.length : Int))
  | [] => rfl
  | r :: rows => by simp [allInt, lens_ints rows]
theorem lens_sum : ∀ rows : List (List Nat), (rows.map fun r => (r.length : Int)).sum = (total rows : Int)
  | [] => rfl
  | r :: rows => by
    have := lens_sum rows
    unfold total at this ⊢
    simp only [List.map_cons, List.sum_cons, this]
    omega
/-- what mixed_traces tells -/
theorem traces_call {e : Nat} {S : Sto} (h : Fre c fr fl) (hR : Rws rows) (h0 : S[0]? = some (.tab tq)) : ∃ ws : List (List Nat), callF pg (13 + e) 4 [fr, rwD c rows] S = .ok (.tup ((ws.map (wd c)).mergeSort pyLe)) S ∧ ws.Nodup ∧ (∀ r, r ∈ ws ↔ ∃ pl way, way.length = total rows ∧ Mx rows pl way ∧ Ls (pb fl) way r) := by
  have key : ∃ (ws : List (List Nat)) (S1 : Sto), evSs ⟨callF pg (12 + e), callF pg (12 + e - 1), pg.meth, pg.init, pg.lit, pg.isx⟩ b_mixed_traces (startE 8 [fr, rwD c rows]) S = .ret (.tup ((ws.map (wd c)).mergeSort pyLe)) S1 ∧ ws.Nodup ∧ (∀ r, r ∈ ws ↔ ∃ pl way, way.length = total rows ∧ Mx rows pl way ∧ Ls (pb fl) way r) ∧ S1.take S.length = S := by
    generalize hT : (⟨callF pg (12 + e), callF pg (12 + e - 1), pg.meth, pg.init, pg.lit, pg.isx⟩ : Tab) = T
    have hcf : T.cf = callF pg (12 + e) := by rw [← hT]
    have tl := total_le hR
    have s0l := (List.getElem?_eq_some_iff.mp h0).1
    -- the first layer
    generalize hS1 : S ++ [O.lst [wd c []], .dT [(.tup (nts (List.replicate rows.length 0)), .ob S.length)]] = S1
    have S1l : S1.length = S.length + 2 := by rw [← hS1]; simp
    have hL0 : LD c S1 [(.tup (nts (List.replicate rows.length 0)), .ob S.length)] [(List.replicate rows.length 0, [[]])] [S.length] := ⟨rfl, by simp, by simp, rfl, fun j z i h1 h2 => by
      cases j with
      | zero =>
        have e1 : (List.replicate rows.length 0, [[]]) = z := by simpa using h1
        have e2 : S.length = i := by simpa using h2
        rw [← e1, ← e2, ← hS1]
        simp
      | succ j => simp at h1⟩
    have hd0 : S1[S.length + 1]? = some (.dT [(.tup (nts (List.replicate rows.length 0)), .ob S.length)]) := by rw [← hS1]; simp
    have g0 : Gd rows.length 0 [(List.replicate rows.length 0, [[]])] := ⟨fun z hz => by
      have : z = (List.replicate rows.length 0, [[]]) := by simpa using hz
      subst this
      refine ⟨by simp, fun q hq => ?_⟩
      have := List.eq_of_mem_replicate hq
      omega, fun z hz => by
      have : z = (List.replicate rows.length 0, [[]]) := by simpa using hz
      subst this
      refine ⟨by simp, fun r hr => ?_⟩
      have : r = [] := by simpa using hr
      subst this
      exact ⟨rfl, fun a ha => nomatch ha⟩⟩
    have lp := forR_inv (v := { items := rngD 0 (total rows) 1 }) (body := bodyR (.nm 5) (evSs T bM)) (fun q ρ S' => ∃ (x2 x3 x5 : Option D) (il : Nat) (kvs : List (D × D)) (m : Lm) (is : List Nat), ρ = [some fr, some (rwD c rows), x2, x3, some (.ob il), x5, none, none] ∧ q ≤ total rows ∧
        LD c S' kvs m is ∧ S'[il]? = some (.dT kvs) ∧ Gd rows.length q m ∧ Lay fl rows q m ∧ S.length ≤ S'.length ∧ (∀ i, i < S.length → S'[i]? = S[i]?) ∧ S.length ≤ il ∧ ∀ i ∈ is, S.length ≤ i)
      (rngD 0 (total rows) 1) 0 [some fr, some (rwD c rows), none, some (.tup (nts (List.replicate rows.length 0))), some (.ob (S.length + 1)), none, none, none] S1
      ⟨none, _, none, S.length + 1, _, _, _, rfl, by omega, hL0, hd0, g0, lay0, by omega, fun i hi => by rw [← hS1, List.getElem?_append_left hi], by omega, fun i hi => by rw [show i = S.length by simpa using hi]; exact Nat.le_refl _⟩ (fun _ _ _ _ => rfl)
      (fun q x ρ S' hx ⟨x2, x3, x5, il, kvs, m, is, e1, e2, hL, hd, g, ly, hl, hS, hil, his⟩ => by
        subst e1
        rw [Nat.zero_add] at e2 g ly ⊢
        have hq : q < total rows := by
          have := (List.getElem?_eq_some_iff.mp hx).1
          rw [rngD_len] at this
          exact this
        obtain ⟨S2, kvs1, m1, is1, ec, k1, k2, k3, k4, k5, k6, k7, k8⟩ := further_call (e := e) (S := S') h hR (by rw [hS 0 s0l]; exact h0) hL hd g (fun z hz => by
          obtain ⟨way, _, hm⟩ := (ly.key z.1).mp (List.mem_map.mpr ⟨z, hz, rfl⟩)
          exact mx_lt hR hm) (by omega)
        rw [← hcf] at ec
        refine ⟨[some fr, some (rwD c rows), x2, x3, some (.ob S'.length), some x, none, none], S2, .inl ((body_nm (show 5 < 8 by decide)).trans ?_), x2, x3, some x, S'.length, kvs1, m1, is1, rfl, by omega, k1, k2, k3, lay_step ly k4 k5, by omega, fun i hi => by rw [k7 i (by omega)]; exact hS i hi, hl, fun i hi => by have := k8 i hi; omega⟩
        unfold bM
        simp only [ez, ec])
    obtain ⟨ρ', S2, e2, x2, x3, x5, il, kvs, m, is, rfl, _, hL, hd, g, ly, hl, hS, hil, his⟩ := lp
    rw [rngD_len, Nat.zero_add] at g ly
    -- one key at most
    have mk : ∀ z ∈ m, z.1 = rows.map List.length := fun z hz => by
      obtain ⟨way, h1, h2⟩ := (ly.key z.1).mp (List.mem_map.mpr ⟨z, hz, rfl⟩)
      exact M53.full_of h2.len (fun k p row a b => h2.le k p row a b) (h2.sum.trans h1)
    have m1 : m = [] ∨ ∃ z, m = [z] := by
      cases m with
      | nil => exact .inl rfl
      | cons a m =>
        cases m with
        | nil => exact .inr ⟨a, rfl⟩
        | cons b m =>
          have nd := hL.kn
          rw [List.map_cons, List.map_cons, List.nodup_cons] at nd
          exact absurd (by rw [mk a (by simp), mk b (by simp)]; simp) nd.1
    -- the start
    have lens := cm (T := T) (ρ := [some fr, some (rwD c rows), none, some (.tup (nts (List.replicate rows.length 0))), some (.ob (S.length + 1)), none, none, none]) (S := S1) (v := { items := rows.map (wd c) }) (own := [2]) (elt := .bi .len (.cons (.var 2) .nil)) (i := 2) (xs := rows.map (wd c)) (f := fun d => match d with | .tup xs => .int (xs.length : Int) | _ => .non) (by simp [wipeE]) rfl (fun x hx => by
      obtain ⟨r, _, rfl⟩ := List.mem_map.mp hx
      unfold wd
      simp only [ez, wipeE]) (by rw [List.length_map]; have := hR.n; omega)
    have lensE : (rows.map (wd c)).map (fun d => match d with | .tup xs => D.int (xs.length : Int) | _ => .non) = rows.map fun r => D.int (r.length : Int) := by
      rw [List.map_map]
      exact List.map_congr_left fun r _ => by simp [wd]
    rw [lensE] at lens
    have zeros := cm (T := T) (ρ := [some fr, some (rwD c rows), none, none, none, none, none, none]) (S := S) (v := { items := rows.map (wd c) }) (own := [2]) (elt := .cst (.int 0)) (i := 2) (xs := rows.map (wd c)) (f := fun _ => .int 0) (by simp [wipeE]) rfl (fun x hx => rfl) (by rw [List.length_map]; have := hR.n; omega)
    rw [rep_zero] at zeros
    have sm : small (total rows : Int) = true := small_of (by omega)
    have S2il : il < S2.length := (List.getElem?_eq_some_iff.mp hd).1
    -- the end, by the words
    have fin : ∀ ws : List (List Nat), ws.Nodup → (∀ r ∈ ws, r.length = total rows ∧ ∀ a ∈ r, a < 4) → (∀ r, r ∈ ws ↔ ∃ pl way, way.length = total rows ∧ Mx rows pl way ∧ Ls (pb fl) way r) →
        (∃ (y7 : Option D) (S3 : Sto), forR (walkD false kvs) { items := walkD false kvs } (bodyR (.nm 7) (evSs T bX)) [some fr, some (rwD c rows), x2, x3, some (.ob il), x5, some (.ob S2.length), none] ((S2 ++ [O.lst []]).set il .gone) = .nx [some fr, some (rwD c rows), x2, x3, some (.ob il), x5, some (.ob S2.length), y7] S3 ∧ S3[il]? = some .gone ∧ S3[S2.length]? = some (.lst (ws.map (wd c))) ∧ S2.length ≤ S3.length ∧ ∀ i, i < S.length → S3[i]? = S[i]?) →
        ∃ (ws : List (List Nat)) (S1 : Sto), evSs T b_mixed_traces (startE 8 [fr, rwD c rows]) S = .ret (.tup ((ws.map (wd c)).mergeSort pyLe)) S1 ∧ ws.Nodup ∧ (∀ r, r ∈ ws ↔ ∃ pl way, way.length = total rows ∧ Mx rows pl way ∧ Ls (pb fl) way r) ∧ S1.take S.length = S := by
      rintro ws nd hw hm ⟨y7, S3, ef, hg, hwl, hl3, hS3⟩
      refine ⟨ws, S3.set il (.dT kvs), ?_, nd, hm, ?_⟩
      · have eρ : startE 8 [fr, rwD c rows] = [some fr, some (rwD c rows), none, none, none, none, none, none] := rfl
        rw [eρ]
        have gd : (S2 ++ [O.lst []])[il]? = some (.dT kvs) := app_keep hd
        have hwl2 : (S3.set il (O.dT kvs))[S2.length]? = some (.lst (ws.map (wd c))) := by rw [List.getElem?_set_ne (by omega)]; exact hwl
        have ul : unlockF il (.dT kvs) (F.nx [some fr, some (rwD c rows), x2, x3, some (.ob il), x5, some (.ob S2.length), y7] S3) = .nx [some fr, some (rwD c rows), x2, x3, some (.ob il), x5, some (.ob S2.length), y7] (S3.set il (.dT kvs)) := by
          unfold unlockF
          simp only [hg, if_true]
        have so := sortD_wds (c := c) nd (fun r hr => (hw r hr).1) (Nat.le_trans (few6 nd hw tl) (by omega))
        have ok := okK (l := List.replicate rows.length 0)
        have hS1' : S ++ [O.lst [D.tup []], .dT [(.tup (nts (List.replicate rows.length 0)), .ob S.length)]] = S1 := hS1
        unfold bM at e2
        unfold bX at ef
        unfold b_mixed_traces
        unfold rwD at e2 ef zeros lens ul ⊢
        simp only [ez, zeros, n_dnew3 ok, hS1', lens, lens_ints, lens_sum, sm, Int.toNat_natCast, e2]
        simp only [ez, gd, ef, ul]
        simp only [ez, hwl2, so]
      · apply List.ext_getElem?
        intro i
        by_cases hi : i < S.length
        · rw [List.getElem?_take_of_lt hi, List.getElem?_set_ne (by omega), hS3 i hi]
        · rw [List.getElem?_eq_none (by rw [List.length_take]; omega), List.getElem?_eq_none (by omega)]
    have base : ∀ i, i < S.length → ((S2 ++ [O.lst []]).set il .gone)[i]? = S[i]? := fun i hi => by rw [List.getElem?_set_ne (by omega), List.getElem?_append_left (by omega)]; exact hS i hi
    have bgone : ((S2 ++ [O.lst []]).set il .gone)[il]? = some .gone := List.getElem?_set_self (by simp; omega)
    have bfound : ((S2 ++ [O.lst []]).set il .gone)[S2.length]? = some (.lst []) := by rw [List.getElem?_set_ne (by omega)]; simp
    rcases m1 with rfl | ⟨z, rfl⟩
    · have hk : kvs = [] := by rw [hL.kv]; rfl
      subst hk
      refine fin [] (by simp) (fun r hr => nomatch hr) (fun r => ⟨fun hr => (nomatch hr), fun ⟨pl, way, h1, h2, h3⟩ => ?_⟩) ⟨none, _, rfl, bgone, bfound, by simp, base⟩
      obtain ⟨ws, hw, _⟩ := (ly.has pl r).mpr ⟨way, h1, h2, h3⟩
      cases hw
    · obtain ⟨i, his1⟩ : ∃ i, is = [i] := by
        have := hL.len
        match is, this with
        | [i], _ => exact ⟨i, rfl⟩
      subst his1
      have hi := hL.obj 0 z i rfl rfl
      have ni : i ≠ il := fun e => by rw [e, hd] at hi; cases hi
      have il2 : i < S2.length := (List.getElem?_eq_some_iff.mp hi).1
      have hk : kvs = [(.tup (nts z.1), .ob i)] := by rw [hL.kv]; rfl
      subst hk
      have gz := g.row z (by simp)
      have bi : ((S2 ++ [O.lst []]).set il .gone)[i]? = some (.lst (z.2.map (wd c))) := by rw [List.getElem?_set_ne (Ne.symm ni), List.getElem?_append_left il2]; exact hi
      have sl2 : ((S2 ++ [O.lst []]).set il .gone).length = S2.length + 1 := by simp
      generalize ((S2 ++ [O.lst []]).set il .gone) = S3 at base bgone bfound bi sl2 fin
      refine fin z.2 gz.1 gz.2 (fun r => ⟨fun hr => ?_, fun ⟨pl, way, h1, h2, h3⟩ => ?_⟩) ⟨some (.ob i), S3.set S2.length (.lst (z.2.map (wd c))), ?_, by rw [List.getElem?_set_ne (by omega)]; exact bgone, set_at bfound _, by rw [List.length_set]; omega, fun j hj => by rw [List.getElem?_set_ne (by omega)]; exact base j hj⟩
      · obtain ⟨way, h1, h2, h3⟩ := (ly.has z.1 r).mp ⟨z.2, by simp, hr⟩
        exact ⟨z.1, way, h1, h2, h3⟩
      · obtain ⟨ws, hw, hr⟩ := (ly.has pl r).mpr ⟨way, h1, h2, h3⟩
        have : (pl, ws) = z := by simpa using hw
        rw [← this]
        exact hr
      · have few := few6 gz.1 gz.2 tl
        show forR [D.ob i] _ _ _ _ = _
        refine (for_nx rfl ((body_nm (show 7 < 8 by decide)).trans ?_)).trans (show forR [] _ _ _ _ = _ from by simp only [forR]; rfl)
        unfold bX
        simp only [ez, bfound, bi, List.length_nil, List.length_map, show 0 + z.2.length ≤ 10000000 by omega]
  obtain ⟨ws, S1, eb, k1, k2, k3⟩ := key
  refine ⟨ws, ?_, k1, k2⟩
  rw [show 13 + e = 12 + e + 1 by omega]
  refine call_of f4 rfl eb (dat_low (show D.dats _ = true from dats_all.mpr fun x hx => ?_)) k3
  exact (cmp_wds (c := c) (l := ws)).1 x ((List.mergeSort_perm _ _).mem_iff.mp hx)
end
end K53

set_option Elab.async false
set_option linter.all false
set_option maxRecDepth 100000
set_option maxHeartbeats 2000000
namespace PL
open PySem
/-- a walk that may return -/
theorem forR_alt {v : ItV} {body : D → Env → Sto → F} (Iv : Nat → Env → Sto → Prop) (Rt : Nat → D → Sto → Prop) : ∀ (xs : List D) (n : Nat) (ρ : Env) (S : Sto), Iv n ρ S → (∀ i ρ S, Iv i ρ S → v.stays S = true) →
    (∀ i x ρ S, xs[i]? = some x → Iv (n + i) ρ S → (∃ ρ' S', body x ρ S = .nx ρ' S' ∧ Iv (n + i + 1) ρ' S') ∨ ∃ d S', body x ρ S = .ret d S' ∧ Rt (n + i) d S') → (∃ ρ' S', forR xs v body ρ S = .nx ρ' S' ∧ Iv (n + xs.length) ρ' S') ∨ ∃ i d S', forR xs v body ρ S = .ret d S' ∧ Rt i d S'
  | [], n, ρ, S, h, st, _ => .inl ⟨ρ, S, by simp only [forR, st n ρ S h, if_true], h⟩
  | x :: xs, n, ρ, S, h, st, step => by
    rcases step 0 x ρ S rfl h with ⟨ρ1, S1, e, h1⟩ | ⟨d, S1, e, h1⟩
    · rcases forR_alt Iv Rt xs (n + 1) ρ1 S1 h1 st (fun i y ρ S hy hI => by
        have := step (i + 1) y ρ S (by simpa using hy) (by rw [show n + (i + 1) = n + 1 + i by omega]; exact hI)
        rw [show n + (i + 1) + 1 = n + 1 + i + 1 by omega, show n + (i + 1) = n + 1 + i by omega] at this
        exact this) with ⟨ρ2, S2, e2, h2⟩ | ⟨i, d, S2, e2, h2⟩
      · refine .inl ⟨ρ2, S2, ?_, by rw [List.length_cons, show n + (xs.length + 1) = n + 1 + xs.length by omega]; exact h2⟩
        simp only [forR, st n ρ S h, if_true, e]
        exact e2
      · refine .inr ⟨i, d, S2, ?_, h2⟩
        simp only [forR, st n ρ S h, if_true, e]
        exact e2
    · refine .inr ⟨n, d, S1, ?_, h1⟩
      simp only [forR, st n ρ S h, if_true, e]
end PL
namespace K53
open PySem PL
section
variable {c : Nat → Int} {fr : D} {fl : Nat → Nat → Bool} {w : List Nat}
/-- two places that may not come nearer -/
def bad (fl : Nat → Nat → Bool) (w : List Nat) (i j : Nat) : Bool := decide (w.getD i 0 ≠ w.getD j 0) && !pb fl (w.getD i 0) (w.getD j 0)
/-- the size of the window -/
def Sz (fl : Nat → Nat → Bool) (w : List Nat) (v : Nat) : Prop := v ≤ w.length ∧ (∀ i j, i < j → j < w.length → bad fl w i j = true → v ≤ j - i - 1) ∧ (v = w.length ∨ ∃ i j, i < j ∧ j < w.length ∧ bad fl w i j = true ∧ v = j - i - 1)
theorem sz_uniq {v u : Nat} (h : Sz fl w v) (k : Sz fl w u) : v = u := by
  obtain ⟨h1, h2, h3⟩ := h
  obtain ⟨k1, k2, k3⟩ := k
  have a : u ≤ v := by
    rcases h3 with rfl | ⟨i, j, a1, a2, a3, rfl⟩
    · exact k1
    · exact k2 i j a1 a2 a3
  have b : v ≤ u := by
    rcases k3 with rfl | ⟨i, j, a1, a2, a3, rfl⟩
    · exact h1
    · exact h2 i j a1 a2 a3
  omega
theorem f6 : pg.fns[6]? = some ⟨2, 4, b_window⟩ := rfl
def bWi : Ss := .cons (.ite (.bop true (.cons (.cmp .NotEq (.idx (.var 1) (.var 3)) (.idx (.var 1) (.bin .Add (.var 3) (.var 2)))) (.cons (.not (.call "may_pass" 0 (.cons (.var 0) (.cons (.idx (.var 1) (.var 3)) (.cons (.idx (.var 1) (.bin .Add (.var 3) (.var 2))) (.nil)))))) (.nil)))) (.cons (.ret (.bin .Sub (.var 2) (.cst (.int 1)))) <|
    .nil) (.nil)) .nil
def bWo : Ss := .cons (.for_ (.nm 3) (.rng1 (.bin .Sub (.bi .len (.cons (.var 1) (.nil))) (.var 2))) bWi) .nil
theorem at_sum {l : List D} {p s : Nat} : atI l ((p : Int) + (s : Int)) = l[p + s]? := by
  rw [← Int.natCast_add]
  exact atI_n
theorem win_turn {T : Tab} {k p s : Nat} {S : Sto} (hcf : T.cf = callF pg (k + 1)) (h : Fre c fr fl) (hp : p + s < w.length) :
    evSs T bWi [some fr, some (wd c w), some (.int (s : Int)), some (.int (p : Int))] S = if bad fl w p (p + s) then .ret (.int ((s : Int) - 1)) S else .nx [some fr, some (wd c w), some (.int (s : Int)), some (.int (p : Int))] S := by
  have g1 : idxD S (wd c w) (.int (p : Int)) = some (it c (w.getD p 0)) := by
    show atI (w.map (it c)) _ = _
    rw [atI_n]
    exact wd_get (by omega)
  have g2 : idxD S (wd c w) (.int ((p : Int) + (s : Int))) = some (it c (w.getD (p + s) 0)) := by
    show atI (w.map (it c)) _ = _
    rw [at_sum]
    exact wd_get hp
  have m := may_call (k := k) (S := S) (a := w.getD p 0) (b := w.getD (p + s) 0) h
  rw [← hcf] at m
  unfold bWi
  by_cases e : w.getD p 0 = w.getD (p + s) 0
  · have hb : bad fl w p (p + s) = false := by unfold bad; rw [decide_eq_false (fun z => z e), Bool.false_and]
    simp only [ez, g1, g2, eqD_it, decide_eq_true e, hb]
  · cases q : pb fl (w.getD p 0) (w.getD (p + s) 0) with
    | true =>
      have hb : bad fl w p (p + s) = false := by unfold bad; rw [q, Bool.not_true, Bool.and_false]
      simp only [ez, g1, g2, eqD_it, decide_eq_false e, m, q, hb]
    | false =>
      have hb : bad fl w p (p + s) = true := by unfold bad; rw [q, decide_eq_true e]; rfl
      simp only [ez, g1, g2, eqD_it, decide_eq_false e, m, q, hb]
theorem window_call {k : Nat} {S : Sto} (h : Fre c fr fl) (hw : w.length ≤ 1000) : ∃ v : Nat, callF pg (k + 2) 6 [fr, wd c w] S = .ok (.int (v : Int)) S ∧ Sz fl w v := by
  have key : ∃ v : Nat, evSs ⟨callF pg (k + 1), callF pg (k + 1 - 1), pg.meth, pg.init, pg.lit, pg.isx⟩ b_window (startE 4 [fr, wd c w]) S = .ret (.int (v : Int)) S ∧ Sz fl w v := by
    generalize hT : (⟨callF pg (k + 1), callF pg (k + 1 - 1), pg.meth, pg.init, pg.lit, pg.isx⟩ : Tab) = T
    have hcf : T.cf = callF pg (k + 1) := by rw [← hT]
    have hlen : biD .len [wd c w] S = some (.int (w.length : Int)) := by
      show some (D.int ((w.map (it c)).length : Int)) = _
      rw [List.length_map]
    have inner : ∀ (s : Nat) (x3 : Option D), 1 ≤ s → s < w.length → (∃ y3, evSs T bWo [some fr, some (wd c w), some (.int (s : Int)), x3] S = .nx [some fr, some (wd c w), some (.int (s : Int)), y3] S ∧ ∀ p, p + s < w.length → bad fl w p (p + s) = false) ∨
        (evSs T bWo [some fr, some (wd c w), some (.int (s : Int)), x3] S = .ret (.int ((s : Int) - 1)) S ∧ ∃ p, p + s < w.length ∧ bad fl w p (p + s) = true) := fun s x3 h1 h2 => by
      have sm : small ((w.length : Int) - (s : Int)) = true := small_of (by omega)
      have tn : ((w.length : Int) - (s : Int)).toNat = w.length - s := by omega
      have lp := forR_alt (v := { items := rngD 0 (w.length - s) 1 }) (body := bodyR (.nm 3) (evSs T bWi)) (fun q ρ S' => S' = S ∧ (∃ y3, ρ = [some fr, some (wd c w), some (.int (s : Int)), y3]) ∧ ∀ p, p < q → bad fl w p (p + s) = false) (fun q d S' => S' = S ∧ d = .int ((s : Int) - 1) ∧ ∃ p, p + s < w.length ∧ bad fl w p (p + s) = true)
        (rngD 0 (w.length - s) 1) 0 [some fr, some (wd c w), some (.int (s : Int)), x3] S ⟨rfl, ⟨x3, rfl⟩, fun p hp => absurd hp (Nat.not_lt_zero _)⟩ (fun _ _ _ _ => rfl) (fun q x ρ S' hx ⟨e0, ⟨y3, e1⟩, e2⟩ => by
          subst e0 e1
          rw [Nat.zero_add] at e2 ⊢
          have hq : q < w.length - s := by
            have := (List.getElem?_eq_some_iff.mp hx).1
            rw [rngD_len] at this
            exact this
          have ex := rngD_get hx
          rw [show (0 : Int) + (q : Int) * 1 = (q : Int) by omega] at ex
          subst ex
          have wt := win_turn (w := w) (T := T) (S := S') (p := q) (s := s) hcf h (by omega)
          cases hb : bad fl w q (q + s) with
          | false =>
            rw [hb] at wt
            refine .inl ⟨_, S', (body_nm (show 3 < 4 by decide)).trans wt, rfl, ⟨_, rfl⟩, fun p hp => ?_⟩
            by_cases e : p = q
            · rw [e]; exact hb
            · exact e2 p (by omega)
          | true =>
            rw [hb] at wt
            exact .inr ⟨_, S', (body_nm (show 3 < 4 by decide)).trans wt, rfl, rfl, q, by omega, hb⟩)
      rcases lp with ⟨ρ', S', e, rfl, ⟨y3, rfl⟩, hb⟩ | ⟨_, d, S', e, rfl, rfl, hb⟩
      · rw [rngD_len] at hb
        refine .inl ⟨y3, ?_, fun p hp => hb p (by omega)⟩
        unfold bWi at e
        unfold bWo bWi
        simp only [ez, hlen, sm, tn, e]
      · refine .inr ⟨?_, hb⟩
        unfold bWi at e
        unfold bWo bWi
        simp only [ez, hlen, sm, tn, e]
    have s1 : small (1 : Int) = true := by decide
    have sn : small (w.length : Int) = true := small_of (by omega)
    have tn : ((w.length : Int) - 1).toNat = w.length - 1 := by omega
    have lp := forR_alt (v := { items := rngD 1 (w.length - 1) 1 }) (body := bodyR (.nm 2) (evSs T bWo)) (fun q ρ S' => S' = S ∧ (∃ y2 y3, ρ = [some fr, some (wd c w), y2, y3]) ∧ ∀ s p, 1 ≤ s → s < q + 1 → p + s < w.length → bad fl w p (p + s) = false) (fun _ d S' => S' = S ∧ ∃ s : Nat, 1 ≤ s ∧ d = .int ((s : Int) - 1) ∧ (∃ p, p + s < w.length ∧ bad fl w p (p + s) = true) ∧ ∀ s' p, 1 ≤ s' → s' < s → p + s' < w.length → bad fl w p (p + s') = false)
      (rngD 1 (w.length - 1) 1) 0 [some fr, some (wd c w), none, none] S ⟨rfl, ⟨none, none, rfl⟩, fun s p h1 h2 => by omega⟩ (fun _ _ _ _ => rfl) (fun q x ρ S' hx ⟨e0, ⟨y2, y3, e1⟩, e2⟩ => by
        subst e0 e1
        rw [Nat.zero_add] at e2 ⊢
        have hq : q < w.length - 1 := by
          have := (List.getElem?_eq_some_iff.mp hx).1
          rw [rngD_len] at this
          exact this
        have ex := rngD_get hx
        rw [show (1 : Int) + (q : Int) * 1 = ((q + 1 : Nat) : Int) by omega] at ex
        subst ex
        rcases inner (q + 1) y3 (by omega) (by omega) with ⟨z3, ei, hb⟩ | ⟨ei, p, hp, hb⟩
        · refine .inl ⟨_, S', (body_nm (show 2 < 4 by decide)).trans ei, rfl, ⟨_, _, rfl⟩, fun s p h1 h2 h3 => ?_⟩
          by_cases e : s = q + 1
          · rw [e] at h3 ⊢; exact hb p h3
          · exact e2 s p h1 (by omega) h3
        · exact .inr ⟨_, S', (body_nm (show 2 < 4 by decide)).trans ei, rfl, q + 1, by omega, rfl, ⟨p, hp, hb⟩, fun s' p' h1 h2 h3 => e2 s' p' h1 (by omega) h3⟩)
    have eρ : startE 4 [fr, wd c w] = [some fr, some (wd c w), none, none] := rfl
    rw [eρ]
    rcases lp with ⟨ρ', S', e, rfl, ⟨y2, y3, rfl⟩, hb⟩ | ⟨_, d, S', e, rfl, s, h1, rfl, ⟨p, hp, hpb⟩, hb⟩
    · rw [rngD_len, Nat.zero_add] at hb
      refine ⟨w.length, ?_, Nat.le_refl _, fun i j h1 h2 h3 => ?_, .inl rfl⟩
      · unfold bWo bWi at e
        unfold b_window
        simp only [ez, hlen, s1, sn, tn, e]
      · have := hb (j - i) i (by omega) (by omega) (by omega)
        rw [show i + (j - i) = j by omega, h3] at this
        cases this
    · refine ⟨s - 1, ?_, by omega, fun i j g1 g2 g3 => ?_, .inr ⟨p, p + s, by omega, hp, hpb, by omega⟩⟩
      · unfold bWo bWi at e
        unfold b_window
        simp only [ez, hlen, s1, sn, tn, e]
        rw [show ((s - 1 : Nat) : Int) = (s : Int) - 1 by omega]
      · by_cases e : j - i < s
        · have := hb (j - i) i (by omega) e (by omega)
          rw [show i + (j - i) = j by omega, g3] at this
          cases this
        · omega
  obtain ⟨v, eb, hs⟩ := key
  exact ⟨v, call_of f6 rfl eb rfl List.take_length, hs⟩
end
end K53

set_option Elab.async false
set_option linter.all false
set_option maxRecDepth 100000
set_option maxHeartbeats 2000000
namespace K53
open PySem PL
section
variable {c : Nat → Int} {fr : D} {fl : Nat → Nat → Bool} {w : List Nat} {k i j b m : Nat} {ns : List Int} {S0 S : Sto}
theorem f8 : pg.fns[8]? = some ⟨2, 5, bDraw⟩ := rfl
theorem f9 : pg.fns[9]? = some ⟨2, 5, b_law_free_of⟩ := rfl
theorem f10 : pg.fns[10]? = some ⟨2, 2, b_law_one_of⟩ := rfl
def its (c : Nat → Int) : List D := (List.range 4).map (it c)
theorem its_get {a : Nat} (h : a < 4) : (its c)[a]? = some (it c a) := by
  unfold its
  rw [List.getElem?_map, List.getElem?_range h]
  rfl
/-- one of the items -/
theorem one_call (h : Dws i j ns S0 m S) (hm : m ≤ 1000000) (hb : S[b]? = some (.lst (its c))) (hbi : b ≠ i) : ∃ a S2, callF pg (k + 2) 10 [.ob i, .ob b] S = .ok (it c a) S2 ∧ a < 4 ∧ Dws i j ns S0 (m + 1) S2 ∧ But i S S2 := by
  generalize hT : (⟨callF pg (k + 1), callF pg (k + 1 - 1), pg.meth, pg.init, pg.lit, pg.isx⟩ : Tab) = T
  have hcf : T.cf = callF pg (k + 1) := by rw [← hT]
  obtain ⟨r, S2, e, r0, r1, hd2, hbut⟩ := h.draw (k := k) f8 (by omega) (by decide : (0 : Int) < 4) (pow_ge (by decide))
  rw [← hcf] at e
  have hb2 : S2[b]? = some (.lst (its c)) := by rw [hbut.2 b hbi]; exact hb
  have hx : atI (its c) r = some (it c r.toNat) := by
    have : r = ((r.toNat : Nat) : Int) := by omega
    rw [this, atI_n, Int.toNat_natCast]
    exact its_get (by omega)
  have ll : ((its c).length : Int) = 4 := rfl
  have eb : evSs T b_law_one_of (startE 2 [.ob i, .ob b]) S = .ret (it c r.toNat) S2 := by
    have eρ : startE 2 [.ob i, .ob b] = [some (.ob i), some (.ob b)] := rfl
    rw [eρ]
    unfold b_law_one_of
    simp only [ew, hb, ll, e, hb2, hx]
  have il : i < S.length := by
    obtain ⟨cc, hd, _, _⟩ := h
    exact hd.but (S' := S).1
  have e2 : callF pg (k + 2) 10 [.ob i, .ob b] S = .ok (it c r.toNat) S2 ∨ callF pg (k + 2) 10 [.ob i, .ob b] S = .ok (it c r.toNat) S ∧ S2.take S.length = S := by
    rw [call_run f10 rfl, hT]
    have : startE 2 [D.ob i, .ob b] = startE 2 [D.ob i, .ob b] := rfl
    show PL.trunc S (endF (evSs T b_law_one_of (startE 2 [.ob i, .ob b]) S)) = _ ∨ PL.trunc S (endF (evSs T b_law_one_of (startE 2 [.ob i, .ob b]) S)) = _ ∧ _
    rw [eb]
    show PL.trunc S (.ok _ S2) = _ ∨ PL.trunc S (.ok _ S2) = _ ∧ _
    unfold PL.trunc
    dsimp only
    split
    · rename_i hc
      rw [Bool.and_eq_true, decide_eq_true_eq] at hc
      exact .inr ⟨rfl, hc.2⟩
    · exact .inl rfl
  rcases e2 with e2 | ⟨e2, ht⟩
  · exact ⟨r.toNat, S2, e2, by omega, hd2, hbut⟩
  · have : S2 = S := by rw [← ht, ← hbut.1, List.take_length]
    subst this
    exact ⟨r.toNat, S2, e2, by omega, hd2, hbut⟩
def prD (c : Nat → Int) (p : Nat × Nat) : D := .tup [it c p.1, it c p.2]
def bFc : E := .cmp .Eq (.call "_law_draw" 8 (.cons (.var 0) (.cons (.cst (.int 2)) (.nil)))) (.cst (.int 0))
def bFe : E := .tup (.cons (.idx (.var 1) (.var 3)) (.cons (.idx (.var 1) (.var 4)) (.nil)))
/-- the pairs of one item -/
theorem pairs_comp {T : Tab} {a : Nat} {x2 x4 : Option D} (hcf : T.cf = callF pg (k + 1)) (h : Dws i j ns S0 m S) (hm : m ≤ 1000000) (hb : S[b]? = some (.lst (its c))) (hbi : b ≠ i) (ha : a < 4) :
    ∃ (zs : List (Nat × Nat)) (S2 : Sto), compR (rngD ((a : Int) + 1) (4 - ((a : Int) + 1)).toNat 1) { items := rngD ((a : Int) + 1) (4 - ((a : Int) + 1)).toNat 1 } (turn1 (.nm 4) [4] (evT T (.cons bFc .nil)) (evE T bFe) [some (.ob i), some (.ob b), x2, some (.int (a : Int)), x4]) [] S = .ok (zs.map (prD c)) S2 ∧ zs.length ≤ 4 ∧ Dws i j ns S0 (m + 4) S2 ∧ But i S S2 := by
  have tn : (4 - ((a : Int) + 1)).toNat = 3 - a := by omega
  rw [tn]
  have lp := compR_inv (v := { items := rngD ((a : Int) + 1) (3 - a) 1 }) (turn := turn1 (.nm 4) [4] (evT T (.cons bFc .nil)) (evE T bFe) [some (.ob i), some (.ob b), x2, some (.int (a : Int)), x4]) (fun q acc S' => ∃ zs : List (Nat × Nat), acc = zs.map (prD c) ∧ zs.length ≤ q ∧ q ≤ 4 ∧ Dws i j ns S0 (m + q) S' ∧ But i S S')
    (rngD ((a : Int) + 1) (3 - a) 1) 0 [] S ⟨[], rfl, by simp, by omega, h, .refl⟩ (fun q acc S' ⟨zs, e, h1, h2, _⟩ => ⟨rfl, by rw [e, List.length_map]; omega⟩) (fun q x acc S' hx ⟨zs, e1, e2, e3, e4, e5⟩ => by
      subst e1
      rw [Nat.zero_add] at e2 e3 e4 ⊢
      have hq : q < 3 - a := by
        have := (List.getElem?_eq_some_iff.mp hx).1
        rw [rngD_len] at this
        exact this
      have ex := rngD_get hx
      rw [show (a : Int) + 1 + (q : Int) * 1 = ((a + 1 + q : Nat) : Int) by omega] at ex
      subst ex
      obtain ⟨r, S2, ed, r0, r1, hd2, hbut⟩ := e4.draw (k := k) f8 (by omega) (by decide : (0 : Int) < 2) (pow_ge (by decide))
      rw [← hcf] at ed
      have ec : evE T bFc ((wipeE [some (.ob i), some (.ob b), x2, some (.int (a : Int)), x4] [4]).set 4 (some (.int ((a + 1 + q : Nat) : Int)))) S' = .ok (.bl (decide (r = 0))) S2 := by
        unfold bFc
        simp only [ew, wipeE, ed]
      have hb2 : S2[b]? = some (.lst (its c)) := by rw [hbut.2 b hbi, e5.2 b hbi]; exact hb
      have ee : evE T bFe ((wipeE [some (.ob i), some (.ob b), x2, some (.int (a : Int)), x4] [4]).set 4 (some (.int ((a + 1 + q : Nat) : Int)))) S2 = .ok (prD c (a, a + 1 + q)) S2 := by
        have g1 : atI (its c) (a : Int) = some (it c a) := by rw [atI_n]; exact its_get ha
        have g2 : atI (its c) ((a + 1 + q : Nat) : Int) = some (it c (a + 1 + q)) := by rw [atI_n]; exact its_get (by omega)
        unfold bFe
        simp only [ew, wipeE, hb2, g1, g2]
        rfl
      rw [turn1_at (by simp [wipeE]) rfl, ev_t1, ec, R.bind_ok, tru_bl, ofOpt_some, R.bind_ok]
      cases hr : decide (r = 0) with
      | false => exact ⟨[], S2, rfl, zs, by simp, by omega, by omega, hd2, e5.trans hbut⟩
      | true =>
        refine ⟨[prD c (a, a + 1 + q)], S2, ?_, zs ++ [(a, a + 1 + q)], by simp, by simp; omega, by omega, hd2, e5.trans hbut⟩
        rw [if_pos rfl, ev_t0, R.bind_ok, if_pos rfl, ee]
        rfl)
  obtain ⟨acc, S2, e, zs, rfl, h1, h2, h3, h4⟩ := lp
  rw [rngD_len, Nat.zero_add] at h1 h3
  exact ⟨zs, S2, e, by omega, h3.mono (by omega), h4⟩
def bF : Ss := .cons (.asg (.nm 2) (.own (.catE (.var 2) (.comp [4] bFe (.nm 4) (.rng2 (.bin .Add (.var 3) (.cst (.int 1))) (.bi .len (.cons (.var 1) (.nil)))) (.cons bFc (.nil)))))) .nil
theorem prD_dat {p : Nat × Nat} : (prD c p).dat = true := rfl
theorem cmp_prs {l : List (Nat × Nat)} : Cmp (l.map (prD c)) := ⟨fun x hx => by
  obtain ⟨p, _, rfl⟩ := List.mem_map.mp hx
  exact prD_dat, fun x hx y hy => by
  obtain ⟨p, _, rfl⟩ := List.mem_map.mp hx
  obtain ⟨q, _, rfl⟩ := List.mem_map.mp hy
  rfl⟩
/-- the free pairs -/
theorem free_call (h : Dws i j ns S0 m S) (hm : m ≤ 100000) (hb : S[b]? = some (.lst (its c))) (hbi : b ≠ i) : ∃ (fr : D) (fl : Nat → Nat → Bool) (S2 : Sto), callF pg (k + 2) 9 [.ob i, .ob b] S = .ok fr S2 ∧ Fre c fr fl ∧ Dws i j ns S0 (m + 16) S2 ∧ Gr i S S2 := by
  have key : ∃ (ys : List (Nat × Nat)) (S2 : Sto), evSs ⟨callF pg (k + 1), callF pg (k + 1 - 1), pg.meth, pg.init, pg.lit, pg.isx⟩ b_law_free_of (startE 5 [.ob i, .ob b]) S = .ret (.tup (ys.map (prD c))) S2 ∧ Dws i j ns S0 (m + 16) S2 ∧ Gr i S S2 := by
    generalize hT : (⟨callF pg (k + 1), callF pg (k + 1 - 1), pg.meth, pg.init, pg.lit, pg.isx⟩ : Tab) = T
    have hcf : T.cf = callF pg (k + 1) := by rw [← hT]
    have ll : ((its c).length : Int) = 4 := rfl
    have il : i < S.length := by
      obtain ⟨cc, hd, _, _⟩ := h
      exact hd.but (S' := S).1
    have lp := forR_inv (v := { items := rngD 0 4 1 }) (body := bodyR (.nm 3) (evSs T bF)) (fun q ρ S' => ∃ (ys : List (Nat × Nat)) (f : Nat) (x3 x4 : Option D), ρ = [some (.ob i), some (.ob b), some (.ob f), x3, x4] ∧ S'[f]? = some (.lst (ys.map (prD c))) ∧ ys.length ≤ 4 * q ∧ q ≤ 4 ∧ S.length ≤ f ∧ Dws i j ns S0 (m + 4 * q) S' ∧ Gr i S S')
      (rngD 0 4 1) 0 [some (.ob i), some (.ob b), some (.ob S.length), none, none] (S ++ [.lst []]) ⟨[], S.length, none, none, rfl, by simp, by simp, by omega, Nat.le_refl _, h.push, .push⟩ (fun _ _ _ _ => rfl) (fun q x ρ S' hx ⟨ys, f, x3, x4, e1, e2, e3, e4, e5, e6, e7⟩ => by
        subst e1
        rw [Nat.zero_add] at e3 e4 e6 ⊢
        have hq : q < 4 := by
          have := (List.getElem?_eq_some_iff.mp hx).1
          rw [rngD_len] at this
          exact this
        have ex := rngD_get hx
        rw [show (0 : Int) + (q : Int) * 1 = (q : Int) by omega] at ex
        subst ex
        have hb' : S'[b]? = some (.lst (its c)) := e7.get hbi hb
        obtain ⟨zs, S2, ec, hz, hd2, hbut⟩ := pairs_comp (T := T) (a := q) (x2 := some (.ob f)) (x4 := x4) hcf e6 (by omega) hb' hbi hq
        have fi : f ≠ i := by omega
        have hf2 : S2[f]? = some (.lst (ys.map (prD c))) := by rw [hbut.2 f fi]; exact e2
        have s1 : small ((q : Int) + 1) = true := small_of (by omega)
        have s4 : small (4 : Int) = true := by decide
        refine ⟨[some (.ob i), some (.ob b), some (.ob S2.length), some (.int (q : Int)), x4], S2 ++ [.lst ((ys ++ zs).map (prD c))], .inl ((body_nm (show 3 < 5 by decide)).trans ?_), ys ++ zs, S2.length, _, _, rfl, by simp, by simp; omega, by omega, by rw [hbut.1]; exact e7.1, (hd2.mono (by omega)).push, (e7.trans (.of hbut)).trans .push⟩
        unfold bF
        simp only [ew, hb', ll, s1, s4, ec, hf2, List.map_append, List.length_map, show ys.length + zs.length ≤ 10000000 by omega])
    obtain ⟨ρ', S2, e, ys, f, x3, x4, rfl, h1, h2, h3, h4, h5, h6⟩ := lp
    rw [rngD_len, Nat.zero_add] at h2 h3 h5
    have s4 : small (4 : Int) = true := by decide
    have so : sortD (ys.map (prD c)) = some ((ys.mergeSort fun p q => pyLe (prD c p) (prD c q)).map (prD c)) := by
      rw [List.map_mergeSort (r := fun p q => pyLe (prD c p) (prD c q)) (s := pyLe) (f := prD c) (l := ys) (fun a _ b _ => rfl)]
      refine sortD_tup cmp_prs (fun x hx => ?_) (fun x hx => ?_) (by rw [List.length_map]; omega)
      · obtain ⟨p, _, rfl⟩ := List.mem_map.mp hx
        rfl
      · obtain ⟨p, _, rfl⟩ := List.mem_map.mp hx
        simp [prD, it, D.dep, D.deps]
    refine ⟨ys.mergeSort fun p q => pyLe (prD c p) (prD c q), S2, ?_, h5.mono (by omega), h6⟩
    have eρ : startE 5 [.ob i, .ob b] = [some (.ob i), some (.ob b), none, none, none] := rfl
    rw [eρ]
    have hb' : (S ++ [O.lst []])[b]? = some (.lst (its c)) := app_keep hb
    have t4 : (4 : Int).toNat = 4 := rfl
    unfold bF bFc bFe at e
    unfold b_law_free_of
    simp only [ez, hb', ll, s4, t4, e, h1, so]
  obtain ⟨ys, S2, eb, hd, hg⟩ := key
  have il : i < S.length := by
    obtain ⟨cc, hd, _, _⟩ := h
    exact hd.but (S' := S).1
  obtain ⟨S3, e3, hP⟩ := call_any (fun S' => (Dws i j ns S0 (m + 16) S') ∧ Gr i S S') f9 rfl eb ⟨h.mono (by omega), .refl⟩ ⟨hd, hg⟩
  exact ⟨.tup (ys.map (prD c)), fun a b => decide ((a, b) ∈ ys), S3, e3, ⟨ys, rfl, fun a b => rfl⟩, hP⟩
end
end K53

set_option Elab.async false
set_option linter.all false
set_option maxRecDepth 100000
set_option maxHeartbeats 2000000
namespace K53
open PySem PL
open M53 (Mx Ls Tr Fd IB swp exp1 expd bfs)
section
variable {c : Nat → Int} {fr : D} {fl : Nat → Nat → Bool} {w : List Nat} {rows : List (List Nat)}
/-! ### _law_trace -/
theorem f13 : pg.fns[13]? = some ⟨2, 7, b_law_trace⟩ := rfl
def bTk : Ss := .cons (.asg (.nm 5) (.idx (.var 2) (.var 3))) <|
    .cons (.ite (.call "_law_passes" 12 (.cons (.var 0) (.cons (.idx (.var 5) (.var 4)) (.cons (.idx (.var 5) (.bin .Add (.var 4) (.cst (.int 1)))) (.nil))))) (.cons (.asg (.nm 6) (.bin .Add (.bin .Add (.slc (.var 5) (.cst .non) (.var 4)) (.tup (.cons (.idx (.var 5) (.bin .Add (.var 4) (.cst (.int 1)))) (.cons (.idx (.var 5) (.var 4)) (.nil))))) (.slc (.var 5) (.bin .Add (.var 4) (.cst (.int 2))) (.cst .non)))) <|
    .cons (.ite (.cmp .NotIn (.var 6) (.var 2)) (.cons (.ex (.bm .append (.var 2) (.cons (.var 6) (.nil)))) <|
    .nil) (.nil)) <|
    .nil) (.nil)) <|
    .nil
def bTo : Ss := .cons (.ite (.cmp .Eq (.var 3) (.bi .len (.cons (.var 2) (.nil)))) (.cons (.ret (.var 2)) <|
    .nil) (.nil)) <|
    .cons (.for_ (.nm 4) (.rng1 (.bin .Sub (.bi .len (.cons (.var 1) (.nil))) (.cst (.int 1)))) bTk) <|
    .nil
theorem at_plus {l : List D} {p s : Nat} : atI l ((p : Int) + ((s : Nat) : Int)) = l[p + s]? := at_sum
theorem trace_turn {T : Tab} {e t k f : Nat} {S : Sto} {u : List Nat} {fd : List (List Nat)} {x1 x5 x6 : Option D} (hcf : T.cf = callF pg (e + 1)) (h : Fre c fr fl) (hf : S[f]? = some (.lst (fd.map (wd c)))) (ht : fd[t]? = some u) (hk : k + 1 < u.length) (hu : u.length ≤ 1000) (hl : fd.length ≤ 100000) :
    ∃ y6, evSs T bTk [some fr, x1, some (.ob f), some (.int (t : Int)), some (.int (k : Int)), x5, x6] S = .nx [some fr, x1, some (.ob f), some (.int (t : Int)), some (.int (k : Int)), some (wd c u), y6] (if exp1 (pb fl) u fd k = fd then S else S.set f (.lst ((exp1 (pb fl) u fd k).map (wd c)))) := by
  have g0 : atI (fd.map (wd c)) (t : Int) = some (wd c u) := by rw [atI_n, List.getElem?_map, ht]; rfl
  have g1 : idxD S (wd c u) (.int (k : Int)) = some (it c (u.getD k 0)) := by
    show atI (u.map (it c)) _ = _
    rw [atI_n]
    exact wd_get (by omega)
  have g2 : idxD S (wd c u) (.int ((k : Int) + 1)) = some (it c (u.getD (k + 1) 0)) := by
    show atI (u.map (it c)) _ = _
    rw [show (k : Int) + 1 = ((k + 1 : Nat) : Int) by omega, atI_n]
    exact wd_get (by omega)
  have m := passes_call (k := e) (S := S) (a := u.getD k 0) (b := u.getD (k + 1) 0) h
  rw [← hcf] at m
  cases hp : pb fl (u.getD k 0) (u.getD (k + 1) 0) with
  | false =>
    have he : exp1 (pb fl) u fd k = fd := by unfold exp1; rw [hp]; rfl
    rw [hp] at m
    refine ⟨x6, ?_⟩
    rw [if_pos he]
    unfold bTk
    simp only [ez, hf, g0, g1, g2, m]
  | true =>
    rw [hp] at m
    have c1 : jslcD (wd c u) none (some (k : Int)) S = .ok (.tup ((u.take k).map (it c))) S := by
      show R.ok (D.tup (cut (u.map (it c)) none (some (k : Int)))) S = _
      rw [cut_pre (by rw [List.length_map]; omega), List.map_take]
    have c2 : jslcD (wd c u) (some ((k : Int) + 2)) none S = .ok (.tup ((u.drop (k + 2)).map (it c))) S := by
      show R.ok (D.tup (cut (u.map (it c)) (some ((k : Int) + 2)) none)) S = _
      rw [show (k : Int) + 2 = ((k + 2 : Nat) : Int) by omega, cut_suf (by rw [List.length_map]; omega), List.map_drop]
    have a1 : binD .Add (.tup ((u.take k).map (it c))) (.tup [it c (u.getD (k + 1) 0), it c (u.getD k 0)]) = some (.tup ((u.take k).map (it c) ++ [it c (u.getD (k + 1) 0), it c (u.getD k 0)])) := n_catT (line_le (by simp; omega))
    have a2 : binD .Add (.tup ((u.take k).map (it c) ++ [it c (u.getD (k + 1) 0), it c (u.getD k 0)])) (.tup ((u.drop (k + 2)).map (it c))) = some (wd c (swp k u)) := by
      rw [n_catT (line_le (by simp; omega))]
      unfold wd swp
      simp
    have inw := in_wds (c := c) (l := fd) (r := swp k u)
    refine ⟨some (wd c (swp k u)), ?_⟩
    by_cases hm : swp k u ∈ fd
    · have he : exp1 (pb fl) u fd k = fd := by unfold exp1; rw [if_pos hp, if_pos hm]
      rw [if_pos he]
      rw [decide_eq_true hm] at inw
      unfold bTk
      simp only [ez, hf, g0, g1, g2, m, c1, c2, a1, a2, inw]
    · have he : exp1 (pb fl) u fd k = fd ++ [swp k u] := by unfold exp1; rw [if_pos hp, if_neg hm]
      rw [if_neg (by rw [he]; intro z; have := congrArg List.length z; simp at this), he]
      rw [decide_eq_false hm] at inw
      unfold bTk
      simp only [ez, hf, g0, g1, g2, m, c1, c2, a1, a2, inw, List.length_map, show fd.length < 10000000 by omega, List.map_append, List.map_cons, List.map_nil]
theorem trace_call {e : Nat} {S : Sto} (h : Fre c fr fl) (hw : ∀ x ∈ w, x < 4) (hl : w.length ≤ 6) : ∃ S', callF pg (e + 2) 13 [fr, wd c w] S = .ok (.ob S.length) S' ∧ S'[S.length]? = some (.lst ((bfs (pb fl) 5000 0 [w]).map (wd c))) ∧ S.length < S'.length ∧ ∀ q, q < S.length → S'[q]? = S[q]? := by
  have key : ∃ S', evSs ⟨callF pg (e + 1), callF pg (e + 1 - 1), pg.meth, pg.init, pg.lit, pg.isx⟩ b_law_trace (startE 7 [fr, wd c w]) S = .ret (.ob S.length) S' ∧ S'[S.length]? = some (.lst ((bfs (pb fl) 5000 0 [w]).map (wd c))) ∧ S.length < S'.length ∧ ∀ q, q < S.length → S'[q]? = S[q]? := by
    generalize hRR : bfs (pb fl) 5000 0 [w] = R
    generalize hT : (⟨callF pg (e + 1), callF pg (e + 1 - 1), pg.meth, pg.init, pg.lit, pg.isx⟩ : Tab) = T
    have hcf : T.cf = callF pg (e + 1) := by rw [← hT]
    have hlen : ∀ S, biD .len [wd c w] S = some (.int (w.length : Int)) := fun S => by
      show some (D.int ((w.map (it c)).length : Int)) = _
      rw [List.length_map]
    have F0 : Fd (pb fl) w [w] := ⟨by simp, rfl, fun u hu => by rw [show u = w by simpa using hu]; exact .refl w⟩
    have few : ∀ {fd}, Fd (pb fl) w fd → fd.length ≤ 4096 := fun F => Nat.le_trans (F.few hw) (by have : 4 ^ w.length ≤ 4 ^ 6 := Nat.pow_le_pow_right (by omega) hl; simpa using this)
    have sm : small ((w.length : Int) - 1) = true := small_of (by omega)
    have tn : ((w.length : Int) - 1).toNat = w.length - 1 := by omega
    -- the inner walk
    have inner : ∀ (t : Nat) (fd : List (List Nat)) (u : List Nat) (S1 : Sto) (x4 x5 x6 : Option D), Fd (pb fl) w fd → fd[t]? = some u → S1[S.length]? = some (.lst (fd.map (wd c))) → ∃ (y4 y5 y6 : Option D) (S2 : Sto), forR (rngD 0 (w.length - 1) 1) { items := rngD 0 (w.length - 1) 1 } (bodyR (.nm 4) (evSs T bTk)) [some fr, some (wd c w), some (.ob S.length), some (.int (t : Int)), x4, x5, x6] S1 = .nx [some fr, some (wd c w), some (.ob S.length), some (.int (t : Int)), y4, y5, y6] S2 ∧
        S2[S.length]? = some (.lst ((expd (pb fl) u fd).map (wd c))) ∧ But S.length S1 S2 := fun t fd u S1 x4 x5 x6 F ht hS1 => by
      have hu := List.mem_of_getElem? ht
      have ul : u.length = w.length := ((F.tr u hu).length).symm
      have lp := forR_inv (v := { items := rngD 0 (w.length - 1) 1 }) (body := bodyR (.nm 4) (evSs T bTk)) (fun q ρ S' => ∃ (y4 y5 y6 : Option D), ρ = [some fr, some (wd c w), some (.ob S.length), some (.int (t : Int)), y4, y5, y6] ∧ q ≤ w.length - 1 ∧ S'[S.length]? = some (.lst (((List.range q).foldl (exp1 (pb fl) u) fd).map (wd c))) ∧ But S.length S1 S' ∧ Fd (pb fl) w ((List.range q).foldl (exp1 (pb fl) u) fd) ∧ ((List.range q).foldl (exp1 (pb fl) u) fd)[t]? = some u)
        (rngD 0 (w.length - 1) 1) 0 [some fr, some (wd c w), some (.ob S.length), some (.int (t : Int)), x4, x5, x6] S1 ⟨x4, x5, x6, rfl, by omega, hS1, .refl, F, ht⟩ (fun _ _ _ _ => rfl) (fun q x ρ S' hx ⟨y4, y5, y6, e1, e2, e3, e4, e5, e6⟩ => by
          subst e1
          rw [Nat.zero_add] at e2 e3 e5 e6 ⊢
          have hq : q < w.length - 1 := by
            have := (List.getElem?_eq_some_iff.mp hx).1
            rw [rngD_len] at this
            exact this
          have ex := rngD_get hx
          rw [show (0 : Int) + (q : Int) * 1 = (q : Int) by omega] at ex
          subst ex
          obtain ⟨z6, et⟩ := trace_turn (T := T) (e := e) (t := t) (k := q) (f := S.length) (S := S') (u := u) (x1 := some (wd c w)) (x5 := y5) (x6 := y6) hcf h e3 e6 (by omega) (by omega) (by have := few e5; omega)
          have fs : (List.range (q + 1)).foldl (exp1 (pb fl) u) fd = exp1 (pb fl) u ((List.range q).foldl (exp1 (pb fl) u) fd) q := by rw [List.range_succ, List.foldl_append]; rfl
          obtain ⟨F', ⟨tl, et2⟩, _⟩ := e5.exp1 (List.mem_of_getElem? e6) (k := q) (by omega)
          refine ⟨_, _, .inl ((body_nm (show 4 < 7 by decide)).trans et), _, _, _, rfl, by omega, ?_, ?_, by rw [fs]; exact F', by rw [fs, et2, List.getElem?_append_left (List.getElem?_eq_some_iff.mp e6).1]; exact e6⟩
          · rw [fs]
            split
            · rename_i heq
              rw [heq]
              exact e3
            · exact set_at e3 _
          · split
            · exact e4
            · exact e4.trans ⟨List.length_set, fun j hj => List.getElem?_set_ne (Ne.symm hj)⟩)
      obtain ⟨ρ', S2, e, y4, y5, y6, rfl, _, h2, h3, _, _⟩ := lp
      rw [rngD_len, Nat.zero_add] at h2
      refine ⟨y4, y5, y6, S2, e, ?_, h3⟩
      unfold expd
      rw [ul]
      exact h2
    have lp := forR_alt (v := { items := rngD 0 5000 1 }) (body := bodyR (.nm 3) (evSs T bTo)) (fun t ρ S' => ∃ (fd : List (List Nat)) (y3 y4 y5 y6 : Option D), ρ = [some fr, some (wd c w), some (.ob S.length), y3, y4, y5, y6] ∧ t ≤ 5000 ∧ t ≤ fd.length ∧ S'[S.length]? = some (.lst (fd.map (wd c))) ∧ Fd (pb fl) w fd ∧ R = bfs (pb fl) (5000 - t) t fd ∧ S.length < S'.length ∧ ∀ q, q < S.length → S'[q]? = S[q]?)
      (fun _ d S' => d = .ob S.length ∧ S'[S.length]? = some (.lst (R.map (wd c))) ∧ S.length < S'.length ∧ ∀ q, q < S.length → S'[q]? = S[q]?)
      (rngD 0 5000 1) 0 [some fr, some (wd c w), some (.ob S.length), none, none, none, none] (S ++ [.lst [wd c w]]) ⟨[w], none, none, none, none, rfl, by omega, by omega, by simp, F0, hRR.symm, by simp, fun q hq => List.getElem?_append_left hq⟩ (fun _ _ _ _ => rfl) (fun t x ρ S' hx ⟨fd, y3, y4, y5, y6, e1, e2, e3, e4, e5, e6, e7, e8⟩ => by
        subst e1
        rw [Nat.zero_add] at e2 e3 e6 ⊢
        have ht : t < 5000 := by
          have := (List.getElem?_eq_some_iff.mp hx).1
          rw [rngD_len] at this
          exact this
        have ex := rngD_get hx
        rw [show (0 : Int) + (t : Int) * 1 = (t : Int) by omega] at ex
        subst ex
        rw [show 5000 - t = 5000 - (t + 1) + 1 by omega, bfs] at e6
        by_cases heq : t = fd.length
        · rw [if_pos heq] at e6
          refine .inr ⟨.ob S.length, S', (body_nm (show 3 < 7 by decide)).trans ?_, rfl, by rw [e6]; exact e4, e7, e8⟩
          have dq : decide ((t : Int) = ((fd.map (wd c)).length : Int)) = true := decide_eq_true (by rw [List.length_map]; omega)
          unfold bTo
          simp only [ez, e4, dq]
        · rw [if_neg heq] at e6
          have lt : t < fd.length := by omega
          obtain ⟨y4', y5', y6', S2, ei, h1, h2⟩ := inner t fd (fd.getD t []) S' y4 y5 y6 e5 (by rw [List.getD_eq_getElem?_getD, List.getElem?_eq_getElem lt]; rfl) e4
          have hm : fd.getD t [] ∈ fd := by
            rw [List.getD_eq_getElem?_getD, List.getElem?_eq_getElem lt]
            exact List.getElem_mem lt
          obtain ⟨F', ⟨tl, et⟩, _⟩ := e5.expd hm
          refine .inl ⟨[some fr, some (wd c w), some (.ob S.length), some (.int (t : Int)), y4', y5', y6'], S2, (body_nm (show 3 < 7 by decide)).trans ?_, _, _, _, _, _, rfl, by omega, by rw [et, List.length_append]; omega, h1, F', e6, by rw [h2.1]; exact e7, fun q hq => by rw [h2.2 q (by omega)]; exact e8 q hq⟩
          have dq : decide ((t : Int) = ((fd.map (wd c)).length : Int)) = false := decide_eq_false (by rw [List.length_map]; omega)
          unfold bTo
          simp only [ez, e4, dq, hlen, sm, tn, ei])
    have eρ : startE 7 [fr, wd c w] = [some fr, some (wd c w), none, none, none, none, none] := rfl
    rw [eρ]
    have s5 : small (5000 : Int) = true := by decide
    have t5 : (5000 : Int).toNat = 5000 := rfl
    rcases lp with ⟨ρ', S2, e2, fd, y3, y4, y5, y6, rfl, _, _, h4, _, h6, h7, h8⟩ | ⟨_, d, S2, e2, rfl, h4, h7, h8⟩
    · rw [rngD_len, Nat.zero_add] at h6
      refine ⟨S2, ?_, by rw [h6]; exact h4, h7, h8⟩
      unfold bTo bTk at e2
      unfold b_law_trace
      simp only [ez, s5, t5, e2]
    · refine ⟨S2, ?_, h4, h7, h8⟩
      unfold bTo bTk at e2
      unfold b_law_trace
      simp only [ez, s5, t5, e2]
  obtain ⟨S', eb, h1, h2, h3⟩ := key
  exact ⟨S', call_new f13 rfl eb (low_new (Nat.le_refl _)), h1, h2, h3⟩
end
end K53

set_option Elab.async false
set_option linter.all false
set_option maxRecDepth 100000
set_option maxHeartbeats 2000000
namespace K53
open PySem PL
open M53 (Mx Ls Tr)
/-! ### _law_some_mixes -/
abbrev Pr := List Nat × List Nat
def mxD (c : Nat → Int) (z : Pr) : D := .tup [wd c z.1, .tup (nts z.2)]
section
variable {c : Nat → Int} {rows : List (List Nat)}
theorem mxD_inj {a b : Pr} : mxD c a = mxD c b ↔ a = b := by
  constructor
  · intro h
    unfold mxD at h
    injection h with h
    injection h with h1 h
    injection h with h2 _
    obtain ⟨a1, a2⟩ := a
    obtain ⟨b1, b2⟩ := b
    have e1 : a1 = b1 := wd_inj.mp h1
    have e2 : a2 = b2 := key_inj.mp h2
    rw [e1, e2]
  · rintro rfl
    rfl
theorem mxD_dat {a : Pr} : (mxD c a).dat = true := by
  unfold mxD
  simp only [D.dat, D.dats, wd_dat, nts_dat, Bool.and_self]
theorem mxD_dep {a : Pr} : (mxD c a).dep ≤ 10 := by
  have h1 := wd_dep (c := c) (w := a.1)
  have h2 := nts_dep (l := a.2)
  unfold mxD
  simp only [D.dep, D.deps]
  omega
theorem in_mxs {l : List Pr} {r : Pr} : inD (mxD c r) (l.map (mxD c)) = some (decide (r ∈ l)) := by
  have h2 := mxD_dep (c := c) (a := r)
  rw [inD_dat mxD_dat (dats_all.mpr fun x hx => by
    obtain ⟨u, _, rfl⟩ := List.mem_map.mp hx
    exact mxD_dat) (by omega) (deps_le.mpr fun x hx => by
    obtain ⟨u, _, rfl⟩ := List.mem_map.mp hx
    have := mxD_dep (c := c) (a := u)
    omega)]
  congr 1
  rw [Bool.eq_iff_iff, decide_eq_true_eq, decide_eq_true_eq, List.mem_map]
  exact ⟨fun ⟨u, hu, e⟩ => mxD_inj.mp e ▸ hu, fun h => ⟨r, h, rfl⟩⟩
theorem f11 : pg.fns[11]? = some ⟨1, 9, b_law_some_mixes⟩ := rfl
def bMk : Ss := .cons (.ite (.cmp .Lt (.idx (.var 6) (.var 7)) (.bi .len (.cons (.idx (.var 0) (.var 7)) (.nil)))) (.cons (.asg (.nm 8) (.bin .Add (.bin .Add (.slc (.var 6) (.cst .non) (.var 7)) (.tup (.cons (.bin .Add (.idx (.var 6) (.var 7)) (.cst (.int 1))) (.nil)))) (.slc (.var 6) (.bin .Add (.var 7) (.cst (.int 1))) (.cst .non)))) <|
    .cons (.ite (.cmp .NotIn (.tup (.cons (.bin .Add (.var 5) (.tup (.cons (.idx (.idx (.var 0) (.var 7)) (.idx (.var 6) (.var 7))) (.nil)))) (.cons (.var 8) (.nil)))) (.var 4)) (.cons (.ex (.bm .append (.var 4) (.cons (.tup (.cons (.bin .Add (.var 5) (.tup (.cons (.idx (.idx (.var 0) (.var 7)) (.idx (.var 6) (.var 7))) (.nil)))) (.cons (.var 8) (.nil)))) (.nil)))) <|
    .nil) (.nil)) <|
    .nil) (.nil)) <|
    .nil
def NewP (rows : List (List Nat)) (z : Pr) (k : Nat) (y : Pr) : Prop := ∃ row p x, rows[k]? = some row ∧ z.2[k]? = some p ∧ row[p]? = some x ∧ y = (z.1 ++ [x], z.2.set k (p + 1))
theorem mix_step {T : Tab} {S : Sto} {z : Pr} {k f : Nat} {M : List Pr} {x1 x2 x3 x8 : Option D} (hR : Rws rows) (hk : k < rows.length) (hz : z.2.length = rows.length) (hw : z.1.length ≤ 1000) (hf : S[f]? = some (.lst (M.map (mxD c)))) (hM : M.length ≤ 100000) :
    ∃ (y8 : Option D) (M' : List Pr) (S' : Sto), evSs T bMk [some (rwD c rows), x1, x2, x3, some (.ob f), some (wd c z.1), some (.tup (nts z.2)), some (.int (k : Int)), x8] S = .nx [some (rwD c rows), x1, x2, x3, some (.ob f), some (wd c z.1), some (.tup (nts z.2)), some (.int (k : Int)), y8] S' ∧
      S'[f]? = some (.lst (M'.map (mxD c))) ∧ (∀ y, y ∈ M' ↔ y ∈ M ∨ NewP rows z k y) ∧ M'.length ≤ M.length + 1 ∧ But f S S' := by
  obtain ⟨row, hrow⟩ : ∃ row, rows[k]? = some row := ⟨_, List.getElem?_eq_getElem hk⟩
  obtain ⟨p, hp⟩ : ∃ p, z.2[k]? = some p := ⟨_, List.getElem?_eq_getElem (by omega)⟩
  have pg1 : idxD S (.tup (nts z.2)) (.int (k : Int)) = some (.int (p : Int)) := by
    show atI (nts z.2) _ = _
    rw [atI_n]; unfold nts; rw [List.getElem?_map, hp]; rfl
  have pg1' : atI (nts z.2) (k : Int) = some (.int (p : Int)) := pg1
  have rg : idxD S (rwD c rows) (.int (k : Int)) = some (wd c row) := by
    show atI (rows.map (wd c)) _ = _
    rw [atI_n, List.getElem?_map, hrow]; rfl
  have hlen : biD .len [wd c row] S = some (.int (row.length : Int)) := by
    show some (D.int ((row.map (it c)).length : Int)) = _
    rw [List.length_map]
  by_cases hpr : p < row.length
  · obtain ⟨x, hx⟩ : ∃ x, row[p]? = some x := ⟨_, List.getElem?_eq_getElem hpr⟩
    have lt : decide ((p : Int) < (row.length : Int)) = true := decide_eq_true (by omega)
    have hn := hR.n
    have c1 : cut (nts z.2) none (some (k : Int)) = nts (z.2.take k) := by
      rw [cut_pre (by rw [nts_len]; omega)]
      unfold nts
      rw [List.map_take]
    have c2 : cut (nts z.2) (some ((k : Int) + 1)) none = nts (z.2.drop (k + 1)) := by
      have := cut_suf (l := nts z.2) (b := k + 1) (by rw [nts_len]; omega)
      rw [show ((k + 1 : Nat) : Int) = (k : Int) + 1 by omega] at this
      rw [this]
      unfold nts
      rw [List.map_drop]
    have a1 : binD .Add (.tup (nts (z.2.take k))) (.tup [.int ((p : Int) + 1)]) = some (.tup (nts (z.2.take k) ++ [.int ((p : Int) + 1)])) := n_catT (line_le (by rw [nts_len]; simp; omega))
    have a2 : binD .Add (.tup (nts (z.2.take k) ++ [.int ((p : Int) + 1)])) (.tup (nts (z.2.drop (k + 1)))) = some (.tup (nts (z.2.set k (p + 1)))) := by
      rw [n_catT (line_le (by simp [nts_len]; omega)), set_parts hp]
    have xg : idxD S (wd c row) (.int (p : Int)) = some (it c x) := by
      show atI (row.map (it c)) _ = _
      rw [atI_n, List.getElem?_map, hx]; rfl
    have a3 : binD .Add (wd c z.1) (.tup [it c x]) = some (wd c (z.1 ++ [x])) := by
      unfold wd
      rw [n_catT (line_le (by simp; omega))]
      simp
    have inw := in_mxs (c := c) (l := M) (r := (z.1 ++ [x], z.2.set k (p + 1)))
    have mx : mxD c (z.1 ++ [x], z.2.set k (p + 1)) = .tup [wd c (z.1 ++ [x]), .tup (nts (z.2.set k (p + 1)))] := rfl
    rw [mx] at inw
    have nw : ∀ y, NewP rows z k y ↔ y = (z.1 ++ [x], z.2.set k (p + 1)) := fun y => by
      constructor
      · rintro ⟨row', p', x', h1, h2, h3, rfl⟩
        rw [hrow] at h1; cases h1
        rw [hp] at h2; cases h2
        rw [hx] at h3; cases h3
        rfl
      · rintro rfl
        exact ⟨row, p, x, hrow, hp, hx, rfl⟩
    by_cases hm : (z.1 ++ [x], z.2.set k (p + 1)) ∈ M
    · rw [decide_eq_true hm] at inw
      refine ⟨some (.tup (nts (z.2.set k (p + 1)))), M, S, ?_, hf, fun y => ⟨.inl, fun h => h.elim id fun h => by rw [(nw y).mp h]; exact hm⟩, by omega, .refl⟩
      unfold bMk
      simp only [ez, pg1', rg, hlen, lt, c1, c2, a1, a2, xg, a3, hf, inw]
    · rw [decide_eq_false hm] at inw
      refine ⟨some (.tup (nts (z.2.set k (p + 1)))), M ++ [(z.1 ++ [x], z.2.set k (p + 1))], S.set f (.lst ((M ++ [(z.1 ++ [x], z.2.set k (p + 1))]).map (mxD c))), ?_, set_at hf _, fun y => ?_, by simp, ⟨List.length_set, fun j hj => List.getElem?_set_ne (Ne.symm hj)⟩⟩
      · unfold bMk
        simp only [ez, pg1', rg, hlen, lt, c1, c2, a1, a2, xg, a3, hf, inw, List.length_map, show M.length < 10000000 by omega, List.map_append, List.map_cons, List.map_nil, mx]
      · rw [nw y, List.mem_append, List.mem_singleton]
  · have lt : decide ((p : Int) < (row.length : Int)) = false := decide_eq_false (by omega)
    have no : row[p]? = none := List.getElem?_eq_none (by omega)
    refine ⟨x8, M, S, ?_, hf, fun y => ⟨.inl, fun h => h.elim id fun ⟨row', p', x', h1, h2, h3, _⟩ => ?_⟩, by omega, .refl⟩
    · unfold bMk
      simp only [ez, pg1', rg, hlen, lt]
    · rw [hrow] at h1; cases h1
      rw [hp] at h2; cases h2
      rw [no] at h3; cases h3
def bMp : Ss := .cons (.for_ (.nm 7) (.rng1 (.bi .len (.cons (.var 0) (.nil)))) bMk) .nil
theorem mix_pair {T : Tab} {S : Sto} {z : Pr} {f : Nat} {M : List Pr} {x1 x2 x3 x7 x8 : Option D} (hR : Rws rows) (hz : z.2.length = rows.length) (hw : z.1.length ≤ 1000) (hf : S[f]? = some (.lst (M.map (mxD c)))) (hM : M.length ≤ 10000) :
    ∃ (y7 y8 : Option D) (M' : List Pr) (S' : Sto), evSs T bMp [some (rwD c rows), x1, x2, x3, some (.ob f), some (wd c z.1), some (.tup (nts z.2)), x7, x8] S = .nx [some (rwD c rows), x1, x2, x3, some (.ob f), some (wd c z.1), some (.tup (nts z.2)), y7, y8] S' ∧
      S'[f]? = some (.lst (M'.map (mxD c))) ∧ (∀ y, y ∈ M' ↔ y ∈ M ∨ ∃ k, NewP rows z k y) ∧ M'.length ≤ M.length + 3 ∧ But f S S' := by
  have hn := hR.n
  have lp := forR_inv (v := { items := rngD 0 rows.length 1 }) (body := bodyR (.nm 7) (evSs T bMk)) (fun q ρ S' => ∃ (y7 y8 : Option D) (M' : List Pr), ρ = [some (rwD c rows), x1, x2, x3, some (.ob f), some (wd c z.1), some (.tup (nts z.2)), y7, y8] ∧ q ≤ rows.length ∧ S'[f]? = some (.lst (M'.map (mxD c))) ∧ (∀ y, y ∈ M' ↔ y ∈ M ∨ ∃ k, k < q ∧ NewP rows z k y) ∧ M'.length ≤ M.length + q ∧ But f S S')
    (rngD 0 rows.length 1) 0 _ S ⟨x7, x8, M, rfl, by omega, hf, fun y => ⟨.inl, fun h => h.elim id fun ⟨k, hk, _⟩ => absurd hk (Nat.not_lt_zero _)⟩, by omega, .refl⟩ (fun _ _ _ _ => rfl) (fun q x ρ S' hx ⟨y7, y8, M', e1, e2, e3, e4, e5, e6⟩ => by
      subst e1
      rw [Nat.zero_add] at e2 e4 e5 ⊢
      have hq : q < rows.length := by
        have := (List.getElem?_eq_some_iff.mp hx).1
        rw [rngD_len] at this
        exact this
      have ex := rngD_get hx
      rw [show (0 : Int) + (q : Int) * 1 = (q : Int) by omega] at ex
      subst ex
      obtain ⟨z8, M2, S2, eb, g1, g2, g3, g4⟩ := mix_step (T := T) (c := c) (rows := rows) (S := S') (z := z) (k := q) (f := f) (M := M') (x1 := x1) (x2 := x2) (x3 := x3) (x8 := y8) hR hq hz hw e3 (by omega)
      refine ⟨_, S2, .inl ((body_nm (show 7 < 9 by decide)).trans eb), _, _, M2, rfl, by omega, g1, fun y => ?_, by omega, e6.trans g4⟩
      rw [g2 y, e4 y]
      constructor
      · rintro ((h | ⟨k, hk, h⟩) | h)
        · exact .inl h
        · exact .inr ⟨k, by omega, h⟩
        · exact .inr ⟨q, by omega, h⟩
      · rintro (h | ⟨k, hk, h⟩)
        · exact .inl (.inl h)
        · by_cases e : k = q
          · exact .inr (e ▸ h)
          · exact .inl (.inr ⟨k, by omega, h⟩))
  obtain ⟨ρ', S', e, y7, y8, M', rfl, _, h1, h2, h3, h4⟩ := lp
  rw [rngD_len, Nat.zero_add] at h2 h3
  refine ⟨y7, y8, M', S', ?_, h1, fun y => ?_, by omega, h4⟩
  · have hlen : biD .len [rwD c rows] S = some (.int (rows.length : Int)) := by
      show some (D.int ((rows.map (wd c)).length : Int)) = _
      rw [List.length_map]
    have sm : small (rows.length : Int) = true := small_of (by omega)
    unfold bMp
    simp only [ez, hlen, sm, Int.toNat_natCast, e]
  · rw [h2 y]
    constructor
    · rintro (h | ⟨k, _, h⟩)
      · exact .inl h
      · exact .inr ⟨k, h⟩
    · rintro (h | ⟨k, h⟩)
      · exact .inl h
      · exact .inr ⟨k, by
          obtain ⟨row, _, _, h1, _⟩ := h
          exact (List.getElem?_eq_some_iff.mp h1).1, h⟩
def bMt : Ss := .cons (.asg (.nm 4) (.own (.disp (.nil)))) <|
    .cons (.for_ (.tup (.cons (.nm 5) (.cons (.nm 6) (.nil)))) (.ofE (.var 1)) bMp) <|
    .cons (.asg (.nm 1) (.var 4)) <|
    .nil
/-- all pairs of a layer -/
theorem mix_turn {T : Tab} {S : Sto} {F : List Pr} {f1 : Nat} {x2 x3 x4 x5 x6 x7 x8 : Option D} (hR : Rws rows) (hF : S[f1]? = some (.lst (F.map (mxD c)))) (hz : ∀ z ∈ F, z.2.length = rows.length ∧ z.1.length ≤ 1000) (hl : F.length ≤ 1000) :
    ∃ (y4 y5 y6 y7 y8 : Option D) (M : List Pr) (S' : Sto), evSs T bMt [some (rwD c rows), some (.ob f1), x2, x3, x4, x5, x6, x7, x8] S = .nx [some (rwD c rows), some (.ob S.length), x2, x3, y4, y5, y6, y7, y8] S' ∧
      S'[S.length]? = some (.lst (M.map (mxD c))) ∧ (∀ y, y ∈ M ↔ ∃ z ∈ F, ∃ k, NewP rows z k y) ∧ M.length ≤ 3 * F.length ∧ S.length < S'.length ∧ ∀ q, q < S.length → S'[q]? = S[q]? := by
  have f1l := (List.getElem?_eq_some_iff.mp hF).1
  have hF1 : (S ++ [O.lst []])[f1]? = some (.lst (F.map (mxD c))) := app_keep hF
  have lp := forR_inv (v := { items := F.map (mxD c), watch := [(f1, F.map (mxD c))] }) (body := bodyR (.tup (.cons (.nm 5) (.cons (.nm 6) .nil))) (evSs T bMp)) (fun q ρ S' => ∃ (y5 y6 y7 y8 : Option D) (M : List Pr), ρ = [some (rwD c rows), some (.ob f1), x2, x3, some (.ob S.length), y5, y6, y7, y8] ∧ S'[S.length]? = some (.lst (M.map (mxD c))) ∧ (∀ y, y ∈ M ↔ ∃ z ∈ F.take q, ∃ k, NewP rows z k y) ∧ M.length ≤ 3 * q ∧ But S.length (S ++ [.lst []]) S')
    (F.map (mxD c)) 0 [some (rwD c rows), some (.ob f1), x2, x3, some (.ob S.length), x5, x6, x7, x8] (S ++ [.lst []]) ⟨x5, x6, x7, x8, [], rfl, by simp, fun y => by simp, by simp, .refl⟩ (fun _ _ S' ⟨_, _, _, _, _, _, _, _, _, hb⟩ => stays_at (by rw [hb.2 f1 (by omega)]; exact hF1)) (fun q x ρ S' hx ⟨y5, y6, y7, y8, M, e1, e2, e3, e4, e5⟩ => by
      subst e1
      rw [Nat.zero_add] at e3 e4 ⊢
      rw [List.getElem?_map] at hx
      obtain ⟨z, hz', rfl⟩ := Option.map_eq_some_iff.mp hx
      have ql := (List.getElem?_eq_some_iff.mp hz').1
      have zz := hz z (List.mem_of_getElem? hz')
      obtain ⟨z7, z8, M2, S2, eb, g1, g2, g3, g4⟩ := mix_pair (T := T) (c := c) (rows := rows) (S := S') (z := z) (f := S.length) (M := M) (x1 := some (.ob f1)) (x2 := x2) (x3 := x3) (x7 := y7) (x8 := y8) hR zz.1 zz.2 e2 (by omega)
      have tk : F.take (q + 1) = F.take q ++ [z] := by rw [List.take_add_one, hz']; rfl
      refine ⟨_, S2, .inl ((body_at (ρ1 := [some (rwD c rows), some (.ob f1), x2, x3, some (.ob S.length), some (wd c z.1), some (.tup (nts z.2)), y7, y8]) (by simp [mxD, asgG, asgGs])).trans eb), _, _, _, _, M2, rfl, g1, fun y => ?_, by omega, e5.trans g4⟩
      rw [g2 y, e3 y, tk]
      constructor
      · rintro (⟨z', h1, h2⟩ | h)
        · exact ⟨z', List.mem_append_left _ h1, h2⟩
        · exact ⟨z, by simp, h⟩
      · rintro ⟨z', h1, h2⟩
        rcases List.mem_append.mp h1 with h1 | h1
        · exact .inl ⟨z', h1, h2⟩
        · have : z' = z := by simpa using h1
          exact .inr (this ▸ h2))
  obtain ⟨ρ', S', e, y5, y6, y7, y8, M, rfl, h1, h2, h3, h4⟩ := lp
  rw [List.length_map, Nat.zero_add] at h2 h3
  refine ⟨some (.ob S.length), y5, y6, y7, y8, M, S', ?_, h1, fun y => by rw [h2 y, List.take_length], h3, by rw [h4.1]; simp, fun q hq => by rw [h4.2 q (by omega), List.getElem?_append_left hq]⟩
  unfold bMt
  simp only [ez, hF1, e]
/-- all mixes -/
theorem mixes_call {e : Nat} {S : Sto} (hR : Rws rows) : ∃ (ways : List (List Nat)) (f : Nat) (S' : Sto), callF pg (e + 1) 11 [rwD c rows] S = .ok (.ob f) S' ∧ S'[f]? = some (.lst (ways.map (wd c))) ∧ S.length ≤ f ∧ (∀ u, u ∈ ways ↔ ∃ pl, u.length = total rows ∧ Mx rows pl u) ∧ ways.length ≤ 729 ∧ ∀ q, q < S.length → S'[q]? = S[q]? := by
  have key : ∃ (ways : List (List Nat)) (f : Nat) (S' : Sto), evSs ⟨callF pg e, callF pg (e - 1), pg.meth, pg.init, pg.lit, pg.isx⟩ b_law_some_mixes (startE 9 [rwD c rows]) S = .ret (.ob f) S' ∧ S'[f]? = some (.lst (ways.map (wd c))) ∧ S.length ≤ f ∧ (∀ u, u ∈ ways ↔ ∃ pl, u.length = total rows ∧ Mx rows pl u) ∧ ways.length ≤ 729 ∧ ∀ q, q < S.length → S'[q]? = S[q]? := by
    generalize (⟨callF pg e, callF pg (e - 1), pg.meth, pg.init, pg.lit, pg.isx⟩ : Tab) = T
    have hn := hR.n
    have tl := total_le hR
    have p3 : ∀ q, q ≤ 6 → 3 ^ q ≤ 729 := by decide
    have hlen : biD .len [rwD c rows] S = some (.int (rows.length : Int)) := by
      show some (D.int ((rows.map (wd c)).length : Int)) = _
      rw [List.length_map]
    have inv0 : ∀ y : Pr, y ∈ [(([] : List Nat), List.replicate rows.length 0)] ↔ y.1.length = 0 ∧ Mx rows y.2 y.1 := fun y => by
      rw [List.mem_singleton]
      constructor
      · rintro rfl
        exact ⟨rfl, .start⟩
      · rintro ⟨h1, h2⟩
        obtain ⟨y1, y2⟩ := y
        cases h2 with
        | start => rfl
        | step _ _ _ _ => simp at h1
    have lp := forR_inv (v := { items := rngD 0 (total rows) 1 }) (body := bodyR (.nm 2) (evSs T bMt)) (fun t ρ S' => ∃ (F : List Pr) (f : Nat) (y2 y3 y4 y5 y6 y7 y8 : Option D), ρ = [some (rwD c rows), some (.ob f), y2, y3, y4, y5, y6, y7, y8] ∧ t ≤ total rows ∧ S'[f]? = some (.lst (F.map (mxD c))) ∧ (∀ y, y ∈ F ↔ y.1.length = t ∧ Mx rows y.2 y.1) ∧ F.length ≤ 3 ^ t ∧ S.length ≤ f ∧ S.length ≤ S'.length ∧ ∀ q, q < S.length → S'[q]? = S[q]?)
      (rngD 0 (total rows) 1) 0 [some (rwD c rows), some (.ob S.length), none, none, none, none, none, none, none] (S ++ [.lst [.tup [.tup [], .tup (nts (List.replicate rows.length 0))]]]) ⟨[([], List.replicate rows.length 0)], S.length, none, none, none, none, none, none, none, rfl, by omega, by simp [mxD, wd], inv0, by simp, by omega, by simp, fun q hq => List.getElem?_append_left hq⟩ (fun _ _ _ _ => rfl) (fun t x ρ S' hx ⟨F, f, y2, y3, y4, y5, y6, y7, y8, e1, e2, e3, e4, e5, e6, e7, e8⟩ => by
        subst e1
        rw [Nat.zero_add] at e2 e4 e5 ⊢
        have ht : t < total rows := by
          have := (List.getElem?_eq_some_iff.mp hx).1
          rw [rngD_len] at this
          exact this
        have hp := p3 t (by omega)
        obtain ⟨z4, z5, z6, z7, z8, M, S2, eb, g1, g2, g3, g4, g5⟩ := mix_turn (T := T) (c := c) (rows := rows) (S := S') (F := F) (f1 := f) (x2 := some x) (x3 := y3) (x4 := y4) (x5 := y5) (x6 := y6) (x7 := y7) (x8 := y8) hR e3 (fun z hz => by
          obtain ⟨h1, h2⟩ := (e4 z).mp hz
          exact ⟨h2.len, by omega⟩) (by omega)
        refine ⟨_, S2, .inl ((body_nm (show 2 < 9 by decide)).trans eb), M, S'.length, _, _, _, _, _, _, _, rfl, by omega, g1, fun y => ?_, by rw [Nat.pow_succ]; omega, e7, by omega, fun q hq => by rw [g5 q (by omega)]; exact e8 q hq⟩
        rw [g2 y]
        constructor
        · rintro ⟨z, hz, k, row, p, x, h1, h2, h3, rfl⟩
          obtain ⟨k1, k2⟩ := (e4 z).mp hz
          exact ⟨by simp [k1], .step k2 h1 h2 h3⟩
        · rintro ⟨h1, h2⟩
          obtain ⟨y1, y2⟩ := y
          dsimp only at h1 h2
          cases h2 with
          | start => simp at h1
          | @step pl way k p x row w2 q1 q2 q3 => exact ⟨(way, pl), (e4 _).mpr ⟨by simpa using h1, w2⟩, k, row, p, x, q1, q2, q3, rfl⟩)
    obtain ⟨ρ', S2, e2, F, f, y2, y3, y4, y5, y6, y7, y8, rfl, _, h3, h4, h5, h6, h7, h8⟩ := lp
    rw [rngD_len, Nat.zero_add] at h4 h5
    have lens := cm (T := T) (ρ := [some (rwD c rows), some (.ob S.length), none, none, none, none, none, none, none]) (S := S ++ [.lst [.tup [.tup [], .tup (nts (List.replicate rows.length 0))]]]) (v := { items := rows.map (wd c) }) (own := [3]) (elt := .bi .len (.cons (.var 3) .nil)) (i := 3) (xs := rows.map (wd c)) (f := fun d => match d with | .tup xs => .int (xs.length : Int) | _ => .non) (by simp [wipeE]) rfl (fun x hx => by
      obtain ⟨r, _, rfl⟩ := List.mem_map.mp hx
      unfold wd
      simp only [ez, wipeE]) (by rw [List.length_map]; omega)
    have lensE : (rows.map (wd c)).map (fun d => match d with | .tup xs => D.int (xs.length : Int) | _ => .non) = rows.map fun r => D.int (r.length : Int) := by
      rw [List.map_map]
      exact List.map_congr_left fun r _ => by simp [wd]
    rw [lensE] at lens
    have fin := compR_all (v := { items := F.map (mxD c), watch := [(f, F.map (mxD c))] }) (S := S2) (turn := turn1 (.tup (.cons (.nm 5) (.cons (.nm 6) .nil))) [5, 6] (evT T .nil) (evE T (.var 5)) [some (rwD c rows), some (.ob f), y2, y3, y4, y5, y6, y7, y8]) (fun d => match d with | .tup (a :: _) => [a] | _ => []) (F.map (mxD c)) [] (stays_at h3) (fun x hx => by
      obtain ⟨z, _, rfl⟩ := List.mem_map.mp hx
      unfold turn1
      simp [mxD, asgG, asgGs, wipeE]) (by
      have : ∀ l : List Pr, ((l.map (mxD c)).flatMap fun d => match d with | .tup (a :: _) => [a] | _ => []).length = l.length := fun l => by
        induction l with
        | nil => rfl
        | cons a l ih => rw [List.map_cons, List.flatMap_cons, List.length_append, ih]; simp [mxD]; omega
      rw [List.nil_append, this]
      have := p3 (total rows) tl
      omega)
    have finE : (F.map (mxD c)).flatMap (fun d => match d with | .tup (a :: _) => [a] | _ => []) = (F.map (·.1)).map (wd c) := by
      have : ∀ l : List Pr, (l.map (mxD c)).flatMap (fun d => match d with | .tup (a :: _) => [a] | _ => []) = (l.map (·.1)).map (wd c) := fun l => by
        induction l with
        | nil => rfl
        | cons a l ih => rw [List.map_cons, List.flatMap_cons, ih]; rfl
      exact this F
    rw [finE, List.nil_append] at fin
    refine ⟨F.map (·.1), S2.length, S2 ++ [.lst ((F.map (·.1)).map (wd c))], ?_, by simp, h7, fun u => ?_, by rw [List.length_map]; have := p3 (total rows) tl; omega, fun q hq => by rw [List.getElem?_append_left (by omega)]; exact h8 q hq⟩
    · have eρ : startE 9 [rwD c rows] = [some (rwD c rows), none, none, none, none, none, none, none, none] := rfl
      rw [eρ]
      have sm : small (rows.length : Int) = true := small_of (by omega)
      have st : small (total rows : Int) = true := small_of (by omega)
      have rz : (List.replicate rows.length [D.int 0]).flatten = nts (List.replicate rows.length 0) := by
        have : ∀ n, (List.replicate n [D.int 0]).flatten = nts (List.replicate n 0) := fun n => by
          induction n with
          | zero => rfl
          | succ n ih => rw [List.replicate_succ, List.flatten_cons, ih, List.replicate_succ]; rfl
        exact this _
      unfold bMt bMp bMk at e2
      unfold b_law_some_mixes
      unfold rwD at e2 hlen lens fin ⊢
      simp only [ez, hlen, sm, Int.toNat_natCast, n_rep2 sm (xs := [D.int 0]) (by simp; omega), rz, lens, lens_ints, lens_sum, st, e2]
      simp only [ez, h3, fin]
    · rw [List.mem_map]
      constructor
      · rintro ⟨z, hz, rfl⟩
        obtain ⟨h1, h2⟩ := (h4 z).mp hz
        exact ⟨z.2, h1, h2⟩
      · rintro ⟨pl, h1, h2⟩
        exact ⟨(u, pl), (h4 _).mpr ⟨h1, h2⟩, rfl⟩
  obtain ⟨ways, f, S', eb, h1, h2, h3, h4, h5⟩ := key
  exact ⟨ways, f, S', call_new f11 rfl eb (low_new h2), h1, h2, h3, h4, h5⟩
end
end K53

set_option Elab.async false
set_option linter.all false
set_option maxRecDepth 100000
set_option maxHeartbeats 2000000
namespace K53
open PySem PL
open M53 (Mx Ls Tr bfs)
theorem dws_frame {i j m : Nat} {ns : List Int} {S0 S S' : Sto} (h : Dws i j ns S0 m S) (hl : S.length ≤ S'.length) (hf : ∀ q, q < S.length → S'[q]? = S[q]?) : Dws i j ns S0 m S' := by
  obtain ⟨cc, ⟨a, b, h1, h2, h3, h4⟩, h5, h6⟩ := h
  exact ⟨cc, ⟨a, b, by rw [hf i (List.getElem?_eq_some_iff.mp h1).1]; exact h1, by rw [hf j (List.getElem?_eq_some_iff.mp h2).1]; exact h2, h3, h4⟩, h5, h6.trans ⟨hl, fun q hq _ => hf q hq⟩⟩
theorem gr_frame {i : Nat} {S S' : Sto} (hl : S.length ≤ S'.length) (hf : ∀ q, q < S.length → S'[q]? = S[q]?) : Gr i S S' := ⟨hl, fun q hq _ => hf q hq⟩
theorem Dws.lt {i j m : Nat} {ns : List Int} {S0 S : Sto} (h : Dws i j ns S0 m S) : i < S.length ∧ j < S.length := by
  obtain ⟨cc, hd, _, _⟩ := h
  exact hd.but (S' := S)
theorem Dws.put {i j m q : Nat} {ns : List Int} {S0 S : Sto} {o : O} (h : Dws i j ns S0 m S) (hi : i < S0.length) (hj : j < S0.length) (hq : S0.length ≤ q) : Dws i j ns S0 m (S.set q o) := h.set hi hj hq
section
variable {c : Nat → Int} {fr : D} {fl : Nat → Nat → Bool} {w : List Nat} {k i j b m : Nat} {ns : List Int} {S0 S : Sto}
def bIe : E := .tup (.cons (.var 2) (.cons (.call "_law_draw" 8 (.cons (.var 1) (.cons (.cst (.int 3)) (.nil)))) (.nil)))
/-- the items -/
theorem items_comp {T : Tab} {ρ : PL.Env} (hcf : T.cf = callF pg (k + 1)) (h : Dws i j ns S0 m S) (hm : m ≤ 1000000) (h1 : ρ[1]? = some (some (.ob i))) (h2 : 2 < ρ.length) :
    ∃ (c : Nat → Int) (S2 : Sto), compR (rngD 0 4 1) { items := rngD 0 4 1 } (turn1 (.nm 2) [2] (evT T .nil) (evE T bIe) ρ) [] S = .ok (its c) S2 ∧ Dws i j ns S0 (m + 4) S2 ∧ But i S S2 := by
  have lp := compR_inv (v := { items := rngD 0 4 1 }) (turn := turn1 (.nm 2) [2] (evT T .nil) (evE T bIe) ρ) (fun q acc S' => ∃ rs : List Int, rs.length = q ∧ acc = (List.range q).map (it fun a => rs.getD a 0) ∧ q ≤ 4 ∧ Dws i j ns S0 (m + q) S' ∧ But i S S')
    (rngD 0 4 1) 0 [] S ⟨[], rfl, rfl, by omega, h, .refl⟩ (fun q acc S' ⟨rs, e1, e2, e3, _⟩ => ⟨rfl, by rw [e2]; simp; omega⟩) (fun q x acc S' hx ⟨rs, e1, e2, e3, e4, e5⟩ => by
      subst e2
      rw [Nat.zero_add] at e1 e3 e4 ⊢
      have hq : q < 4 := by
        have := (List.getElem?_eq_some_iff.mp hx).1
        rw [rngD_len] at this
        exact this
      have ex := rngD_get hx
      rw [show (0 : Int) + (q : Int) * 1 = (q : Int) by omega] at ex
      subst ex
      obtain ⟨r, S2, ed, r0, r1, hd2, hbut⟩ := e4.draw (k := k) f8 (by omega) (by decide : (0 : Int) < 3) (pow_ge (by decide))
      rw [← hcf] at ed
      have g1 : ((wipeE ρ [2]).set 2 (some (.int (q : Int))))[1]? = some (some (.ob i)) := by
        rw [List.getElem?_set_ne (by omega)]
        show (ρ.set 2 none)[1]? = _
        rw [List.getElem?_set_ne (by omega)]
        exact h1
      have g2 : ((wipeE ρ [2]).set 2 (some (.int (q : Int))))[2]? = some (some (.int (q : Int))) := List.getElem?_set_self (by simpa [wipeE] using h2)
      have ee : evE T bIe ((wipeE ρ [2]).set 2 (some (.int (q : Int)))) S' = .ok (.tup [.int (q : Int), .int r]) S2 := by
        unfold bIe
        simp only [ew, g1, g2, ed]
      refine ⟨[.tup [.int (q : Int), .int r]], S2, ?_, rs ++ [r], by simp [e1], ?_, by omega, hd2, e5.trans hbut⟩
      · rw [turn1_at (by simpa [wipeE] using h2) rfl, ev_t0, R.bind_ok, if_pos rfl, ee]
        rfl
      · rw [List.range_succ, List.map_append]
        congr 1
        · refine List.map_congr_left fun a ha => ?_
          have := List.mem_range.mp ha
          unfold it
          simp [List.getElem?_append_left (show a < rs.length by omega)]
        · unfold it
          simp [← e1])
  obtain ⟨acc, S2, e, rs, h1, rfl, _, h4, h5⟩ := lp
  rw [rngD_len, Nat.zero_add] at h4 e
  exact ⟨fun a => rs.getD a 0, S2, e, h4, h5⟩
def bOne : E := .call "_law_one_of" 10 (.cons (.var 1) (.cons (.var 3) (.nil)))
/-- some letters -/
theorem word_comp {T : Tab} {ρ : PL.Env} {o n : Nat} (hcf : T.cf = callF pg (k + 2)) (h : Dws i j ns S0 m S) (hm : m ≤ 900000) (hn : n ≤ 10) (hb : S[b]? = some (.lst (its c))) (hbi : b ≠ i) (h1 : ρ[1]? = some (some (.ob i))) (h3 : ρ[3]? = some (some (.ob b))) (ho : o ≠ 1 ∧ o ≠ 3) (hol : o < ρ.length) :
    ∃ (w : List Nat) (S2 : Sto), compR (rngD 0 n 1) { items := rngD 0 n 1 } (turn1 (.nm o) [o] (evT T .nil) (evE T bOne) ρ) [] S = .ok (w.map (it c)) S2 ∧ w.length = n ∧ (∀ a ∈ w, a < 4) ∧ Dws i j ns S0 (m + n) S2 ∧ But i S S2 := by
  have lp := compR_inv (v := { items := rngD 0 n 1 }) (turn := turn1 (.nm o) [o] (evT T .nil) (evE T bOne) ρ) (fun q acc S' => ∃ w : List Nat, w.length = q ∧ acc = w.map (it c) ∧ q ≤ n ∧ (∀ a ∈ w, a < 4) ∧ Dws i j ns S0 (m + q) S' ∧ But i S S')
    (rngD 0 n 1) 0 [] S ⟨[], rfl, rfl, by omega, fun a ha => (nomatch ha), h, .refl⟩ (fun q acc S' ⟨w, e1, e2, e3, _⟩ => ⟨rfl, by rw [e2]; simp; omega⟩) (fun q x acc S' hx ⟨w, e1, e2, e3, e4, e5, e6⟩ => by
      subst e2
      rw [Nat.zero_add] at e1 e3 e5 ⊢
      have hq : q < n := by
        have := (List.getElem?_eq_some_iff.mp hx).1
        rw [rngD_len] at this
        exact this
      obtain ⟨a, S2, ed, a4, hd2, hbut⟩ := one_call (k := k) e5 (by omega) (by rw [e6.2 b hbi]; exact hb) hbi
      rw [← hcf] at ed
      have g1 : ((wipeE ρ [o]).set o (some x))[1]? = some (some (.ob i)) := by
        rw [List.getElem?_set_ne ho.1]
        show (ρ.set o none)[1]? = _
        rw [List.getElem?_set_ne ho.1]
        exact h1
      have g3 : ((wipeE ρ [o]).set o (some x))[3]? = some (some (.ob b)) := by
        rw [List.getElem?_set_ne ho.2]
        show (ρ.set o none)[3]? = _
        rw [List.getElem?_set_ne ho.2]
        exact h3
      have ee : evE T bOne ((wipeE ρ [o]).set o (some x)) S' = .ok (it c a) S2 := by
        unfold bOne
        simp only [ew, g1, g3, ed]
      refine ⟨[it c a], S2, ?_, w ++ [a], by simp [e1], by simp, by omega, fun z hz => ?_, hd2, e6.trans hbut⟩
      · rw [turn1_at (by simpa [wipeE] using hol) rfl, ev_t0, R.bind_ok, if_pos rfl, ee]
        rfl
      · rcases List.mem_append.mp hz with hz | hz
        · exact e4 z hz
        · rw [show z = a by simpa using hz]; exact a4)
  obtain ⟨acc, S2, e, w, h1, rfl, _, h3, h4, h5⟩ := lp
  rw [rngD_len, Nat.zero_add] at h1 h4
  exact ⟨w, S2, e, h1, h3, h4, h5⟩
/-! ### the least rows that are due -/
def bD : Ss := .cons (.ite (.cmp .NotIn (.var 9) (.var 8)) (.cons (.asg (.nm 10) (.call "_law_trace" 13 (.cons (.var 4) (.cons (.var 9) (.nil))))) <|
    .cons (.asg (.nm 8) (.own (.catEE (.var 8) (.var 10)))) <|
    .cons (.ex (.bm .append (.var 7) (.cons (.bi .min1 (.cons (.var 10) (.nil))) (.nil)))) <|
    .nil) (.nil)) .nil
theorem min_bfs {R : List (List Nat)} (hne : R ≠ []) : ∃ r, minPy (R.map (wd c)) = some (wd c r) ∧ r ∈ R ∧ ∀ v ∈ R, ¬ M53.llt (· < ·) v r := by
  cases R with
  | nil => exact absurd rfl hne
  | cons a R =>
    have hc : Cmp ((a :: R).map (wd c)) := cmp_wds
    rw [List.map_cons] at hc ⊢
    have hd : ∀ y ∈ wd c a :: R.map (wd c), y.dep ≤ 16 := fun y hy => by
      rw [← List.map_cons] at hy
      obtain ⟨u, _, rfl⟩ := List.mem_map.mp hy
      have := wd_dep (c := c) (w := u)
      omega
    obtain ⟨h1, h2⟩ := minL_ok _ _ hc
    rw [min1_dat hc hd]
    rw [← List.map_cons] at h1
    obtain ⟨r, hr, e⟩ := List.mem_map.mp h1
    refine ⟨r, by rw [e], hr, fun v hv z => ?_⟩
    have := h2 (wd c v) (by rw [← List.map_cons]; exact List.mem_map.mpr ⟨v, hv, rfl⟩)
    rw [← e, dlt_wd.mpr z] at this
    cases this
theorem due_loop {T : Tab} {e : Nat} {ways : List (List Nat)} {f kf df : Nat} {x0 x1 x2 x3 x5 x6 x9 x10 x11 x12 x13 x14 : Option D} (hcf : T.cf = callF pg (e + 2)) (h : Fre c fr fl) (hl : ∀ u ∈ ways, u.length ≤ 6 ∧ ∀ a ∈ u, a < 4) (hw : ways.length ≤ 729) (hf : S[f]? = some (.lst (ways.map (wd c)))) (hk : S[kf]? = some (.lst [])) (hd : S[df]? = some (.lst [])) (n1 : f ≠ df) (n2 : kf ≠ df) :
    ∃ (ds : List (List Nat)) (y8 y9 y10 : Option D) (S' : Sto), forR (ways.map (wd c)) { items := ways.map (wd c), watch := [(f, ways.map (wd c))] } (bodyR (.nm 9) (evSs T bD)) [x0, x1, x2, x3, some fr, x5, x6, some (.ob df), some (.ob kf), x9, x10, x11, x12, x13, x14] S = .nx [x0, x1, x2, x3, some fr, x5, x6, some (.ob df), y8, y9, y10, x11, x12, x13, x14] S' ∧
      S'[df]? = some (.lst (ds.map (wd c))) ∧ ds.Nodup ∧ (∀ r, r ∈ ds ↔ ∃ u ∈ ways, Ls (pb fl) u r) ∧ ds.length ≤ 729 ∧ S.length ≤ S'.length ∧ ∀ q, q < S.length → q ≠ df → S'[q]? = S[q]? := by
  have hs := pb_sym fl
  have fl' := (List.getElem?_eq_some_iff.mp hf).1
  have dl' := (List.getElem?_eq_some_iff.mp hd).1
  have kl' := (List.getElem?_eq_some_iff.mp hk).1
  have lp := forR_inv (v := { items := ways.map (wd c), watch := [(f, ways.map (wd c))] }) (body := bodyR (.nm 9) (evSs T bD)) (fun q ρ S' => ∃ (kn ds : List (List Nat)) (kf : Nat) (y9 y10 : Option D), ρ = [x0, x1, x2, x3, some fr, x5, x6, some (.ob df), some (.ob kf), y9, y10, x11, x12, x13, x14] ∧ S'[kf]? = some (.lst (kn.map (wd c))) ∧ S'[df]? = some (.lst (ds.map (wd c))) ∧ kf ≠ df ∧ (∀ v, v ∈ kn ↔ ∃ u ∈ ways.take q, Tr (M53.IB (pb fl)) u v) ∧ ds.Nodup ∧ (∀ r, r ∈ ds ↔ ∃ u ∈ ways.take q, Ls (pb fl) u r) ∧ kn.length ≤ q * 4096 ∧ ds.length ≤ q ∧ S.length ≤ S'.length ∧ ∀ q, q < S.length → q ≠ df → S'[q]? = S[q]?)
    (ways.map (wd c)) 0 _ S ⟨[], [], kf, x9, x10, rfl, hk, hd, n2, fun v => by simp, by simp, fun r => by simp, by simp, by simp, Nat.le_refl _, fun _ _ _ => rfl⟩ (fun _ _ S' ⟨_, _, _, _, _, _, _, _, _, _, _, _, _, _, _, hS⟩ => stays_at (by rw [hS f fl' n1]; exact hf)) (fun q x ρ S' hx ⟨kn, ds, kf, y9, y10, e1, e2, e3, e4, e5, e6, e7, e8, e9, e10, e11⟩ => by
      subst e1
      rw [Nat.zero_add] at e5 e7 e8 e9 ⊢
      rw [List.getElem?_map] at hx
      obtain ⟨u, hu, rfl⟩ := Option.map_eq_some_iff.mp hx
      have ql := (List.getElem?_eq_some_iff.mp hu).1
      obtain ⟨ul, u4⟩ := hl u (List.mem_of_getElem? hu)
      have tk : ways.take (q + 1) = ways.take q ++ [u] := by rw [List.take_add_one, hu]; rfl
      have inw := in_wds (c := c) (l := kn) (r := u)
      by_cases hm : u ∈ kn
      · obtain ⟨u0, h1, h2⟩ := (e5 u).mp hm
        refine ⟨_, S', .inl ((body_nm (show 9 < 15 by decide)).trans (?_ : _ = F.nx [x0, x1, x2, x3, some fr, x5, x6, some (.ob df), some (.ob kf), some (wd c u), y10, x11, x12, x13, x14] S')), kn, ds, kf, _, _, rfl, e2, e3, e4, fun v => ?_, e6, fun r => ?_, by omega, by omega, e10, e11⟩
        · rw [decide_eq_true hm] at inw
          unfold bD
          simp only [ez, e2, inw]
        · rw [e5 v, tk]
          constructor
          · rintro ⟨u', g1, g2⟩
            exact ⟨u', List.mem_append_left _ g1, g2⟩
          · rintro ⟨u', g1, g2⟩
            rcases List.mem_append.mp g1 with g1 | g1
            · exact ⟨u', g1, g2⟩
            · rw [show u' = u by simpa using g1] at g2
              exact ⟨u0, h1, h2.trans g2⟩
        · rw [e7 r, tk]
          constructor
          · rintro ⟨u', g1, g2⟩
            exact ⟨u', List.mem_append_left _ g1, g2⟩
          · rintro ⟨u', g1, g2⟩
            rcases List.mem_append.mp g1 with g1 | g1
            · exact ⟨u', g1, g2⟩
            · rw [show u' = u by simpa using g1] at g2
              exact ⟨u0, h1, h2.trans g2.1, fun v hv => g2.2 v ((h2.symm hs).trans hv)⟩
      · obtain ⟨S2, et, k1, k2, k3⟩ := trace_call (e := e) (S := S') (w := u) h u4 ul
        rw [← hcf] at et
        obtain ⟨Fb, hall⟩ := M53.bfs_all (pb := pb fl) u4 ul
        generalize bfs (pb fl) 5000 0 [u] = R at k1 Fb hall
        have Rl : R.length ≤ 4096 := Nat.le_trans (Fb.few u4) (by have : 4 ^ u.length ≤ 4 ^ 6 := Nat.pow_le_pow_right (by omega) ul; simpa using this)
        have Rne : R ≠ [] := fun z => by have := Fb.at0; rw [z] at this; cases this
        obtain ⟨r, hmin, hr, hrl⟩ := min_bfs (c := c) Rne
        have lsr : Ls (pb fl) u r := ⟨(hall r).mpr hr, fun v hv => hrl v ((hall v).mp hv)⟩
        have kfl := (List.getElem?_eq_some_iff.mp e2).1
        have dfl := (List.getElem?_eq_some_iff.mp e3).1
        have g2 : S2[kf]? = some (.lst (kn.map (wd c))) := by rw [k3 kf kfl]; exact e2
        have g3 : S2[df]? = some (.lst (ds.map (wd c))) := by rw [k3 df dfl]; exact e3
        have g1' : (S2 ++ [O.lst (kn.map (wd c) ++ R.map (wd c))])[S'.length]? = some (.lst (R.map (wd c))) := app_keep k1
        have g3' : (S2 ++ [O.lst (kn.map (wd c) ++ R.map (wd c))])[df]? = some (.lst (ds.map (wd c))) := app_keep g3
        have rn : r ∉ ds := fun z => by
          obtain ⟨u', g1, g2⟩ := (e7 r).mp z
          exact hm ((e5 u).mpr ⟨u', g1, g2.1.trans (lsr.1.symm hs)⟩)
        have q4 : q * 4096 ≤ 729 * 4096 := Nat.mul_le_mul_right _ (by omega)
        refine ⟨_, (S2 ++ [O.lst (kn.map (wd c) ++ R.map (wd c))]).set df (.lst ((ds ++ [r]).map (wd c))), .inl ((body_nm (show 9 < 15 by decide)).trans (?_ : _ = F.nx [x0, x1, x2, x3, some fr, x5, x6, some (.ob df), some (.ob S2.length), some (wd c u), some (.ob S'.length), x11, x12, x13, x14] _)), kn ++ R, ds ++ [r], S2.length, _, _, rfl, ?_, set_at g3' _, by omega, fun v => ?_, ?_, fun r' => ?_, by rw [List.length_append, Nat.succ_mul]; omega, by simp; omega, by simp; omega, fun p hp hn => ?_⟩
        · rw [decide_eq_false hm] at inw
          unfold bD
          simp only [ez, e2, inw, et, g2, k1, List.length_map, show kn.length + R.length ≤ 10000000 by omega, g3', g1', hmin, show ds.length < 10000000 by omega, List.map_append, List.map_cons, List.map_nil]
        · rw [List.getElem?_set_ne (by omega)]
          simp
        · rw [List.mem_append, e5 v, tk, ← hall v]
          constructor
          · rintro (⟨u', g1, g2⟩ | g)
            · exact ⟨u', List.mem_append_left _ g1, g2⟩
            · exact ⟨u, by simp, g⟩
          · rintro ⟨u', g1, g2⟩
            rcases List.mem_append.mp g1 with g1 | g1
            · exact .inl ⟨u', g1, g2⟩
            · rw [show u' = u by simpa using g1] at g2
              exact .inr g2
        · rw [List.nodup_append]
          refine ⟨e6, by simp, fun a ha b hb => ?_⟩
          rw [show b = r by simpa using hb]
          exact fun z => rn (z ▸ ha)
        · rw [List.mem_append, e7 r', tk]
          constructor
          · rintro (⟨u', g1, g2⟩ | g)
            · exact ⟨u', List.mem_append_left _ g1, g2⟩
            · rw [show r' = r by simpa using g]
              exact ⟨u, by simp, lsr⟩
          · rintro ⟨u', g1, g2⟩
            rcases List.mem_append.mp g1 with g1 | g1
            · exact .inl ⟨u', g1, g2⟩
            · rw [show u' = u by simpa using g1] at g2
              rw [M53.ls_uniq hs g2 lsr (.refl _)]
              exact .inr (by simp)
        · rw [List.getElem?_set_ne (Ne.symm hn), List.getElem?_append_left (by omega), k3 p (by omega)]
          exact e11 p hp hn)
  obtain ⟨ρ', S', e1, kn, ds, kf', y9, y10, rfl, _, h2, _, _, h4, h5, _, h6, h7, h8⟩ := lp
  rw [List.length_map, Nat.zero_add] at h5 h6
  exact ⟨ds, some (.ob kf'), y9, y10, S', e1, h2, h4, fun r => by rw [h5 r, List.take_length], by omega, h7, h8⟩
end
end K53

set_option Elab.async false
set_option linter.all false
set_option maxRecDepth 100000
set_option maxHeartbeats 4000000
namespace K53
open PySem PL
open M53 (Mx Ls Tr bfs)
section
variable {c : Nat → Int} {fr : D} {fl : Nat → Nat → Bool} {w : List Nat} {k i j b m : Nat} {ns : List Int} {S0 S : Sto}
theorem mx_letters {rows : List (List Nat)} (hR : Rws rows) {pl way : List Nat} (h : Mx rows pl way) : ∀ a ∈ way, a < 4 := by
  induction h with
  | start => exact fun a ha => nomatch ha
  | @step pl way k p x row _ h1 _ h3 ih =>
    intro a ha
    rcases List.mem_append.mp ha with ha | ha
    · exact ih a ha
    · rw [show a = x by simpa using ha]
      exact (hR.row row (List.mem_of_getElem? h1)).2 x (List.mem_of_getElem? h3)
def bRw : Ss := .cons (.ex (.bm .append (.var 5) (.cons (.tupL (.comp [6] bOne (.nm 6) (.rng1 (.call "_law_draw" 8 (.cons (.var 1) (.cons (.cst (.int 3)) (.nil))))) (.nil))) (.nil)))) .nil
theorem rows_build {T : Tab} {n rf : Nat} {x0 x2 x4 x6 x7 x8 x9 x10 x11 x12 x13 x14 : Option D} (hcf : T.cf = callF pg (k + 2)) (h : Dws i j ns S0 m S) (hi : i < S0.length) (hj : j < S0.length) (hm : m ≤ 100000) (hn : n ≤ 3) (hb : S[b]? = some (.lst (its c))) (hbi : b ≠ i) (hr : S[rf]? = some (.lst [])) (hrf : S0.length ≤ rf) (hbr : b ≠ rf) :
    ∃ (rows : List (List Nat)) (y2 : Option D) (S' : Sto), forR (rngD 0 n 1) { items := rngD 0 n 1 } (bodyR (.nm 2) (evSs T bRw)) [x0, some (.ob i), x2, some (.ob b), x4, some (.ob rf), x6, x7, x8, x9, x10, x11, x12, x13, x14] S = .nx [x0, some (.ob i), y2, some (.ob b), x4, some (.ob rf), x6, x7, x8, x9, x10, x11, x12, x13, x14] S' ∧
      Rws rows ∧ S'[rf]? = some (.lst (rows.map (wd c))) ∧ Dws i j ns S0 (m + 12) S' ∧ S.length ≤ S'.length ∧ ∀ q, q < S.length → q ≠ i → q ≠ rf → S'[q]? = S[q]? := by
  have ri : rf ≠ i := by omega
  have lp := forR_inv (v := { items := rngD 0 n 1 }) (body := bodyR (.nm 2) (evSs T bRw)) (fun q ρ S' => ∃ (rows : List (List Nat)) (y2 : Option D), ρ = [x0, some (.ob i), y2, some (.ob b), x4, some (.ob rf), x6, x7, x8, x9, x10, x11, x12, x13, x14] ∧ rows.length = q ∧ q ≤ n ∧ (∀ r ∈ rows, r.length ≤ 2 ∧ ∀ a ∈ r, a < 4) ∧ S'[rf]? = some (.lst (rows.map (wd c))) ∧ Dws i j ns S0 (m + 3 * q) S' ∧ S.length ≤ S'.length ∧ ∀ q, q < S.length → q ≠ i → q ≠ rf → S'[q]? = S[q]?)
    (rngD 0 n 1) 0 _ S ⟨[], x2, rfl, rfl, by omega, fun r hr => (nomatch hr), hr, h, Nat.le_refl _, fun _ _ _ _ => rfl⟩ (fun _ _ _ _ => rfl) (fun q x ρ S' hx ⟨rows, y2, e1, e2, e3, e4, e5, e6, e7, e8⟩ => by
      subst e1
      rw [Nat.zero_add] at e2 e3 e6 ⊢
      have hq : q < n := by
        have := (List.getElem?_eq_some_iff.mp hx).1
        rw [rngD_len] at this
        exact this
      have bl := (List.getElem?_eq_some_iff.mp hb).1
      have hb' : S'[b]? = some (.lst (its c)) := by rw [e8 b bl hbi hbr]; exact hb
      obtain ⟨r, S2, ed, r0, r1, hd2, hb2⟩ := e6.draw (k := k + 1) f8 (by omega) (by decide : (0 : Int) < 3) (pow_ge (by decide))
      rw [show k + 1 + 1 = k + 2 by omega, ← hcf] at ed
      obtain ⟨w, S3, ew', w1, w2, hd3, hb3⟩ := word_comp (T := T) (o := 6) (n := r.toNat) (ρ := [x0, some (.ob i), some x, some (.ob b), x4, some (.ob rf), x6, x7, x8, x9, x10, x11, x12, x13, x14]) hcf hd2 (by omega) (by omega) (by rw [hb2.2 b hbi]; exact hb') hbi rfl rfl ⟨by decide, by decide⟩ (by simp)
      have sm : small r = true := small_of (by omega)
      have rf3 : S3[rf]? = some (.lst (rows.map (wd c))) := by rw [hb3.2 rf ri, hb2.2 rf ri]; exact e5
      have rf' : S'[rf]? = some (.lst (rows.map (wd c))) := e5
      refine ⟨[x0, some (.ob i), some x, some (.ob b), x4, some (.ob rf), x6, x7, x8, x9, x10, x11, x12, x13, x14], S3.set rf (.lst ((rows ++ [w]).map (wd c))), .inl ((body_nm (show 2 < 15 by decide)).trans ?_), rows ++ [w], _, rfl, by simp [e2], by omega, fun z hz => ?_, set_at rf3 _, (Dws.put (Dws.mono (m' := m + 3 * (q + 1)) hd3 (by omega)) hi hj hrf), by rw [List.length_set, hb3.1, hb2.1]; exact e7, fun p h1 h2 h3 => by rw [List.getElem?_set_ne (Ne.symm h3), hb3.2 p h2, hb2.2 p h2]; exact e8 p h1 h2 h3⟩
      · have ww : D.tup (w.map (it c)) = wd c w := rfl
        unfold bRw
        simp only [ez, rf', ed, sm, ew', rf3, ww, List.length_map, show rows.length < 10000000 by omega, List.map_append, List.map_cons, List.map_nil]
      · rcases List.mem_append.mp hz with hz | hz
        · exact e4 z hz
        · rw [show z = w by simpa using hz]
          exact ⟨by omega, w2⟩)
  obtain ⟨ρ', S', e, rows, y2, rfl, h1, h2, h3, h4, h5, h6, h7⟩ := lp
  rw [rngD_len, Nat.zero_add] at h1 h5
  exact ⟨rows, y2, S', e, ⟨by omega, h3⟩, h4, h5.mono (by omega), h6, h7⟩
/-! ### the size of the window, by the law -/
def bSj : Ss := .cons (.ite (.bop true (.cons (.cmp .NotEq (.idx (.var 12) (.var 14)) (.idx (.var 12) (.var 6))) (.cons (.not (.call "_law_passes" 12 (.cons (.var 4) (.cons (.idx (.var 12) (.var 14)) (.cons (.idx (.var 12) (.var 6)) (.nil)))))) (.nil)))) (.cons (.asg (.nm 13) (.bi .min2 (.cons (.var 13) (.cons (.bin .Sub (.bin .Sub (.var 6) (.var 14)) (.cst (.int 1))) (.nil))))) <|
    .nil) (.nil)) <|
    .nil
def bSi : Ss := .cons (.for_ (.nm 6) (.rng2 (.bin .Add (.var 14) (.cst (.int 1))) (.bi .len (.cons (.var 12) (.nil)))) bSj) .nil
theorem size_turn {T : Tab} {p q v : Nat} {x0 x1 x2 x3 x5 x7 x8 x9 x10 x11 : Option D} (hcf : T.cf = callF pg (k + 1)) (h : Fre c fr fl) (hpq : p < q) (hq : q < w.length) :
    evSs T bSj [x0, x1, x2, x3, some fr, x5, some (.int (q : Int)), x7, x8, x9, x10, x11, some (wd c w), some (.int (v : Int)), some (.int (p : Int))] S = .nx [x0, x1, x2, x3, some fr, x5, some (.int (q : Int)), x7, x8, x9, x10, x11, some (wd c w), some (.int ((if bad fl w p q = true then min v (q - p - 1) else v : Nat) : Int)), some (.int (p : Int))] S := by
  have g1 : idxD S (wd c w) (.int (p : Int)) = some (it c (w.getD p 0)) := by
    show atI (w.map (it c)) _ = _
    rw [atI_n]
    exact wd_get (by omega)
  have g2 : idxD S (wd c w) (.int (q : Int)) = some (it c (w.getD q 0)) := by
    show atI (w.map (it c)) _ = _
    rw [atI_n]
    exact wd_get hq
  have mm := passes_call (k := k) (S := S) (a := w.getD p 0) (b := w.getD q 0) h
  rw [← hcf] at mm
  have hmin : (if (q : Int) - (p : Int) - 1 < (v : Int) then (q : Int) - (p : Int) - 1 else (v : Int)) = ((min v (q - p - 1) : Nat) : Int) := by
    by_cases hh : (q : Int) - (p : Int) - 1 < (v : Int)
    · rw [if_pos hh, Nat.min_eq_right (by omega)]
      omega
    · rw [if_neg hh, Nat.min_eq_left (by omega)]
  unfold bSj
  by_cases e : w.getD p 0 = w.getD q 0
  · have hb : bad fl w p q = false := by unfold bad; rw [decide_eq_false (fun z => z e), Bool.false_and]
    simp only [ez, g1, g2, eqD_it, decide_eq_true e, hb]
  · cases z : pb fl (w.getD p 0) (w.getD q 0) with
    | true =>
      have hb : bad fl w p q = false := by unfold bad; rw [z, Bool.not_true, Bool.and_false]
      simp only [ez, g1, g2, eqD_it, decide_eq_false e, mm, z, hb]
    | false =>
      have hb : bad fl w p q = true := by unfold bad; rw [z, decide_eq_true e]; rfl
      simp only [ez, g1, g2, eqD_it, decide_eq_false e, mm, z, hb, hmin]
theorem size_row {T : Tab} {p v : Nat} {x0 x1 x2 x3 x5 x6 x7 x8 x9 x10 x11 : Option D} (hcf : T.cf = callF pg (k + 1)) (h : Fre c fr fl) (hp : p < w.length) (hw : w.length ≤ 1000) :
    ∃ (v' : Nat) (y6 : Option D), evSs T bSi [x0, x1, x2, x3, some fr, x5, x6, x7, x8, x9, x10, x11, some (wd c w), some (.int (v : Int)), some (.int (p : Int))] S = .nx [x0, x1, x2, x3, some fr, x5, y6, x7, x8, x9, x10, x11, some (wd c w), some (.int (v' : Int)), some (.int (p : Int))] S ∧
      v' ≤ v ∧ (∀ q, p < q → q < w.length → bad fl w p q = true → v' ≤ q - p - 1) ∧ (v' = v ∨ ∃ q, p < q ∧ q < w.length ∧ bad fl w p q = true ∧ v' = q - p - 1) := by
  have tn : ((w.length : Int) - ((p : Int) + 1)).toNat = w.length - (p + 1) := by omega
  have lp := forR_inv (v := { items := rngD ((p : Int) + 1) (w.length - (p + 1)) 1 }) (body := bodyR (.nm 6) (evSs T bSj)) (fun t ρ S' => S' = S ∧ ∃ (v' : Nat) (y6 : Option D), ρ = [x0, x1, x2, x3, some fr, x5, y6, x7, x8, x9, x10, x11, some (wd c w), some (.int (v' : Int)), some (.int (p : Int))] ∧ v' ≤ v ∧ (∀ q, p < q → q < p + 1 + t → bad fl w p q = true → v' ≤ q - p - 1) ∧ (v' = v ∨ ∃ q, p < q ∧ q < w.length ∧ bad fl w p q = true ∧ v' = q - p - 1))
    (rngD ((p : Int) + 1) (w.length - (p + 1)) 1) 0 _ S ⟨rfl, v, x6, rfl, Nat.le_refl _, fun q h1 h2 => by omega, .inl rfl⟩ (fun _ _ _ _ => rfl) (fun t x ρ S' hx ⟨e0, v', y6, e1, e2, e3, e4⟩ => by
      subst e0 e1
      rw [Nat.zero_add] at e3 ⊢
      have ht : t < w.length - (p + 1) := by
        have := (List.getElem?_eq_some_iff.mp hx).1
        rw [rngD_len] at this
        exact this
      have ex := rngD_get hx
      rw [show (p : Int) + 1 + (t : Int) * 1 = ((p + 1 + t : Nat) : Int) by omega] at ex
      subst ex
      have st := size_turn (T := T) (w := w) (S := S') (p := p) (q := p + 1 + t) (v := v') (x0 := x0) (x1 := x1) (x2 := x2) (x3 := x3) (x5 := x5) (x7 := x7) (x8 := x8) (x9 := x9) (x10 := x10) (x11 := x11) hcf h (by clear e4; omega) (by clear e4; omega)
      refine ⟨_, S', .inl ((body_nm (show 6 < 15 by decide)).trans st), rfl, _, _, rfl, ?_, fun q h1 h2 h3 => ?_, ?_⟩
      · split
        · exact Nat.le_trans (Nat.min_le_left _ _) e2
        · exact e2
      · by_cases e : q = p + 1 + t
        · rw [e] at h3
          rw [if_pos h3, e]
          exact Nat.min_le_right _ _
        · have := e3 q h1 (by clear e4; omega) h3
          split
          · exact Nat.le_trans (Nat.min_le_left _ _) this
          · exact this
      · split
        · rename_i hb
          by_cases hh : v' ≤ p + 1 + t - p - 1
          · rw [Nat.min_eq_left hh]
            exact e4
          · rw [Nat.min_eq_right (by clear e4; omega)]
            exact .inr ⟨p + 1 + t, by clear e4; omega, by clear e4; omega, hb, rfl⟩
        · exact e4)
  obtain ⟨ρ', S', e, rfl, v', y6, rfl, h1, h2, h3⟩ := lp
  rw [rngD_len] at h2
  refine ⟨v', y6, ?_, h1, fun q h4 h5 => h2 q h4 (by clear h3; omega), h3⟩
  have hlen : biD .len [wd c w] S' = some (.int (w.length : Int)) := by
    show some (D.int ((w.map (it c)).length : Int)) = _
    rw [List.length_map]
  have s1 : small ((p : Int) + 1) = true := small_of (by omega)
  have s2 : small (w.length : Int) = true := small_of (by omega)
  unfold bSi
  simp only [ez, hlen, s1, s2, tn, e]
def bWn : Ss := .cons (.asg (.nm 12) (.tupL (.comp [2] bOne (.nm 2) (.rng1 (.call "_law_draw" 8 (.cons (.var 1) (.cons (.cst (.int 7)) (.nil))))) (.nil)))) <|
    .cons (.asg (.nm 13) (.bi .len (.cons (.var 12) (.nil)))) <|
    .cons (.for_ (.nm 14) (.rng1 (.bi .len (.cons (.var 12) (.nil)))) bSi) <|
    .cons (.ite (.not (.call "_law_same" 15 (.cons (.call "window" 6 (.cons (.var 4) (.cons (.var 12) (.nil)))) (.cons (.var 13) (.nil))))) (.cons (.ret (.cst (.bl false))) <|
    .nil) (.nil)) <|
    .nil
theorem f15 : pg.fns[15]? = some ⟨2, 3, bSame 15 14⟩ := rfl
theorem f14 : pg.fns[14]? = some ⟨1, 1, bIsInt⟩ := rfl
theorem win_round {T : Tab} {x0 x2 x5 x6 x7 x8 x9 x10 x11 x12 x13 x14 : Option D} (hcf : T.cf = callF pg (k + 10)) (h : Fre c fr fl) (hd : Dws i j ns S0 m S) (hm : m ≤ 100000) (hb : S[b]? = some (.lst (its c))) (hbi : b ≠ i) :
    ∃ (y2 y6 y12 y13 y14 : Option D) (S' : Sto), evSs T bWn [x0, some (.ob i), x2, some (.ob b), some fr, x5, x6, x7, x8, x9, x10, x11, x12, x13, x14] S = .nx [x0, some (.ob i), y2, some (.ob b), some fr, x5, y6, x7, x8, x9, x10, x11, y12, y13, y14] S' ∧ Dws i j ns S0 (m + 10) S' ∧ But i S S' := by
  obtain ⟨r, S2, ed, r0, r1, hd2, hb2⟩ := hd.draw (k := k + 9) f8 (by omega) (by decide : (0 : Int) < 7) (pow_ge (by decide))
  rw [show k + 9 + 1 = k + 10 by omega, ← hcf] at ed
  obtain ⟨w, S3, ew', w1, w2, hd3, hb3⟩ := word_comp (T := T) (k := k + 8) (o := 2) (n := r.toNat) (ρ := [x0, some (.ob i), x2, some (.ob b), some fr, x5, x6, x7, x8, x9, x10, x11, x12, x13, x14]) (by rw [hcf]) hd2 (by omega) (by omega) (by rw [hb2.2 b hbi]; exact hb) hbi rfl rfl ⟨by decide, by decide⟩ (by simp)
  have sm : small r = true := small_of (by omega)
  have wl : w.length ≤ 1000 := by omega
  have lp := forR_inv (v := { items := rngD 0 w.length 1 }) (body := bodyR (.nm 14) (evSs T bSi)) (fun t ρ S' => S' = S3 ∧ ∃ (v' : Nat) (y6 y14 : Option D), ρ = [x0, some (.ob i), x2, some (.ob b), some fr, x5, y6, x7, x8, x9, x10, x11, some (wd c w), some (.int (v' : Int)), y14] ∧ v' ≤ w.length ∧ (∀ p q, p < t → p < q → q < w.length → bad fl w p q = true → v' ≤ q - p - 1) ∧ (v' = w.length ∨ ∃ p q, p < q ∧ q < w.length ∧ bad fl w p q = true ∧ v' = q - p - 1))
    (rngD 0 w.length 1) 0 [x0, some (.ob i), x2, some (.ob b), some fr, x5, x6, x7, x8, x9, x10, x11, some (wd c w), some (.int (w.length : Int)), x14] S3 ⟨rfl, w.length, x6, x14, rfl, Nat.le_refl _, fun p q h1 => by omega, .inl rfl⟩ (fun _ _ _ _ => rfl) (fun t x ρ S' hx ⟨e0, v', y6, y14, e1, e2, e3, e4⟩ => by
      subst e0 e1
      rw [Nat.zero_add] at e3 ⊢
      have ht : t < w.length := by
        have := (List.getElem?_eq_some_iff.mp hx).1
        rw [rngD_len] at this
        exact this
      have ex := rngD_get hx
      rw [show (0 : Int) + (t : Int) * 1 = (t : Int) by omega] at ex
      subst ex
      obtain ⟨v2, z6, eb, g1, g2, g3⟩ := size_row (T := T) (k := k + 9) (w := w) (S := S') (p := t) (v := v') (x0 := x0) (x1 := some (.ob i)) (x2 := x2) (x3 := some (.ob b)) (x5 := x5) (x6 := y6) (x7 := x7) (x8 := x8) (x9 := x9) (x10 := x10) (x11 := x11) (by rw [hcf]) h ht wl
      refine ⟨_, S', .inl ((body_nm (show 14 < 15 by decide)).trans eb), rfl, v2, _, _, rfl, by omega, fun p q h1 h2 h3 h4 => ?_, ?_⟩
      · by_cases e : p = t
        · subst e
          exact g2 q h2 h3 h4
        · exact Nat.le_trans g1 (e3 p q (by omega) h2 h3 h4)
      · rcases g3 with rfl | ⟨q, a1, a2, a3, a4⟩
        · exact e4
        · exact .inr ⟨t, q, a1, a2, a3, a4⟩)
  obtain ⟨ρ', S', e, rfl, v', y6, y14, rfl, h1, h2, h3⟩ := lp
  rw [rngD_len, Nat.zero_add] at h2
  have sz : Sz fl w v' := ⟨h1, fun p q a1 a2 a3 => h2 p q (by omega) a1 a2 a3, h3⟩
  obtain ⟨v2, ewin, sz2⟩ := window_call (k := k + 8) (S := S') (w := w) h wl
  rw [show k + 8 + 2 = k + 10 by omega, ← hcf] at ewin
  obtain rfl := sz_uniq sz sz2
  have same := same_call (S := S') f15 f14 (k + 10) (.int (v' : Int)) rfl rfl (Nat.zero_le _) (by simp only [D.dep]; omega)
  rw [← hcf] at same
  have hlen : biD .len [wd c w] S' = some (.int (w.length : Int)) := by
    show some (D.int ((w.map (it c)).length : Int)) = _
    rw [List.length_map]
  have sw : small (w.length : Int) = true := small_of (by omega)
  refine ⟨x2, y6, some (wd c w), some (.int (v' : Int)), y14, S', ?_, hd3.mono (by omega), hb2.trans hb3⟩
  have ww : D.tup (w.map (it c)) = wd c w := rfl
  unfold bWn
  simp only [ez, ed, sm, ew', ww, hlen, sw, Int.toNat_natCast, e]
  simp only [ez, ewin, same]
end
end K53

set_option Elab.async false
set_option linter.all false
set_option maxRecDepth 100000
set_option maxHeartbeats 4000000
namespace K53
open PySem PL
open M53 (Mx Ls Tr bfs)
section
variable {c : Nat → Int}
theorem fitss_all : ∀ {xs : List D}, (∀ x ∈ xs, x.fits = true) → D.fitss xs = true
  | [], _ => rfl
  | x :: xs, h => by
    simp only [D.fitss, Bool.and_eq_true]
    exact ⟨h x List.mem_cons_self, fitss_all fun y hy => h y (List.mem_cons_of_mem _ hy)⟩
theorem it_fits {a : Nat} : (it c a).fits = true := rfl
theorem wd_fits {w : List Nat} (h : w.length < 1000000) : (wd c w).fits = true := by
  unfold wd
  simp only [D.fits, Bool.and_eq_true, decide_eq_true_eq, List.length_map]
  exact ⟨h, fitss_all fun x hx => by
    obtain ⟨a, _, rfl⟩ := List.mem_map.mp hx
    exact it_fits⟩
theorem wds_ok {ws : List (List Nat)} {L : Nat} (hl : ws.length ≤ 4096) (h : ∀ r ∈ ws, r.length = L) (hL : L ≤ 6) : (D.tup ((ws.map (wd c)).mergeSort pyLe)).dat = true ∧ (D.tup ((ws.map (wd c)).mergeSort pyLe)).fits = true ∧ (D.tup ((ws.map (wd c)).mergeSort pyLe)).dep ≤ 3 := by
  have mem : ∀ x ∈ (ws.map (wd c)).mergeSort pyLe, ∃ u ∈ ws, wd c u = x := fun x hx => List.mem_map.mp ((List.mergeSort_perm _ _).mem_iff.mp hx)
  refine ⟨?_, ?_, ?_⟩
  · show D.dats _ = true
    exact dats_all.mpr fun x hx => by
      obtain ⟨u, _, rfl⟩ := mem x hx
      exact wd_dat
  · simp only [D.fits, Bool.and_eq_true, decide_eq_true_eq, List.length_mergeSort, List.length_map]
    exact ⟨by omega, fitss_all fun x hx => by
      obtain ⟨u, hu, rfl⟩ := mem x hx
      exact wd_fits (by rw [h u hu]; omega)⟩
  · simp only [D.dep]
    have : D.deps ((ws.map (wd c)).mergeSort pyLe) ≤ 2 := deps_le.mpr fun x hx => by
      obtain ⟨u, _, rfl⟩ := mem x hx
      exact wd_dep
    omega
end
theorem f7 : pg.fns[7]? = some ⟨1, 1, bStart⟩ := rfl
theorem f16 : pg.fns[16]? = some ⟨1, 15, b_law⟩ := rfl
theorem law_true (ns : List Int) (_ : ns.length ≤ 63) : ∃ S, callF P.pg 60 16 [.scr ns] (P.tabs.map O.tab) = .ok (.bl true) S := by
  have ht : P.tabs.map O.tab = [.tab tq] := rfl
  rw [ht]
  have key : ∃ S, evSs ⟨callF pg 59, callF pg (59 - 1), pg.meth, pg.init, pg.lit, pg.isx⟩ b_law (startE 15 [.scr ns]) [.tab tq] = .ret (.bl true) S := by
    generalize hT : (⟨callF pg 59, callF pg (59 - 1), pg.meth, pg.init, pg.lit, pg.isx⟩ : Tab) = T
    have hcf : T.cf = callF pg 59 := by rw [← hT]
    -- the state
    have e0 : T.cf 7 [.scr ns] [.tab tq] = .ok (.ob 2) [.tab tq, .lst (ns.map .int), .lst [.ob 1, .int 0, .int 0, .int 0]] := by
      rw [hcf]
      exact start_call (k := 58) f7
    generalize hS1 : [O.tab tq, .lst (ns.map .int), .lst [.ob 1, .int 0, .int 0, .int 0]] = S1 at e0
    have l1 : S1.length = 3 := by rw [← hS1]; rfl
    have t1 : S1[0]? = some (.tab tq) := by rw [← hS1]; rfl
    have d1 : Dws 2 1 ns S1 0 S1 := ⟨0, ⟨0, 0, by rw [← hS1]; rfl, by rw [← hS1]; rfl, by decide, by decide⟩, by decide, .refl⟩
    -- the items
    obtain ⟨c, S2, e2, d2, b2⟩ := items_comp (T := T) (k := 58) (ρ := [some (.scr ns), some (.ob 2), none, none, none, none, none, none, none, none, none, none, none, none, none]) hcf d1 (by omega) rfl (by simp)
    have t2 : S2[0]? = some (.tab tq) := by rw [b2.2 0 (by decide)]; exact t1
    have l2 : S2.length = 3 := by rw [b2.1]; exact l1
    have d3 : Dws 2 1 ns S1 4 (S2 ++ [.lst (its c)]) := (d2.mono (by omega)).push
    have i3 : (S2 ++ [O.lst (its c)])[S2.length]? = some (.lst (its c)) := app_get
    have t3 : (S2 ++ [O.lst (its c)])[0]? = some (.tab tq) := app_keep t2
    have l3 : (S2 ++ [O.lst (its c)]).length = 4 := by simp [l2]
    -- the free pairs
    obtain ⟨fr, fl, S4, e4, hF, d4, g4⟩ := free_call (k := 57) d3 (by omega) i3 (by omega)
    rw [show 57 + 2 = 59 by rfl, ← hcf] at e4
    have t4 : S4[0]? = some (.tab tq) := g4.get (by decide) t3
    have i4 : S4[S2.length]? = some (.lst (its c)) := g4.get (by omega) i3
    have l4 : 4 ≤ S4.length := by rw [← l3]; exact g4.1
    -- the rows
    have d5 : Dws 2 1 ns S1 20 (S4 ++ [.lst []]) := (d4.mono (by omega)).push
    obtain ⟨r, S6, e6, r0, r1, d6, b6⟩ := d5.draw (k := 58) f8 (by omega) (by decide : (0 : Int) < 3) (pow_ge (by decide))
    rw [show 58 + 1 = 59 by rfl, ← hcf] at e6
    have i6 : S6[S2.length]? = some (.lst (its c)) := by rw [b6.2 _ (by omega)]; exact app_keep i4
    have t6 : S6[0]? = some (.tab tq) := by rw [b6.2 _ (by omega)]; exact app_keep t4
    have r6 : S6[S4.length]? = some (.lst []) := by rw [b6.2 _ (by omega)]; exact app_get
    have l6 : S6.length = S4.length + 1 := by rw [b6.1]; simp
    have sm6 : small (1 + r) = true := small_of (by omega)
    obtain ⟨rows, y2, S7, e7, hR, r7, d7, l7, k7⟩ := rows_build (T := T) (k := 57) (n := (1 + r).toNat) (x0 := some (.scr ns)) (x2 := none) (x4 := some fr) (x6 := none) (x7 := none) (x8 := none) (x9 := none) (x10 := none) (x11 := none) (x12 := none) (x13 := none) (x14 := none) hcf d6 (by omega) (by omega) (by omega) (by omega) i6 (by omega) r6 (by omega) (by omega)
    have t7 : S7[0]? = some (.tab tq) := by rw [k7 0 (by omega) (by omega) (by omega)]; exact t6
    have i7 : S7[S2.length]? = some (.lst (its c)) := by rw [k7 _ (by omega) (by omega) (by omega)]; exact i6
    -- the mixes
    obtain ⟨ways, f, S10, e10, w10, f10', m10, n10, k10⟩ := mixes_call (c := c) (e := 58) (S := S7 ++ [.lst [], .lst []]) hR
    rw [show 58 + 1 = 59 by rfl, ← hcf] at e10
    have l8 : (S7 ++ [O.lst [], .lst []]).length = S7.length + 2 := by simp
    have d8 : Dws 2 1 ns S1 50 (S7 ++ [.lst [], .lst []]) := dws_frame (d7.mono (by omega)) (by simp) fun q hq => List.getElem?_append_left hq
    have u10 : ∀ q, q < S7.length → S10[q]? = S7[q]? := fun q hq => by rw [k10 q (by omega), List.getElem?_append_left hq]
    have wl10 := (List.getElem?_eq_some_iff.mp w10).1
    have l10 : S7.length + 2 ≤ S10.length := by omega
    have d10 : Dws 2 1 ns S1 50 S10 := dws_frame d8 (by omega) k10
    have q10 : S10[S7.length]? = some (.lst []) := by rw [k10 _ (by omega)]; simp
    have p10 : S10[S7.length + 1]? = some (.lst []) := by rw [k10 _ (by omega)]; simp
    have tl := total_le hR
    obtain ⟨ds, y8, y9, y10, S11, e11, q11, nd11, m11, n11, l11, k11⟩ := due_loop (T := T) (c := c) (fl := fl) (e := 57) (S := S10) (ways := ways) (f := f) (kf := S7.length + 1) (df := S7.length) (x0 := some (.scr ns)) (x1 := some (.ob 2)) (x2 := y2) (x3 := some (.ob S2.length)) (x5 := some (rwD c rows)) (x6 := none) (x9 := none) (x10 := none) (x11 := none) (x12 := none) (x13 := none) (x14 := none) hcf hF (fun u hu => by
      obtain ⟨pl, h1, h2⟩ := (m10 u).mp hu
      exact ⟨by omega, mx_letters hR h2⟩) n10 w10 p10 q10 (by omega) (by omega)
    have t11 : S11[0]? = some (.tab tq) := by
      have : 0 < S7.length := by omega
      rw [k11 0 (by omega) (by omega), u10 0 this]
      exact t7
    have i11 : S11[S2.length]? = some (.lst (its c)) := by rw [k11 _ (by omega) (by omega), u10 _ (by omega)]; exact i7
    have d11 : Dws 2 1 ns S1 50 S11 := by
      obtain ⟨cc, ⟨a, b', h1, h2, h3, h4⟩, h5, h6⟩ := d10
      exact ⟨cc, ⟨a, b', by rw [k11 2 (by omega) (by omega)]; exact h1, by rw [k11 1 (by omega) (by omega)]; exact h2, h3, h4⟩, h5, ⟨by have := h6.1; omega, fun q hq hn => by rw [k11 q (by omega) (by omega)]; exact h6.2 q hq hn⟩⟩
    -- the traces
    obtain ⟨ws, ew, ndw, mw⟩ := traces_call (e := 46) hF hR t11
    rw [show 13 + 46 = 59 by rfl, ← hcf] at ew
    have dw : ∀ r, r ∈ ds ↔ r ∈ ws := fun r => by
      rw [m11, mw]
      constructor
      · rintro ⟨u, hu, hl⟩
        obtain ⟨pl, h1, h2⟩ := (m10 u).mp hu
        exact ⟨pl, u, h1, h2, hl⟩
      · rintro ⟨pl, u, h1, h2, hl⟩
        exact ⟨u, (m10 u).mpr ⟨pl, h1, h2⟩, hl⟩
    have pm : ds.Perm ws := (List.perm_ext_iff_of_nodup nd11 ndw).mpr dw
    have dl : ∀ r ∈ ds, r.length = total rows := fun r hr => by
      obtain ⟨u, hu, hl⟩ := (m11 r).mp hr
      obtain ⟨pl, h1, _⟩ := (m10 u).mp hu
      rw [lst_len hl, h1]
    have so := sortD_wds (c := c) nd11 dl (by omega)
    have se : (ds.map (wd c)).mergeSort pyLe = (ws.map (wd c)).mergeSort pyLe := cmp_wds.sort_eq (pm.map _)
    rw [se] at so
    obtain ⟨wk1, wk2, wk3⟩ := wds_ok (c := c) (ws := ws) (L := total rows) (by rw [← pm.length_eq]; omega) (fun r hr => dl r ((dw r).mpr hr)) tl
    have same := same_call (S := S11) f15 f14 59 _ wk1 wk2 (by omega) (by omega)
    rw [← hcf] at same
    -- the windows
    have lp := forR_inv (v := { items := rngD 0 3 1 }) (body := bodyR (.nm 11) (evSs T bWn)) (fun q ρ S' => q ≤ 3 ∧ ∃ (z2 z6 z11 z12 z13 z14 : Option D), ρ = [some (.scr ns), some (.ob 2), z2, some (.ob S2.length), some fr, some (rwD c rows), z6, some (.ob S7.length), y8, y9, y10, z11, z12, z13, z14] ∧ Dws 2 1 ns S1 (50 + 10 * q) S' ∧ S'[S2.length]? = some (.lst (its c)))
      (rngD 0 3 1) 0 [some (.scr ns), some (.ob 2), y2, some (.ob S2.length), some fr, some (rwD c rows), none, some (.ob S7.length), y8, y9, y10, none, none, none, none] S11 ⟨by omega, y2, none, none, none, none, none, rfl, d11, i11⟩ (fun _ _ _ _ => rfl) (fun q x ρ S' hx ⟨_, z2, z6, z11, z12, z13, z14, e1, e2, e3⟩ => by
        subst e1
        have hq : q < 3 := by
          have := (List.getElem?_eq_some_iff.mp hx).1
          rw [rngD_len] at this
          exact this
        obtain ⟨v2, v6, v12, v13, v14, S5, eb, hd5, hb5⟩ := win_round (T := T) (k := 49) (S := S') (x0 := some (.scr ns)) (x2 := z2) (x5 := some (rwD c rows)) (x6 := z6) (x7 := some (.ob S7.length)) (x8 := y8) (x9 := y9) (x10 := y10) (x11 := some x) (x12 := z12) (x13 := z13) (x14 := z14) (by rw [hcf]) hF e2 (by omega) e3 (by omega)
        exact ⟨_, S5, .inl ((body_nm (show 11 < 15 by decide)).trans eb), by omega, v2, v6, some x, v12, v13, v14, rfl, hd5.mono (by omega), by rw [hb5.2 _ (by omega)]; exact e3⟩)
    obtain ⟨ρe, Se, ee, _, z2, z6, z11, z12, z13, z14, rfl, _, _⟩ := lp
    refine ⟨Se, ?_⟩
    have eρ : startE 15 [.scr ns] = [some (.scr ns), none, none, none, none, none, none, none, none, none, none, none, none, none, none] := rfl
    rw [eρ]
    have rw1 : D.tup (rows.map (wd c)) = rwD c rows := rfl
    unfold b_law
    unfold bIe at e2
    unfold bRw bOne at e7
    unfold bD at e11
    unfold bWn bSi bSj bOne at ee
    have sm4 : small 4 = true := by decide
    have t4' : (4 : Int).toNat = 4 := rfl
    simp only [ez, e0, sm4, t4', e2, e4, e6, sm6, e7, r7, rw1]
    simp only [ez, e10, w10, e11]
    have sm3 : small 3 = true := by decide
    have t3' : (3 : Int).toNat = 3 := rfl
    simp only [ez, ew, q11, so, same, sm3, t3', ee]
  obtain ⟨S1, eb⟩ := key
  obtain ⟨S', e, _⟩ := call_any (fun _ => True) f16 rfl eb trivial trivial
  exact ⟨S', e⟩
end K53

set_option Elab.async false
set_option linter.all false
open PySem PySem.W PyProof.Rows
set_option maxRecDepth 100000 in
set_option maxHeartbeats 0 in
theorem PySem.Challenge.cw_maypass_k53_mixes_and_windows_holds : PySem.Challenge.rw_maypass_k53_mixes_and_windows.Holds := by
  w_on; o_law; k_head; (case hw => w_witness2)
  k_fill
  refine PL.walkT (l := PySem.Challenge.rw_maypass_k53_mixes_and_windows) 65 (PL.callF K53.P.pg 60 16) K53.P.tabs rfl rfl ⟨rfl, by decide, by decide⟩ (fun w h Y => PySem.W.km_in_of Y) ?F K53.law_true
  case F =>
    intro w mg fa h Y KX G hmg
    have hT8 := PySem.W.km_tabs_of Y
    refine' K53.all_mk KX G hmg ?cg1 ?pg1 ?hd1 ?po1 ?sa1 ?mk1 ?kp1 ?na1_0 ?na1_1 ?na1_2 ?a1 ?l1 ?c1 ?k1 ?a2 ?l2 ?c2 ?k2 ?a3 ?l3 ?c3 ?k3 ?a4 ?l4 ?c4 ?k4 ?a5 ?l5 ?c5 ?k5 ?a6 ?l6 ?c6 ?k6 ?a7 ?l7 ?c7 ?k7 ?a8 ?l8 ?c8 ?k8 ?a9 ?l9 ?c9 ?k9 ?a10 ?l10 ?c10 ?k10 ?a11 ?l11 ?c11 ?k11 ?a12 ?l12 ?c12 ?k12 ?a13 ?l13 ?c13 ?k13 ?a14 ?l14 ?c14 ?k14 ?a15 ?l15 ?c15 ?k15 ?a16 ?l16 ?c16 ?k16 ?a17 ?l17 ?c17 ?k17 ?a18 ?n18 ?l18 ?c18 ?k18 ?a19 ?n19 ?l19 ?c19 ?k19 ?hh19 ?hn19 ?ht19 ?a20 ?n20 ?l20 ?c20 ?k20 ?z1 ?z2 ?z3 ?z4 ?z5 ?z6 ?z7 ?z8 ?z9 ?z10 ?z11 ?z12 ?z13 ?z14 ?z15 60
    (case cg1 => k_is); (case pg1 => k_is); (case hd1 => k_is); (case po1 => k_is); (case sa1 => k_is); (case mk1 => k_is); (case kp1 => k_is); (case na1_0 => k_is); (case na1_1 => k_is); (case na1_2 => k_is); (case a1 => k_is); (case l1 => k_is); (case c1 => k_is); (case k1 => k_is); (case a2 => k_is); (case l2 => k_is); (case c2 => k_is); (case k2 => k_is); (case a3 => k_is); (case l3 => k_is); (case c3 => k_is); (case k3 => k_is); (case a4 => k_is); (case l4 => k_is); (case c4 => k_is); (case k4 => k_is); (case a5 => k_is); (case l5 => k_is); (case c5 => k_is); (case k5 => k_is); (case a6 => k_is); (case l6 => k_is); (case c6 => k_is); (case k6 => k_is); (case a7 => k_is); (case l7 => k_is); (case c7 => k_is); (case k7 => k_is); (case a8 => k_is); (case l8 => k_is); (case c8 => k_is); (case k8 => k_is); (case a9 => k_is); (case l9 => k_is); (case c9 => k_is); (case k9 => k_is); (case a10 => k_is); (case l10 => k_is); (case c10 => k_is); (case k10 => k_is); (case a11 => k_is); (case l11 => k_is); (case c11 => k_is); (case k11 => k_is); (case a12 => k_is); (case l12 => k_is); (case c12 => k_is); (case k12 => k_is); (case a13 => k_is); (case l13 => k_is); (case c13 => k_is); (case k13 => k_is); (case a14 => k_is); (case l14 => k_is); (case c14 => k_is); (case k14 => k_is); (case a15 => k_is); (case l15 => k_is); (case c15 => k_is); (case k15 => k_is); (case a16 => k_is); (case l16 => k_is); (case c16 => k_is); (case k16 => k_is); (case a17 => k_is); (case l17 => k_is); (case c17 => k_is); (case k17 => k_is); (case a18 => k_is); (case n18 => k_is); (case l18 => k_is); (case c18 => k_is); (case k18 => k_is); (case a19 => k_is); (case n19 => k_is); (case l19 => k_is); (case c19 => k_is); (case k19 => k_is); (first | ((case ht19 => exact hT8 _ (.head _)); (case hh19 => kernel_rfl); (case hn19 => kernel_rfl)) | ((case ht19 => exact hT8 _ (.tail _ (.head _))); (case hh19 => kernel_rfl); (case hn19 => kernel_rfl)) | ((case ht19 => exact hT8 _ (.tail _ (.tail _ (.head _)))); (case hh19 => kernel_rfl); (case hn19 => kernel_rfl)) | ((case ht19 => exact hT8 _ (.tail _ (.tail _ (.tail _ (.head _))))); (case hh19 => kernel_rfl); (case hn19 => kernel_rfl))); skip; skip; (case a20 => k_is); (case n20 => k_is); (case l20 => k_is); (case c20 => k_is); (case k20 => k_is); (case z1 => k_is); (case z2 => k_is); (case z3 => k_is); (case z4 => k_is); (case z5 => k_is); (case z6 => k_is); (case z7 => k_is); (case z8 => k_is); (case z9 => k_is); (case z10 => k_is); (case z11 => k_is); (case z12 => k_is); (case z13 => k_is); (case z14 => k_is); (case z15 => k_is)
#print axioms PySem.Challenge.cw_maypass_k53_mixes_and_windows_holds

