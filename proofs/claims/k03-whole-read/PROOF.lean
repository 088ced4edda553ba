import PyProof.Rows.All
import Wide.All
import OpenK.AllK
import Wide.FinOn
import HandS.ForMost
import HandS.ForExc
import HandS.TupAny
import HandS.TupMul
import HandS.Deep
import HandS.Wide
import HandS.IsInst
import HandS.Style
import HandS.Lambda
import HandS.TryMany
import HandS.Steps
import HandS.Dict
import HandS.More
import HandS.Flt
import HandS.StrMore
import HandS.SetFor
import KE.KExcIs
import HandS.CallSlots
import HandS.NoneIn
import HandS.ReplaceLit
import HandS.ReplaceList
import HandS.Defaults
import HandS.Head0
import HandS.Head1
import HandS.Head2
import HandS.HeadEnd
import HandS.HeadHook1
import HandS.HeadHook2
import HandS.HeadHook3
import HandS.HeadHook4
import HandS.EndTab
import HandS.NestedK
import KE.KIntText
import PySem.Challenge.RW_pocketpile_k03_whole_read
set_option Elab.async false
set_option linter.all false
set_option maxRecDepth 100000
set_option maxHeartbeats 1000000
/-! EvA: data, outcomes, the little language of the walk, what it tells. -/
namespace Ev
open PySem PySem.Spec PyProof.Rows L2

/-- data of the walk: texts are lists of codes -/
inductive D where
  | non | bl (b : Bool) | int (i : Int) | str (s : List Nat) | tup (l : List D) | lst (l : List D) | fn (i : Nat) | scr (l : List Int)
  deriving Inhabited

/-- outcomes: a value, an error of the class c, nothing told -/
inductive Res (α : Type) where
  | ok (a : α) | exc (c : Nat) | bad
  deriving Inhabited
namespace Res
@[inline] def bind {α β : Type} (r : Res α) (f : α → Res β) : Res β :=
  match r with
  | .ok a => f a
  | .exc c => .exc c
  | .bad => .bad
@[simp] theorem bind_ok {α β : Type} (a : α) (f : α → Res β) : (Res.ok a).bind f = f a := rfl
@[simp] theorem bind_exc {α β : Type} (c : Nat) (f : α → Res β) : (Res.exc c : Res α).bind f = .exc c := rfl
@[simp] theorem bind_bad {α β : Type} (f : α → Res β) : (Res.bad : Res α).bind f = .bad := rfl
end Res

/-- a slot: nothing, data, a list that is the def's own -/
inductive SV where
  | un | pu (d : D) | own (l : List D)
  deriving Inhabited
abbrev Env := List SV
def getV : Env → Nat → SV
  | [], _ => .un
  | x :: _, 0 => x
  | _ :: r, n + 1 => getV r n
def setV : Env → Nat → SV → Env
  | [], _, _ => []
  | _ :: r, 0, v => v :: r
  | x :: r, n + 1, v => x :: setV r n v

inductive BOp where
  | add | sub | mul | fdiv | mod | pow
  deriving DecidableEq
inductive COp where
  | eq | ne | lt | le | gt | ge | is_ | isNot | in_ | notIn
  deriving DecidableEq
inductive Ty where
  | int | bool | str | tuple | list
  deriving DecidableEq
/-- built-in functions of the walk -/
inductive Blt where
  | len | abs | int | str | tuple | list | max | min | all | sorted
  deriving DecidableEq
inductive Mth where
  | startswith | partition | split | join | rjust | find | index | replace
  deriving DecidableEq
/-- targets -/
inductive Tg where
  | name (i : Nat) | tup (l : List Nat)

mutual
/-- expressions -/
inductive Ex where
  | lit (d : D) | var (i : Nat) | glob (i : Nat)
  | bin (o : BOp) (a b : Ex) | neg (a : Ex)
  | cmp (o : COp) (a b : Ex) | chain (o p : COp) (a b c : Ex)
  | and (a b : Ex) | or (a b : Ex) | not (a : Ex)
  | tup (l : Exs) | lst (l : Exs)
  | idx (a b : Ex) | slice (a : Ex) (lo hi : Exo) | rev (a : Ex)
  | blt (f : Blt) (l : Exs) | isi (a : Ex) (t : Ty)
  | meth (m : Mth) (a : Ex) (l : Exs)
  | call (i : Nat) (l : Exs) | callv (i : Nat) (l : Exs)
  | comp (own : List Nat) (t : Tg) (it : Itr_) (c : Exo) (e : Ex)
  | dsub (ks : List (List Nat)) (vs : Exs) (k : Ex) | dgt (ks : List (List Nat)) (vs : Exs) (k d : Ex)
  | kin (neg : Bool) (i : Nat) (a : Ex) | kget (i : Nat) (a : Ex)
  | told (a : Ex) | oidx (i : Nat) (a : Ex) | olen (i : Nat)
inductive Exs where
  | nil | cons (a : Ex) (r : Exs)
inductive Exo where
  | no | yes (a : Ex)
/-- what is walked -/
inductive Itr_ where
  | of (a : Ex) | range (a : Ex) | range2 (a b : Ex) | zip (a b : Ex)
end
mutual
inductive Sm where
  | set (t : Tg) (e : Ex) | setc (i : Nat) (e : Ex) | ret (e : Ex) | exp (e : Ex) | iff (c : Ex) (a b : Sms)
  | while_ (c : Ex) (b : Sms) | for_ (t : Tg) (it : Itr_) (b : Sms)
  | raise (c : Nat) | pass
  | trys (t : Tg) (e : Ex) (n : Nat) (hs : List (Nat × List (Sum Nat D)))
  | ownD (i : Nat) (l : Exs) | ownC (i : Nat) (own : List Nat) (t : Tg) (it : Itr_) (c : Exo) (e : Ex) | ownL (i : Nat) (a : Ex)
  | app (i : Nat) (e : Ex) | sto (i : Nat) (k e : Ex) | frz (i : Nat) | stuck
inductive Sms where
  | nil | cons (a : Sm) (r : Sms)
end

/-! ### operations -/
def BIG : Int := 10 ^ 500
def MAXL : Nat := 16777216
theorem maxl_line : MAXL = sizeLine := sizeLine_eq.symm
def MulOk (i j : Int) : Prop := (-(2 ^ 64) < i ∧ i < 2 ^ 64) ∨ (-(2 ^ 64) < j ∧ j < 2 ^ 64) ∨ ((-BIG < i ∧ i < BIG) ∧ (-BIG < j ∧ j < BIG))
def DivOk (j : Int) : Prop := 0 < j ∧ j < BIG
instance (i j : Int) : Decidable (MulOk i j) := by unfold MulOk; infer_instance
instance (j : Int) : Decidable (DivOk j) := by unfold DivOk; infer_instance
/-- copies, one behind another -/
def reps {α : Type} (k : Nat) (l : List α) : List α := (List.replicate k l).flatten
def binD : BOp → D → D → Res D
  | .add, .int i, .int j => .ok (.int (i + j))
  | .add, .str s, .str t => if s.length + t.length ≤ MAXL then .ok (.str (s ++ t)) else .bad
  | .add, .tup s, .tup t => if s.length + t.length ≤ MAXL then .ok (.tup (s ++ t)) else .bad
  | .add, .lst s, .lst t => if s.length + t.length ≤ MAXL then .ok (.lst (s ++ t)) else .bad
  | .sub, .int i, .int j => .ok (.int (i - j))
  | .mul, .int i, .int j => if MulOk i j then .ok (.int (i * j)) else .bad
  | .mul, .str s, .int j => if -1000000 ≤ j ∧ j ≤ 1000000 ∧ s.length * j.toNat ≤ MAXL then .ok (.str (reps j.toNat s)) else .bad
  | .mul, .lst s, .int j => if -1000000 ≤ j ∧ j ≤ 1000000 ∧ s.length * j.toNat ≤ MAXL then .ok (.lst (reps j.toNat s)) else .bad
  | .mul, .tup s, .int j => if -1000 ≤ j ∧ j ≤ 1000 ∧ (s.length ≤ 1000 ∨ j ≤ 1) then .ok (.tup (reps j.toNat s)) else .bad
  | .fdiv, .int i, .int j => if DivOk j then .ok (.int (i / j)) else .bad
  | .mod, .int i, .int j => if 0 < j then .ok (.int (i % j)) else .bad
  | .pow, .int i, .int j => if 0 ≤ j ∧ j ≤ 1000 ∧ i.natAbs < 2 ^ 64 then .ok (.int (i ^ j.toNat)) else .bad
  | _, _, _ => .bad

mutual
/-- data as the library's data -/
def toP : D → Option PyData
  | .non => some .none
  | .bl b => some (.bool b)
  | .int i => some (.int i)
  | .str s => some (.str ⟨s.toArray⟩)
  | .tup l => (toPs l).map .tuple
  | .lst l => (toPs l).map .list
  | .fn _ => none
  | .scr _ => none
def toPs : List D → Option (List PyData)
  | [] => some []
  | d :: r => (toP d).bind fun p => (toPs r).map fun q => p :: q
end
/-- flat data -/
def flatD : D → Bool
  | .non => true
  | .bl _ => true
  | .int _ => true
  | .str _ => true
  | _ => false
/-- == of flat data -/
def eqF : D → D → Bool
  | .non, .non => true
  | .bl a, .bl b => a == b
  | .bl a, .int b => (if a then (1 : Int) else 0) == b
  | .int a, .bl b => a == (if b then (1 : Int) else 0)
  | .int a, .int b => a == b
  | .str a, .str b => a == b
  | _, _ => false
/-- flat data of kinds that == compares by themselves -/
def scalD : D → D → Bool
  | .non, .non => true
  | .non, .bl _ => true
  | .bl _, .non => true
  | .non, .int _ => true
  | .int _, .non => true
  | .non, .str _ => true
  | .str _, .non => true
  | .int _, .int _ => true
  | .bl _, .bl _ => true
  | .str _, .str _ => true
  | .int _, .str _ => true
  | .str _, .int _ => true
  | .bl _, .str _ => true
  | .str _, .bl _ => true
  | _, _ => false
def eqP (a b : D) : Option Bool :=
  match toP a, toP b with
  | some p, some q => if SeqAt.shaped p = true ∧ SeqAt.shaped q = true then some (PyData.eqv p q) else none
  | _, _ => none
def eqD (a b : D) : Option Bool := if scalD a b = true then some (eqF a b) else eqP a b
abbrev mkS (s : List Nat) : Str := ⟨s.toArray⟩
/-- a text in a text -/
def inS (i j : List Nat) : Bool := !(Builtin.Str.occurrences (mkS j) (mkS i) 0 (mkS j).length 1).isEmpty
/-- a thing among things, deep -/
def inDeep (x : D) (l : List D) : Option Bool :=
  match toP x, toPs l with
  | some p, some ps => if SeqAt.shaped p = true ∧ SeqAt.shaped (.tuple ps) = true then some (ps.any fun z => PyData.eqv z p) else none
  | _, _ => none
def inF (x : D) (l : List D) : Bool := l.any fun y => eqF y x
def isNonD : D → Bool
  | .non => true
  | _ => false
def cmpD : COp → D → D → Res D
  | .eq, a, b => match eqD a b with
    | some k => .ok (.bl k)
    | none => .bad
  | .ne, a, b => match eqD a b with
    | some k => .ok (.bl (!k))
    | none => .bad
  | .lt, .int i, .int j => .ok (.bl (decide (i < j)))
  | .le, .int i, .int j => .ok (.bl (decide (i ≤ j)))
  | .gt, .int i, .int j => .ok (.bl (decide (j < i)))
  | .ge, .int i, .int j => .ok (.bl (decide (j ≤ i)))
  | .is_, a, .non => .ok (.bl (isNonD a))
  | .isNot, a, .non => .ok (.bl (!isNonD a))
  | .in_, .str i, .str j => .ok (.bl (inS i j))
  | .notIn, .str i, .str j => .ok (.bl (!inS i j))
  | .in_, x, .tup l => if flatD x = true ∧ l.all flatD = true then .ok (.bl (inF x l)) else match inDeep x l with
    | some b => .ok (.bl b)
    | none => .bad
  | .notIn, x, .tup l => if flatD x = true ∧ l.all flatD = true then .ok (.bl (!inF x l)) else match inDeep x l with
    | some b => .ok (.bl (!b))
    | none => .bad
  | .in_, x, .lst l => if flatD x = true ∧ l.all flatD = true then .ok (.bl (inF x l)) else match inDeep x l with
    | some b => .ok (.bl b)
    | none => .bad
  | .notIn, x, .lst l => if flatD x = true ∧ l.all flatD = true then .ok (.bl (!inF x l)) else match inDeep x l with
    | some b => .ok (.bl (!b))
    | none => .bad
  | _, _, _ => .bad
/-- the place that an index tells -/
def place (n : Nat) (i : Int) : Option Nat := if 0 ≤ i then (if i < n then some i.toNat else none) else if -(n : Int) ≤ i then some (i + n).toNat else none
def atD {α : Type} (l : List α) (i : Int) : Option α := (place l.length i).bind fun j => l[j]?
def idxD : D → D → Res D
  | .tup l, .int i => match atD l i with
    | some d => .ok d
    | none => .bad
  | .lst l, .int i => match atD l i with
    | some d => .ok d
    | none => .bad
  | .scr l, .int i => match atD l i with
    | some k => .ok (.int k)
    | none => .bad
  | .str l, .int i => if l.length ≤ MAXL then (match atD l i with
    | some c => .ok (.str [c])
    | none => .bad) else .bad
  | _, _ => .bad
def cutIx (n d : Nat) : Option Int → Nat
  | none => d
  | some v => if v < 0 then (v + (n : Int)).toNat else min v.toNat n
def cutD {α : Type} (l : List α) (lo hi : Option Int) : List α := (l.drop (cutIx l.length 0 lo)).take (cutIx l.length l.length hi - cutIx l.length 0 lo)
def sliceD (d : D) (lo hi : Option Int) : Res D :=
  match d with
  | .tup l => .ok (.tup (cutD l lo hi))
  | .lst l => .ok (.lst (cutD l lo hi))
  | .str l => if l.length ≤ MAXL then .ok (.str (cutD l lo hi)) else .bad
  | _ => .bad
def truth : D → Res Bool
  | .bl b => .ok b
  | _ => .bad
def isTy : Ty → D → Bool
  | .int, .int _ => true
  | .int, .bl _ => true
  | .bool, .bl _ => true
  | .str, .str _ => true
  | .tuple, .tup _ => true
  | .list, .lst _ => true
  | _, _ => false
def isFn : D → Bool
  | .fn _ => true
  | .scr _ => true
  | _ => false
/-- the signs of a whole number -/
def numS (i : Int) : List Nat := (Str.ofString (toString i)).cps.toList
/-- truths -/
def allBl : List D → Option (List Bool)
  | [] => some []
  | .bl b :: r => (allBl r).map fun bs => b :: bs
  | _ :: _ => none
def intsOf : List D → Option (List Int)
  | [] => some []
  | .int i :: r => (intsOf r).map fun l => i :: l
  | _ :: _ => none
def signs (l : List Nat) : List D := l.map fun c => .str [c]
/-- texts -/
def allStr : List D → Option (List (List Nat))
  | [] => some []
  | .str s :: r => (allStr r).map fun ss => s :: ss
  | _ :: _ => none
/-- texts in order -/
def sortS (ys : List (List Nat)) : List (List Nat) := ys.mergeSort fun a b => decide (a ≤ b)
def bltD : Blt → List D → Res D
  | .len, [.str s] => if s.length ≤ MAXL then .ok (.int s.length) else .bad
  | .len, [.tup l] => .ok (.int l.length)
  | .len, [.lst l] => .ok (.int l.length)
  | .len, [.scr l] => .ok (.int l.length)
  | .abs, [.int i] => .ok (.int (if i < 0 then -i else i))
  | .int, [.int i] => .ok (.int i)
  | .int, [.bl b] => .ok (.int (if b then 1 else 0))
  | .int, [.str l] => match PySem.intText? ⟨l.toArray⟩ with
    | some n => if l.length ≤ 640 then .ok (.int n) else .bad
    | none => .bad
  | .str, [.int i] => if -BIG < i ∧ i < BIG then .ok (.str (numS i)) else .bad
  | .tuple, [.tup l] => .ok (.tup l)
  | .tuple, [.lst l] => .ok (.tup l)
  | .list, [.tup l] => .ok (.lst l)
  | .list, [.lst l] => .ok (.lst l)
  | .list, [.str l] => if l.length ≤ MAXL then .ok (.lst (signs l)) else .bad
  | .sorted, [.lst l] => match allStr l with
    | some ys => if ys.length < 64 then .ok (.lst ((sortS ys).map .str)) else .bad
    | none => .bad
  | .max, [.int i, .int j] => .ok (.int (if j > i then j else i))
  | .min, [.int i, .int j] => .ok (.int (if j < i then j else i))
  | .min, [.int i, .int j, .int k] => .ok (.int (if k < (if j < i then j else i) then k else (if j < i then j else i)))
  | .max, [.lst l] => match intsOf l with
    | some (x :: xs) => .ok (.int (xs.foldl (fun m y => if m < y then y else m) x))
    | _ => .bad
  | .min, [.lst l] => match intsOf l with
    | some (x :: xs) => .ok (.int (xs.foldl (fun m y => if y < m then y else m) x))
    | _ => .bad
  | .all, [.lst l] => match allBl l with
    | some bs => .ok (.bl (bs.all id))
    | none => .bad
  | _, _ => .bad

def mthTy : Mth → D → Bool
  | .index, .lst _ => true
  | .index, _ => false
  | _, .str _ => true
  | _, _ => false
/-- replace at the first place alone -/
def rep1 (x y z : Str) : Str := if ((Builtin.Str.occurrences x y 0 x.length 1).isEmpty || (y.length == 0 && z.length == 0)) = true then x else Builtin.Str.glued z (Builtin.Str.partsBetween x (Builtin.Str.occurrences x y 0 x.length 1) y.length)
/-- methods -/
def mthD : Mth → D → List D → Res D
  | .startswith, .str s, [.str t] => .ok (.bl (Txt.startswith (mkS s) (mkS t)))
  | .find, .str s, [.str t] => .ok (.int (Txt.find (mkS s) (mkS t)))
  | .partition, .str s, [.str t] => if t ≠ [] ∧ s.length ≤ MAXL then .ok (.tup [.str (Txt.partition (mkS s) (mkS t)).1.cps.toList, .str (Txt.partition (mkS s) (mkS t)).2.1.cps.toList, .str (Txt.partition (mkS s) (mkS t)).2.2.cps.toList]) else .bad
  | .split, .str s, [.str t] => if t ≠ [] ∧ s.length + 2 ≤ MAXL then .ok (.lst ((Txt.split (mkS s) (mkS t)).map fun z => .str z.cps.toList)) else .bad
  | .join, .str s, [.lst l] => match allStr l with
    | some ys => if (ys.map (·.length)).sum + ys.length * s.length ≤ MAXL then .ok (.str (Txt.join (mkS s) (ys.map mkS)).cps.toList) else .bad
    | none => .bad
  | .join, .str s, [.tup l] => match allStr l with
    | some ys => if (ys.map (·.length)).sum + ys.length * s.length ≤ MAXL then .ok (.str (Txt.join (mkS s) (ys.map mkS)).cps.toList) else .bad
    | none => .bad
  | .rjust, .str s, [.int i, .str [c]] => if -1000000 ≤ i ∧ i ≤ 1000000 then .ok (.str (List.replicate (i.toNat - s.length) c ++ s)) else .bad
  | .index, .lst l, [d] => match toPs l, toP d with
    | some ps, some p => if SeqAt.shaped (.list ps) = true ∧ SeqAt.shaped p = true then (match ps.findIdx? (fun z => PyData.eqv z p) with
      | some j => .ok (.int j)
      | none => .bad) else .bad
    | _, _ => .bad
  | .replace, .str x, [.str y, .str z] => if y ≠ [] ∧ x.length + (x.length + 1) * z.length ≤ MAXL then .ok (.str (Txt.replace (mkS x) (mkS y) (mkS z)).cps.toList) else .bad
  | .replace, .str x, [.str y, .str z, .int k] => if k = 1 ∧ y ≠ [] ∧ x.length + (x.length + 1) * z.length ≤ MAXL then .ok (.str (rep1 (mkS x) (mkS y) (mkS z)).cps.toList) else .bad
  | _, _, _ => .bad

/-! ### what the language tells -/
def partD : D → Res (Option Int)
  | .int i => .ok (some i)
  | _ => .bad
/-- a target's store -/
def setAll : Env → List Nat → List D → Env
  | ρ, i :: is, d :: ds => setAll (setV ρ i (.pu d)) is ds
  | ρ, _, _ => ρ
def storeT : Tg → D → Env → Res Env
  | .name i, d, ρ => .ok (setV ρ i (.pu d))
  | .tup is, .tup ds, ρ => if ds.length = is.length then .ok (setAll ρ is ds) else .bad
  | .tup is, .lst ds, ρ => if ds.length = is.length then .ok (setAll ρ is ds) else .bad
  | _, _, _ => .bad
def wipeV (ρ : Env) : List Nat → Env
  | [] => ρ
  | v :: vs => setV (wipeV ρ vs) v .un
/-- a comprehension's items -/
def compD (body : D → Res (Option D)) : List D → Res (List D)
  | [] => .ok []
  | d :: r => match body d with
    | .ok (some x) => (compD body r).bind fun l => .ok (x :: l)
    | .ok none => compD body r
    | _ => .bad
def upFrom (lo : Int) : Nat → List D
  | 0 => []
  | n + 1 => .int lo :: upFrom (lo + 1) n
def zipD : List D → List D → List D
  | a :: r, b :: s => .tup [a, b] :: zipD r s
  | _, _ => []

/-- a dict's value at a text -/
def lookL : List (List Nat) → List D → List Nat → Option D
  | k :: ks, d :: ds, s => if k = s then some d else lookL ks ds s
  | _, _, _ => none
def dlook (ks : List (List Nat)) (ds : List D) : D → Res D
  | .str s => match lookL ks ds s with
    | some d => .ok d
    | none => .bad
  | _ => .bad
def dlookD (ks : List (List Nat)) (ds : List D) (x y : D) : Res D := match x with
  | .str s => .ok ((lookL ks ds s).getD y)
  | _ => .bad
/-- the same, of a dict as data -/
def lookK : List D → List Nat → Option D
  | .tup [.str k, d] :: r, s => if k = s then some d else lookK r s
  | _, _ => none
def kinD (neg : Bool) (l : List D) (x : D) : Res D := match x with
  | .str s => .ok (.bl ((lookK l s).isSome != neg))
  | _ => .bad
def kgetD (l : List D) (x : D) : Res D := match x with
  | .str s => match lookK l s with
    | some d => .ok d
    | none => .bad
  | _ => .bad
/-- what is called: the level here, the defs at each level -/
structure Cl where
  k : Nat
  f : Nat → Nat → List D → Res D
/-- two calls deeper -/
def Cl.low (c : Cl) : Cl := ⟨c.k - 2, c.f⟩
/-- what _law_told tells: the classes are told by their order -/
def toldD : Res D → Res D
  | .ok d => .ok (.tup [.str [116, 111, 108, 100], d])
  | .exc c => if c < 5 then .ok (.tup [.str [114, 101, 102, 117, 115, 101, 100], .int c]) else .bad
  | .bad => .bad
def itemsD : D → Res (List D)
  | .tup l => .ok l
  | .lst l => .ok l
  | _ => .bad
mutual
def den (call : Cl) (gl : Nat → Option D) : Ex → Env → Res D
  | .lit d, _ => .ok d
  | .var i, ρ => match getV ρ i with
    | .pu d => .ok d
    | _ => .bad
  | .glob i, _ => match gl i with
    | some d => .ok d
    | none => .bad
  | .bin o a b, ρ => (den call gl a ρ).bind fun x => (den call gl b ρ).bind fun y => binD o x y
  | .neg a, ρ => (den call gl a ρ).bind fun x => match x with
    | .int i => .ok (.int (-i))
    | _ => .bad
  | .cmp o a b, ρ => (den call gl a ρ).bind fun x => (den call gl b ρ).bind fun y => cmpD o x y
  | .chain o p a b c, ρ => (den call gl a ρ).bind fun x => (den call gl b ρ).bind fun y => (cmpD o x y).bind fun k => (truth k).bind fun t =>
      if t = true then (den call gl c ρ).bind fun z => cmpD p y z else .ok (.bl false)
  | .and a b, ρ => (den call gl a ρ).bind fun x => (truth x).bind fun t => if t = true then (den call gl b ρ).bind fun y => (truth y).bind fun u => .ok (.bl u) else .ok (.bl false)
  | .or a b, ρ => (den call gl a ρ).bind fun x => (truth x).bind fun t => if t = true then .ok (.bl true) else (den call gl b ρ).bind fun y => (truth y).bind fun u => .ok (.bl u)
  | .not a, ρ => (den call gl a ρ).bind fun x => (truth x).bind fun t => .ok (.bl (!t))
  | .tup l, ρ => (dens call gl l ρ).bind fun ds => if ds.length ≤ MAXL then .ok (.tup ds) else .bad
  | .lst l, ρ => (dens call gl l ρ).bind fun ds => if ds.length ≤ MAXL then .ok (.lst ds) else .bad
  | .idx a b, ρ => (den call gl a ρ).bind fun x => (den call gl b ρ).bind fun y => idxD x y
  | .slice a lo hi, ρ => (den call gl a ρ).bind fun x => (deno call gl lo ρ).bind fun l => (deno call gl hi ρ).bind fun h => sliceD x l h
  | .rev a, ρ => (den call gl a ρ).bind fun x => match x with
    | .tup l => .ok (.tup l.reverse)
    | .lst l => .ok (.lst l.reverse)
    | _ => .bad
  | .blt f l, ρ => (dens call gl l ρ).bind fun ds => bltD f ds
  | .isi a t, ρ => (den call gl a ρ).bind fun x => if isFn x = true then .bad else .ok (.bl (isTy t x))
  | .meth m a l, ρ => (den call gl a ρ).bind fun x => if mthTy m x = true then (dens call gl l ρ).bind fun ds => mthD m x ds else .bad
  | .call i l, ρ => (dens call gl l ρ).bind fun ds => call.f call.k i ds
  | .callv i l, ρ => match getV ρ i with
    | .pu (.fn f) => (dens call gl l ρ).bind fun ds => call.f call.k f ds
    | _ => .bad
  | .comp own t it c e, ρ => (deni call gl it ρ).bind fun ds => (compD (fun d => (storeT t d (wipeV ρ own)).bind fun ρ2 => (denc call gl c ρ2).bind fun k => if k = true then (den call gl e ρ2).bind fun y => .ok (some y) else .ok none) ds).bind fun l =>
      if l.length ≤ MAXL then .ok (.lst l) else .bad
  | .dsub ks vs k, ρ => (dens call gl vs ρ).bind fun ds => (den call gl k ρ).bind fun x => dlook ks ds x
  | .dgt ks vs k d, ρ => (dens call gl vs ρ).bind fun ds => (den call gl k ρ).bind fun x => (den call gl d ρ).bind fun y => dlookD ks ds x y
  | .kin neg i a, ρ => match gl (1000 + i) with
    | some (.lst l) => (den call gl a ρ).bind fun x => kinD neg l x
    | _ => .bad
  | .kget i a, ρ => match gl (1000 + i) with
    | some (.lst l) => (den call gl a ρ).bind fun x => kgetD l x
    | _ => .bad
  | .told a, ρ => if 2 ≤ call.k then toldD (den call.low gl a ρ) else .bad
  | .oidx i a, ρ => match getV ρ i with
    | .own l => (den call gl a ρ).bind fun x => idxD (.lst l) x
    | _ => .bad
  | .olen i, ρ => match getV ρ i with
    | .own l => .ok (.int l.length)
    | _ => .bad
def dens (call : Cl) (gl : Nat → Option D) : Exs → Env → Res (List D)
  | .nil, _ => .ok []
  | .cons a r, ρ => (den call gl a ρ).bind fun x => (dens call gl r ρ).bind fun xs => .ok (x :: xs)
def deno (call : Cl) (gl : Nat → Option D) : Exo → Env → Res (Option Int)
  | .no, _ => .ok none
  | .yes a, ρ => (den call gl a ρ).bind partD
def denc (call : Cl) (gl : Nat → Option D) : Exo → Env → Res Bool
  | .no, _ => .ok true
  | .yes a, ρ => (den call gl a ρ).bind truth
def deni (call : Cl) (gl : Nat → Option D) : Itr_ → Env → Res (List D)
  | .of a, ρ => (den call gl a ρ).bind fun x => match x with
    | .tup l => .ok l
    | .lst l => .ok l
    | .scr l => .ok (l.map .int)
    | .str l => .ok (signs l)
    | _ => .bad
  | .range a, ρ => (den call gl a ρ).bind fun x => match x with
    | .int j => if -(2 ^ 62) ≤ j ∧ j < 2 ^ 62 then .ok (upFrom 0 j.toNat) else .bad
    | _ => .bad
  | .range2 a b, ρ => (den call gl a ρ).bind fun x => (den call gl b ρ).bind fun y => match x, y with
    | .int i, .int j => if -(2 ^ 62) ≤ i ∧ i < 2 ^ 62 ∧ -(2 ^ 62) ≤ j ∧ j < 2 ^ 62 then .ok (upFrom i (j - i).toNat) else .bad
    | _, _ => .bad
  | .zip a b, ρ => (den call gl a ρ).bind fun x => (den call gl b ρ).bind fun y => match x, y with
    | .lst l, .lst m => .ok (zipD l m)
    | _, _ => .bad
end

/-- how a statement ends -/
inductive Out where
  | nx (ρ : Env) | rt (d : D)
def whileN (c : Env → Res Bool) (b : Env → Res Out) : Nat → Env → Option (Res Out)
  | 0, _ => none
  | n + 1, ρ => match c ρ with
    | .ok true => (match b ρ with
      | .ok (.nx ρ') => whileN c b n ρ'
      | .ok (.rt d) => some (.ok (.rt d))
      | .exc k => some (.exc k)
      | .bad => some .bad)
    | .ok false => some (.ok (.nx ρ))
    | .exc k => some (.exc k)
    | .bad => some .bad
open Classical in
noncomputable def whileD (c : Env → Res Bool) (b : Env → Res Out) (ρ : Env) : Res Out :=
  if h : ∃ r n, whileN c b n ρ = some r then Classical.choose h else .bad
def forD (t : Tg) (body : Env → Res Out) : List D → Env → Res Out
  | [], ρ => .ok (.nx ρ)
  | d :: r, ρ => (storeT t d ρ).bind fun ρ1 => (body ρ1).bind fun o => match o with
    | .nx ρ2 => forD t body r ρ2
    | .rt x => .ok (.rt x)
/-- the parts of a handler's tuple -/
def itD (ρ : Env) : List (Sum Nat D) → Res (List D)
  | [] => .ok []
  | .inl i :: r => match getV ρ i with
    | .pu d => (itD ρ r).bind fun ds => .ok (d :: ds)
    | _ => .bad
  | .inr d :: r => (itD ρ r).bind fun ds => .ok (d :: ds)
def handD (ρ : Env) (c : Nat) : List (Nat × List (Sum Nat D)) → Res Out
  | [] => .exc c
  | (k, l) :: r => if k = c then (itD ρ l).bind fun ds => if ds.length ≤ MAXL then .ok (.rt (.tup ds)) else .bad else handD ρ c r
def tryD (t : Tg) (n : Nat) (hs : List (Nat × List (Sum Nat D))) (ρ : Env) : Res D → Res Out
  | .ok d => (storeT t d ρ).bind fun ρ' => .ok (.nx ρ')
  | .exc c => if c < n then handD ρ c hs else .bad
  | .bad => .bad
/-- a new list of the def's own -/
def ownS (i : Nat) (ρ : Env) (l : List D) : Res Out := if l.length ≤ MAXL then .ok (.nx (setV ρ i (.own l))) else .bad
def stoD (l : List D) (k d : D) : Res (List D) := match k with
  | .int j => match place l.length j with
    | some n => .ok (l.set n d)
    | none => .bad
  | _ => .bad
section
variable (call : Cl) (gl : Nat → Option D)
mutual
noncomputable def denS : Sm → Env → Res Out
  | .set t e, ρ => (den call gl e ρ).bind fun d => (storeT t d ρ).bind fun ρ' => .ok (.nx ρ')
  | .setc i e, ρ => (den call gl e ρ).bind fun d => (storeT (.name i) d ρ).bind fun ρ' => .ok (.nx ρ')
  | .ret e, ρ => (den call gl e ρ).bind fun d => .ok (.rt d)
  | .exp e, ρ => (den call gl e ρ).bind fun _ => .ok (.nx ρ)
  | .iff c a b, ρ => (den call gl c ρ).bind fun d => (truth d).bind fun t => if t = true then denSs a ρ else denSs b ρ
  | .while_ c b, ρ => whileD (fun ρ => (den call gl c ρ).bind truth) (fun ρ => denSs b ρ) ρ
  | .for_ t it b, ρ => (deni call gl it ρ).bind fun ds => forD t (fun ρ => denSs b ρ) ds ρ
  | .raise c, _ => .exc c
  | .pass, ρ => .ok (.nx ρ)
  | .trys t e n hs, ρ => tryD t n hs ρ (den call gl e ρ)
  | .ownD i l, ρ => (dens call gl l ρ).bind fun ds => ownS i ρ ds
  | .ownC i own t it c e, ρ => (deni call gl it ρ).bind fun ds => (compD (fun d => (storeT t d (wipeV ρ own)).bind fun ρ2 => (denc call gl c ρ2).bind fun k => if k = true then (den call gl e ρ2).bind fun y => .ok (some y) else .ok none) ds).bind fun l => ownS i ρ l
  | .ownL i a, ρ => (den call gl a ρ).bind fun x => (itemsD x).bind fun l => ownS i ρ l
  | .app i e, ρ => match getV ρ i with
    | .own l => (den call gl e ρ).bind fun d => if l.length < MAXL then .ok (.nx (setV ρ i (.own (l ++ [d])))) else .bad
    | _ => .bad
  | .sto i k e, ρ => match getV ρ i with
    | .own l => (den call gl e ρ).bind fun d => (den call gl k ρ).bind fun x => (stoD l x d).bind fun m => .ok (.nx (setV ρ i (.own m)))
    | _ => .bad
  | .frz i, ρ => match getV ρ i with
    | .own l => .ok (.nx (setV ρ i (.pu (.lst l))))
    | _ => .bad
  | .stuck, _ => .bad
noncomputable def denSs : Sms → Env → Res Out
  | .nil, ρ => .ok (.nx ρ)
  | .cons a r, ρ => (denS a ρ).bind fun o => match o with
    | .nx ρ' => denSs r ρ'
    | .rt d => .ok (.rt d)
end
end

/-- a def of the walk: how many parameters, how many names, its body -/
structure FD where
  pars : Nat
  slots : Nat
  body : Sms
def startV (n : Nat) (ds : List D) : Env := ds.map .pu ++ List.replicate (n - ds.length) .un
noncomputable def runF (call : Cl) (gl : Nat → Option D) (F : FD) (ds : List D) : Res D :=
  if ds.length = F.pars then (denSs call gl F.body (startV F.slots ds)).bind fun o => match o with
    | .nx _ => .ok .non
    | .rt d => .ok d
  else .bad
noncomputable def callT (gl : Nat → Option D) (fns : List FD) : Nat → Nat → Nat → List D → Res D
  | 0, _, _, _ => .bad
  | k + 1, j, i, ds => if j = k + 1 then (match fns[i]? with
    | some F => runF ⟨k, callT gl fns k⟩ gl F ds
    | none => .bad) else callT gl fns k j i ds
noncomputable def callN (gl : Nat → Option D) (fns : List FD) (k : Nat) : Nat → List D → Res D := callT gl fns k k
theorem callT_le {gl : Nat → Option D} {fns : List FD} {j : Nat} : ∀ {k : Nat}, j ≤ k → callT gl fns k j = callN gl fns j
  | 0, h => by
    obtain rfl : j = 0 := by omega
    rfl
  | k + 1, h => by
    by_cases e : j = k + 1
    · subst e; rfl
    · have ih := callT_le (gl := gl) (fns := fns) (j := j) (k := k) (by omega)
      funext i ds
      rw [← ih, callT, if_neg e]
theorem callN_succ {gl : Nat → Option D} {fns : List FD} {k i : Nat} {ds : List D} : callN gl fns (k + 1) i ds = match fns[i]? with
    | some F => runF ⟨k, callT gl fns k⟩ gl F ds
    | none => .bad := by
  unfold callN
  rw [callT, if_pos rfl]
end Ev
set_option Elab.async false
set_option linter.all false
set_option maxRecDepth 100000
set_option maxHeartbeats 1000000
/-! EvB: how data lie in the heap; the readings of the walk; what is composed of them. -/
namespace Ev
open PySem PySem.Spec PyProof.Rows L2

/-- what the program's top tells: the written part, the module's names, the defs' names, the tables, the errors' classes -/
structure Gx where
  K : PySem.W.Frag
  mg : Str → Option Value
  fN : List Str
  T : List (Addr × Str)
  cv : Nat → Value

mutual
def Rep (g : Gx) (R : Hp) : D → V → Prop
  | .non, v => v = .non
  | .bl b, v => v = .bl b
  | .int i, v => v = .int i
  | .str s, v => v = .str ⟨s.toArray⟩
  | .tup l, v => ∃ a vs, v = .ref a ∧ SqT g.K R a vs ∧ Reps g R l vs
  | .lst l, v => ∃ a vs, v = .ref a ∧ R a = some (.lst vs) ∧ Reps g R l vs
  | .fn i, v => ∃ a x, v = .ref a ∧ g.fN[i]? = some x ∧ g.mg x = some (.ref a)
  | .scr l, v => ∃ a, v = .ref a ∧ SqL g.K R a (l.map V.int)
def Reps (g : Gx) (R : Hp) : List D → List V → Prop
  | [], vs => vs = []
  | d :: r, vs => ∃ v s, vs = v :: s ∧ Rep g R d v ∧ Reps g R r s
end
section
variable {g : Gx} {R R' H H' : Hp}
theorem Rd.le {a : Addr} {u : HO} (h : ∀ b o, R b = some o → R' b = some o) (r : Rd R a u) : Rd R' a u := by
  rcases r with r | ⟨o, r⟩
  · exact .inl (h _ _ r)
  · exact .inr ⟨o, h _ _ r⟩
theorem SqT.le {K : PySem.W.Frag} {a : Addr} {xs : List V} (h : ∀ b o, R b = some o → R' b = some o) (r : SqT K R a xs) : SqT K R' a xs := by
  rcases r with r | r
  · exact .inl (Rd.le h r)
  · exact .inr r
theorem SqL.le {K : PySem.W.Frag} {a : Addr} {xs : List V} (h : ∀ b o, R b = some o → R' b = some o) (r : SqL K R a xs) : SqL K R' a xs := by
  rcases r with r | r
  · exact .inl (Rd.le h r)
  · exact .inr r
mutual
theorem Rep.le (h : ∀ b o, R b = some o → R' b = some o) : ∀ (d : D) (v : V), Rep g R d v → Rep g R' d v
  | .non, _, r => by simpa [Rep] using r
  | .bl _, _, r => by simpa [Rep] using r
  | .int _, _, r => by simpa [Rep] using r
  | .str _, _, r => by simpa [Rep] using r
  | .tup l, v, r => by
    simp only [Rep] at r ⊢
    obtain ⟨a, vs, e, s, q⟩ := r
    exact ⟨a, vs, e, SqT.le h s, Reps.le h l vs q⟩
  | .lst l, v, r => by
    simp only [Rep] at r ⊢
    obtain ⟨a, vs, e, s, q⟩ := r
    exact ⟨a, vs, e, h _ _ s, Reps.le h l vs q⟩
  | .fn _, _, r => by simpa [Rep] using r
  | .scr l, v, r => by
    simp only [Rep] at r ⊢
    obtain ⟨a, e, s⟩ := r
    exact ⟨a, e, SqL.le h s⟩
theorem Reps.le (h : ∀ b o, R b = some o → R' b = some o) : ∀ (ds : List D) (vs : List V), Reps g R ds vs → Reps g R' ds vs
  | [], _, r => by simpa [Reps] using r
  | d :: ds, vs, r => by
    simp only [Reps] at r ⊢
    obtain ⟨v, s, e, q1, q2⟩ := r
    exact ⟨v, s, e, Rep.le h d v q1, Reps.le h ds s q2⟩
end
theorem Reps.length : ∀ {ds : List D} {vs : List V}, Reps g R ds vs → ds.length = vs.length
  | [], vs, r => by simp only [Reps] at r; subst r; rfl
  | d :: ds, vs, r => by
    simp only [Reps] at r
    obtain ⟨v, s, e, _, q⟩ := r
    subst e
    simp [Reps.length q]
theorem Reps.get : ∀ {ds : List D} {vs : List V} {i : Nat} {d : D}, Reps g R ds vs → ds[i]? = some d → ∃ v, vs[i]? = some v ∧ Rep g R d v
  | [], _, _, _, _, h => by simp at h
  | d :: ds, vs, 0, d', r, h => by
    simp only [Reps] at r
    obtain ⟨v, s, e, q, _⟩ := r
    subst e
    simp at h
    subst h
    exact ⟨v, rfl, q⟩
  | d :: ds, vs, i + 1, d', r, h => by
    simp only [Reps] at r
    obtain ⟨v, s, e, _, q⟩ := r
    subst e
    obtain ⟨u, h1, h2⟩ := Reps.get (i := i) q (by simpa using h)
    exact ⟨u, by simpa using h1, h2⟩
theorem Reps.app : ∀ {ds es : List D} {vs us : List V}, Reps g R ds vs → Reps g R es us → Reps g R (ds ++ es) (vs ++ us)
  | [], es, vs, us, r, q => by
    simp only [Reps] at r
    subst r
    exact q
  | d :: ds, es, vs, us, r, q => by
    simp only [Reps] at r
    obtain ⟨v, s, e, h, t⟩ := r
    subst e
    simp only [List.cons_append, Reps]
    exact ⟨v, s ++ us, rfl, h, Reps.app t q⟩
theorem Reps.take : ∀ (n : Nat) {ds : List D} {vs : List V}, Reps g R ds vs → Reps g R (ds.take n) (vs.take n)
  | 0, _, _, _ => by simp [Reps]
  | n + 1, [], vs, r => by
    simp only [Reps] at r
    subst r
    simp [Reps]
  | n + 1, d :: ds, vs, r => by
    simp only [Reps] at r
    obtain ⟨v, s, e, h, t⟩ := r
    subst e
    simp only [List.take_succ_cons, Reps]
    exact ⟨v, _, rfl, h, Reps.take n t⟩
theorem Reps.drop : ∀ (n : Nat) {ds : List D} {vs : List V}, Reps g R ds vs → Reps g R (ds.drop n) (vs.drop n)
  | 0, _, _, r => by simpa using r
  | n + 1, [], vs, r => by
    simp only [Reps] at r
    subst r
    simp [Reps]
  | n + 1, d :: ds, vs, r => by
    simp only [Reps] at r
    obtain ⟨v, s, e, h, t⟩ := r
    subst e
    simpa using Reps.drop n t
theorem Reps.nil : Reps g R [] [] := by simp [Reps]
theorem Reps.cons {d : D} {ds : List D} {v : V} {vs : List V} (h : Rep g R d v) (t : Reps g R ds vs) : Reps g R (d :: ds) (v :: vs) := by
  simp only [Reps]
  exact ⟨v, vs, rfl, h, t⟩
theorem Reps.rev : ∀ {ds : List D} {vs : List V}, Reps g R ds vs → Reps g R ds.reverse vs.reverse
  | [], vs, r => by
    simp only [Reps] at r
    subst r
    simp [Reps]
  | d :: ds, vs, r => by
    simp only [Reps] at r
    obtain ⟨v, s, e, h, t⟩ := r
    subst e
    rw [List.reverse_cons, List.reverse_cons]
    exact Reps.app (Reps.rev t) (Reps.cons h Reps.nil)
/-- the frozen part R of what is tracked, H -/
structure Ok (g : Gx) (R H : Hp) : Prop where
  sub : ∀ a o, R a = some o → H a = some o
  tbl : ∀ a ps, R a ≠ some (.tbl ps)
  tabs : LamX.Tabs g.T H
structure Step (R H R' H' : Hp) : Prop where
  le : ∀ a o, R a = some o → R' a = some o
  ext : LamX.ExtN H H'
  new : ∀ a o, H a = some o → (∀ ps, o ≠ .tbl ps) → R a = none → R' a = none
theorem Step.refl : Step R H R H := ⟨fun _ _ h => h, LamX.ExtN.refl H, fun _ _ _ _ h => h⟩
theorem Step.trans {R2 H2 : Hp} (a : Step R H R' H') (b : Step R' H' R2 H2) : Step R H R2 H2 :=
  ⟨fun c o h => b.le c o (a.le c o h), a.ext.trans b.ext, fun c o h t n => b.new c o (a.ext c o h t) t (a.new c o h t n)⟩
/-- a new object of the frozen part -/
theorem Ok.lay {p : Addr} {o : HO} (ok : Ok g R H) (hp : H p = none) (nt : ∀ ps, o ≠ .tbl ps) : Ok g (upd R p o) (upd H p o) ∧ Step R H (upd R p o) (upd H p o) := by
  have hr : R p = none := by
    cases e : R p with
    | none => rfl
    | some u => rw [ok.sub p u e] at hp; cases hp
  have kk : ∀ a u, R a = some u → upd R p o a = some u := fun a u e => by
    rw [upd_ne (ne_of_none e hr)]; exact e
  have kh : ∀ a u, H a = some u → upd H p o a = some u := fun a u e => by
    rw [upd_ne (ne_of_none e hp)]; exact e
  refine ⟨⟨fun a u e => ?_, fun a ps e => ?_, ok.tabs.ext kh⟩, ⟨kk, LamX.ExtN.of kh, fun a u e t n => ?_⟩⟩
  · by_cases h : a = p
    · subst h; rw [upd_same] at e ⊢; exact e
    · rw [upd_ne h] at e ⊢; exact ok.sub a u e
  · by_cases h : a = p
    · subst h; rw [upd_same] at e; cases e; exact nt ps rfl
    · rw [upd_ne h] at e; exact ok.tbl a ps e
  · have h : a ≠ p := fun z => by subst z; rw [hp] at e; cases e
    rw [upd_ne h]; exact n
/-- a new object that is the def's own -/
theorem Ok.layOwn {p : Addr} {o : HO} (ok : Ok g R H) (hp : H p = none) : Ok g R (upd H p o) ∧ Step R H R (upd H p o) ∧ R p = none := by
  have hr : R p = none := by
    cases e : R p with
    | none => rfl
    | some u => rw [ok.sub p u e] at hp; cases hp
  have kh : ∀ a u, H a = some u → upd H p o a = some u := fun a u e => by
    rw [upd_ne (ne_of_none e hp)]; exact e
  refine ⟨⟨fun a u e => kh a u (ok.sub a u e), ok.tbl, ok.tabs.ext kh⟩, ⟨fun _ _ e => e, LamX.ExtN.of kh, fun a _ _ _ n => n⟩, hr⟩

/-- nothing is there, or a table -/
def Nt (H : Hp) (p : Addr) : Prop := ∀ o, H p = some o → ∃ ps, o = .tbl ps
theorem Nt.of {H : Hp} {p : Addr} (h : H p = none) : Nt H p := fun o e => by rw [h] at e; cases e
theorem Nt.back {R0 H0 R H : Hp} {p : Addr} (s : Step R0 H0 R H) (h : H p = none) : Nt H0 p := fun o e => by
  cases o with
  | tbl ps => exact ⟨ps, rfl⟩
  | _ =>
    exfalso
    have := s.ext _ _ e (fun ps z => by cases z)
    rw [h] at this
    cases this
theorem Nt.ne {H : Hp} {p a : Addr} {o : HO} (h : Nt H p) (e : H a = some o) (n : ∀ ps, o ≠ .tbl ps) : a ≠ p := fun z => by
  subst z
  obtain ⟨ps, q⟩ := h o e
  exact n ps q
/-- how the slots bear the names' data. H0: the heap at the def's entry -/
structure EnvR (g : Gx) (H0 R H : Hp) (σ : L2.St) (ρ : Env) : Prop where
  len : ρ.length = σ.length
  pu : ∀ i d, getV ρ i = .pu d → ∃ v, σ[i]? = some (some v) ∧ Rep g R d v
  own : ∀ i ds, getV ρ i = .own ds → ∃ a vs, σ[i]? = some (some (.ref a)) ∧ H a = some (.lst vs) ∧ R a = none ∧ Nt H0 a ∧ Reps g R ds vs
  two : ∀ i j ds es a, i ≠ j → getV ρ i = .own ds → getV ρ j = .own es → σ[i]? = some (some (.ref a)) → σ[j]? ≠ some (some (.ref a))
theorem EnvR.step {H0 : Hp} {σ : L2.St} {ρ : Env} (e : EnvR g H0 R H σ ρ) (s : Step R H R' H') : EnvR g H0 R' H' σ ρ := by
  refine ⟨e.len, fun i d h => ?_, fun i ds h => ?_, e.two⟩
  · obtain ⟨v, h1, h2⟩ := e.pu i d h
    exact ⟨v, h1, Rep.le s.le d v h2⟩
  · obtain ⟨a, vs, h1, h2, h3, h4, h5⟩ := e.own i ds h
    exact ⟨a, vs, h1, s.ext _ _ h2 (fun ps z => by cases z), s.new a _ h2 (fun ps z => by cases z) h3, h4, Reps.le s.le ds vs h5⟩
theorem getV_set : ∀ (ρ : Env) (i j : Nat) (x : SV), getV (setV ρ i x) j = if i = j then (if i < ρ.length then x else .un) else getV ρ j
  | [], i, j, x => by simp [setV, getV]
  | y :: r, 0, 0, x => by simp [setV, getV]
  | y :: r, 0, j + 1, x => by simp [setV, getV]
  | y :: r, i + 1, 0, x => by simp [setV, getV]
  | y :: r, i + 1, j + 1, x => by
    have := getV_set r i j x
    simp only [setV, getV, this, List.length_cons]
    by_cases h : i = j
    · subst h; simp
    · simp [h]
theorem setV_length : ∀ (ρ : Env) (i : Nat) (x : SV), (setV ρ i x).length = ρ.length
  | [], _, _ => rfl
  | _ :: _, 0, _ => rfl
  | _ :: r, i + 1, x => by simp [setV, setV_length r i x]
theorem EnvR.set {H0 : Hp} {σ : L2.St} {ρ : Env} {d : D} {v : V} (e : EnvR g H0 R H σ ρ) (i : Nat) (r : Rep g R d v) : EnvR g H0 R H (σ.set i (some v)) (setV ρ i (.pu d)) := by
  refine ⟨by rw [setV_length, List.length_set]; exact e.len, fun j d' h => ?_, fun j ds h => ?_, fun j k ds es a hjk h1 h2 h3 => ?_⟩
  · rw [getV_set] at h
    by_cases hij : i = j
    · subst hij
      rw [if_pos rfl] at h
      by_cases hl : i < ρ.length
      · rw [if_pos hl] at h
        cases h
        exact ⟨v, by rw [List.getElem?_set_self (by rw [← e.len]; exact hl)], r⟩
      · rw [if_neg hl] at h; cases h
    · rw [if_neg hij] at h
      rw [List.getElem?_set_ne hij]
      exact e.pu j d' h
  · rw [getV_set] at h
    by_cases hij : i = j
    · subst hij
      rw [if_pos rfl] at h
      by_cases hl : i < ρ.length
      · rw [if_pos hl] at h; cases h
      · rw [if_neg hl] at h; cases h
    · rw [if_neg hij] at h
      rw [List.getElem?_set_ne hij]
      exact e.own j ds h
  · have no : ∀ {m : Nat} {zs : List D}, getV (setV ρ i (.pu d)) m = .own zs → i ≠ m ∧ getV ρ m = .own zs := fun {m zs} h => by
      rw [getV_set] at h
      by_cases hij : i = m
      · rw [if_pos hij] at h
        split at h <;> cases h
      · rw [if_neg hij] at h
        exact ⟨hij, h⟩
    obtain ⟨n1, g1⟩ := no h1
    obtain ⟨n2, g2⟩ := no h2
    rw [List.getElem?_set_ne n1] at h3
    rw [List.getElem?_set_ne n2]
    exact e.two j k ds es a hjk g1 g2 h3
theorem EnvR.wipe1 {H0 : Hp} {σ : L2.St} {ρ : Env} (e : EnvR g H0 R H σ ρ) (i : Nat) : EnvR g H0 R H (σ.set i none) (setV ρ i .un) := by
  have no : ∀ {m : Nat} {x : SV}, x ≠ .un → getV (setV ρ i .un) m = x → i ≠ m ∧ getV ρ m = x := fun {m x} hx h => by
    rw [getV_set] at h
    by_cases hij : i = m
    · rw [if_pos hij] at h
      split at h <;> exact absurd h.symm hx
    · rw [if_neg hij] at h
      exact ⟨hij, h⟩
  refine ⟨by rw [setV_length, List.length_set]; exact e.len, fun j d' h => ?_, fun j ds h => ?_, fun j k ds es a hjk h1 h2 h3 => ?_⟩
  · obtain ⟨n, h⟩ := no (by intro z; cases z) h
    rw [List.getElem?_set_ne n]
    exact e.pu j d' h
  · obtain ⟨n, h⟩ := no (by intro z; cases z) h
    rw [List.getElem?_set_ne n]
    exact e.own j ds h
  · obtain ⟨n1, g1⟩ := no (by intro z; cases z) h1
    obtain ⟨n2, g2⟩ := no (by intro z; cases z) h2
    rw [List.getElem?_set_ne n1] at h3
    rw [List.getElem?_set_ne n2]
    exact e.two j k ds es a hjk g1 g2 h3
theorem EnvR.wipe {H0 : Hp} {σ : L2.St} {ρ : Env} (e : EnvR g H0 R H σ ρ) : ∀ vs : List Nat, EnvR g H0 R H (L2.wipe σ vs) (wipeV ρ vs)
  | [] => e
  | v :: vs => EnvR.wipe1 (EnvR.wipe e vs) v
end

/-! ### readings -/
/-- what is asked of an outcome: the value's wish, the errors' wish -/
def Wp {α : Type} (g : Gx) (W : WX) (σ : L2.St) (R H : Hp) (r : Res α) (Q : α → Hp → Hp → Prop) : Prop :=
  match r with
  | .ok a => ∀ R' H', Ok g R' H' → Step R H R' H' → Q a R' H'
  | .exc c => ∀ R' H', Ok g R' H' → Step R H R' H' → W (g.cv c) none σ H'
  | .bad => False
section
variable {g : Gx} {W : WX} {σ : L2.St} {R H : Hp} {α β : Type}
theorem Wp.bind {r : Res α} {f : α → Res β} {Q : β → Hp → Hp → Prop} (ok : Ok g R H) (h : Wp g W σ R H (r.bind f) Q) : Wp g W σ R H r fun a R' H' => Wp g W σ R' H' (f a) Q := by
  cases r with
  | ok a =>
    intro R1 H1 ok1 st1
    have h : Wp g W σ R H (f a) Q := h
    cases e : f a with
    | ok b =>
      rw [e] at h
      exact fun R2 H2 ok2 st2 => h R2 H2 ok2 (st1.trans st2)
    | exc c =>
      rw [e] at h
      exact fun R2 H2 ok2 st2 => h R2 H2 ok2 (st1.trans st2)
    | bad => rw [e] at h; exact h
  | exc c => exact h
  | bad => exact h
theorem Wp.mono {r : Res α} {Q Q' : α → Hp → Hp → Prop} (h : Wp g W σ R H r Q) (m : ∀ a R' H', Ok g R' H' → Step R H R' H' → Q a R' H' → Q' a R' H') : Wp g W σ R H r Q' := by
  cases r with
  | ok a => exact fun R' H' o s => m a R' H' o s (h R' H' o s)
  | exc c => exact h
  | bad => exact h
theorem Wp.here {a : α} {Q : α → Hp → Hp → Prop} (ok : Ok g R H) (h : Wp g W σ R H (.ok a) Q) : Q a R H := h R H ok Step.refl
end
/-- an expression's reading -/
def tD (g : Gx) (W : WX) (f : Env → Res D) : TE := fun σ H Q => ∃ R H0 ρ, Ok g R H ∧ EnvR g H0 R H σ ρ ∧ Wp g W σ R H (f ρ) fun d R' H' => ∀ v, Rep g R' d v → Q v H'
def tT (g : Gx) (W : WX) (f : Env → Res Bool) : TT := fun σ H Q => ∃ R H0 ρ, Ok g R H ∧ EnvR g H0 R H σ ρ ∧ Wp g W σ R H (f ρ) fun b R' H' => Q b H'
def tA (g : Gx) (W : WX) (f : Env → Res (List D)) : TA := fun σ H Q => ∃ R H0 ρ, Ok g R H ∧ EnvR g H0 R H σ ρ ∧ Wp g W σ R H (f ρ) fun ds R' H' => ∀ vs, Reps g R' ds vs → Q vs H'
theorem PE.mono {X : Cx} {e : Expr} {t t' : TE} (h : PE X e t) (m : ∀ (pins : List (Addr × Obj)) (s : Shared) (σ : L2.St) (H : Hp) (Q : VK), Inv X pins σ H s → t' σ H Q → t σ H Q) : PE X e t' :=
  ⟨fun pins s σ H Q I q => h.run pins s σ H Q I (m pins s σ H Q I q)⟩
theorem PT.mono {X : Cx} {e : Expr} {t t' : TT} (h : PT X e t) (m : ∀ (pins : List (Addr × Obj)) (s : Shared) (σ : L2.St) (H : Hp) (Q : Bool → Hp → Prop), Inv X pins σ H s → t' σ H Q → t σ H Q) : PT X e t' :=
  ⟨fun pins s σ H Q I q => h.run pins s σ H Q I (m pins s σ H Q I q)⟩
theorem PA.mono {X : Cx} {e : List Expr} {t t' : TA} (h : PA X e t) (m : ∀ (σ : L2.St) (H : Hp) (Q : List V → Hp → Prop), t' σ H Q → t σ H Q) : PA X e t' :=
  ⟨fun pos pins s σ H Q I q => h.run pos pins s σ H Q I (m σ H Q q)⟩
end Ev
set_option Elab.async false
set_option linter.all false
set_option maxRecDepth 100000
set_option maxHeartbeats 2000000
/-! EvC: the operations keep what the language tells of them. -/
namespace Ev
open PySem PySem.Spec PyProof.Rows L2

/-- two data in, one out -/
def rK (g : Gx) (k : D → D → Res D) : R2 := fun x y H Q => ∃ R d1 d2 d, Ok g R H ∧ Rep g R d1 x ∧ Rep g R d2 y ∧ k d1 d2 = .ok d ∧ ∀ R' H' w, Ok g R' H' → Step R H R' H' → Rep g R' d w → Q w H'
def NoExc (k : D → D → Res D) : Prop := ∀ x y c, k x y ≠ .exc c
theorem tOp_of {g : Gx} {W : WX} {f h : Env → Res D} {k : D → D → Res D} (nk : NoExc k) {σ : L2.St} {H : Hp} {Q : VK} (q : tD g W (fun ρ => (f ρ).bind fun x => (h ρ).bind fun y => k x y) σ H Q) : tOp (rK g k) (tD g W f) (tD g W h) σ H Q := by
  obtain ⟨R, H0, ρ, ok, en, w⟩ := q
  refine ⟨R, H0, ρ, ok, en, (Wp.bind ok w).mono fun x R1 H1 ok1 st1 w1 v1 r1 => ⟨R1, H0, ρ, ok1, en.step st1, (Wp.bind ok1 w1).mono fun y R2 H2 ok2 st2 w2 v2 r2 => ?_⟩⟩
  cases e : k x y with
  | ok d =>
    rw [e] at w2
    exact ⟨R2, x, y, d, ok2, Rep.le st2.le x v1 r1, r2, e, fun R' H' v o s r => w2 R' H' o s v r⟩
  | exc c => exact absurd e (nk x y c)
  | bad => rw [e] at w2; exact w2.elim
section
variable {X : Cx} {g : Gx} {W : WX} {a b c : Expr} {f h k' : Env → Res D} {k k2 : D → D → Res D} {pos : Pos}
theorem pd_bin {op : Operator} (ho : OpR X (binaryOp op) (rK g k)) (nk : NoExc k) (ha : PE X a (tD g W f)) (hb : PE X b (tD g W h)) : PE X (.BinOp a op b pos) (tD g W fun ρ => (f ρ).bind fun x => (h ρ).bind fun y => k x y) :=
  PE.mono (pe_op ho ha hb) fun _ _ _ _ _ _ q => tOp_of nk q
theorem pd_cmp {op : CmpOp} (ho : OpR X (compareOp op) (rK g k)) (nk : NoExc k) (hm : behindInMarks op b = false) (ha : PE X a (tD g W f)) (hb : PE X b (tD g W h)) : PE X (.Compare a [op] [b] pos) (tD g W fun ρ => (f ρ).bind fun x => (h ρ).bind fun y => k x y) :=
  PE.mono (pe_cmpR ho ha hb hm) fun _ _ _ _ _ _ q => tOp_of nk q
/-- a test of a value that is a truth -/
theorem tTest_of {t : TE} {f : Env → Res D} (m : ∀ σ H Q, tD g W f σ H Q → t σ H Q) {σ : L2.St} {H : Hp} {Q : Bool → Hp → Prop} (q : tT g W (fun ρ => (f ρ).bind truth) σ H Q) : tTest t σ H Q := by
  obtain ⟨R, H0, ρ, ok, en, w⟩ := q
  refine m _ _ _ ⟨R, H0, ρ, ok, en, ?_⟩
  refine (Wp.bind ok w).mono fun d R1 H1 ok1 st1 w1 v r => ?_
  cases d with
  | bl b =>
    simp only [Rep] at r
    subst r
    exact ⟨b, rfl, w1 R1 H1 ok1 Step.refl⟩
  | _ => exact (show False from w1).elim
theorem pt_cmpD {op : CmpOp} (ho : OpR X (compareOp op) (rK g k)) (nk : NoExc k) (hm : behindInMarks op b = false) (ha : PE X a (tD g W f)) (hb : PE X b (tD g W h)) : PT X (.Compare a [op] [b] pos) (tT g W fun ρ => ((f ρ).bind fun x => (h ρ).bind fun y => k x y).bind truth) :=
  PT.mono (pt_cmpR ho ha hb hm) fun _ _ _ _ _ _ q => tTest_of (t := tOp (rK g k) (tD g W f) (tD g W h)) (fun _ _ _ q => tOp_of nk q) q
/-- .. where the test is the value's -/
theorem pt_valD {e : Expr} (he : PE X e (tD g W f)) (hx : ∀ whole, isTrue e X.env whole = (do let v ← whole; standAt e.pos; holding [v] (truthy v))) : PT X e (tT g W fun ρ => (f ρ).bind truth) :=
  PT.mono (pt_val he hx) fun _ _ _ _ _ _ q => tTest_of (t := tD g W f) (fun _ _ _ q => q) q
theorem tChain_of (nk : NoExc k) (nk2 : NoExc k2) {σ : L2.St} {H : Hp} {Q : VK} (q : tD g W (fun ρ => (f ρ).bind fun x => (h ρ).bind fun y => (k x y).bind fun d => (truth d).bind fun t => if t = true then (k' ρ).bind fun z => k2 y z else .ok (.bl false)) σ H Q) :
    tChain (rK g k) (rK g k2) (tD g W f) (tD g W h) (tD g W k') σ H Q := by
  obtain ⟨R, H0, ρ, ok, en, w⟩ := q
  refine ⟨R, H0, ρ, ok, en, (Wp.bind ok w).mono fun x R1 H1 ok1 st1 w1 v1 r1 => ⟨R1, H0, ρ, ok1, en.step st1, (Wp.bind ok1 w1).mono fun y R2 H2 ok2 st2 w2 v2 r2 => ?_⟩⟩
  cases e : k x y with
  | ok d =>
    rw [e] at w2
    have en2 := (en.step st1).step st2
    refine ⟨R2, x, y, d, ok2, Rep.le st2.le x v1 r1, r2, e, fun R3 H3 v o s r => ?_⟩
    cases d with
    | bl b =>
      simp only [Rep] at r
      subst r
      refine ⟨b, rfl, ?_⟩
      cases b with
      | true =>
        rw [if_pos rfl]
        have w3 : Wp g W σ R2 H2 ((k' ρ).bind fun z => k2 y z) _ := w2
        refine ⟨R3, H0, ρ, o, en2.step s, ?_⟩
        have w4 := Wp.bind ok2 w3
        cases e3 : k' ρ with
        | ok z =>
          rw [e3] at w4
          intro R4 H4 o4 s4 v4 r4
          have w5 : Wp g W σ R4 H4 (k2 y z) fun d R' H' => ∀ (v : V), Rep g R' d v → Q v H' := w4 R4 H4 o4 (s.trans s4)
          cases e5 : k2 y z with
          | ok d =>
            rw [e5] at w5
            exact ⟨R4, y, z, d, o4, Rep.le s4.le _ _ (Rep.le s.le _ _ r2), r4, e5, fun R' H' v o s r => w5 R' H' o s v r⟩
          | exc c => exact absurd e5 (nk2 y z c)
          | bad => rw [e5] at w5; exact w5.elim
        | exc c =>
          rw [e3] at w4
          exact fun R4 H4 o4 s4 => w4 R4 H4 o4 (s.trans s4)
        | bad => rw [e3] at w4; exact w4.elim
      | false =>
        rw [if_neg Bool.false_ne_true]
        exact w2 R3 H3 o s _ (by simp [Rep])
    | _ => exact (show False from w2).elim
  | exc c => exact absurd e (nk x y c)
  | bad => rw [e] at w2; exact w2.elim
theorem pd_chain {op op' : CmpOp} (ho : OpR X (compareOp op) (rK g k)) (nk : NoExc k) (ho2 : OpR X (compareOp op') (rK g k2)) (nk2 : NoExc k2) (hm : lastMarks [op, op'] [b, c] = false) (ha : PE X a (tD g W f)) (hb : PE X b (tD g W h)) (hc : PE X c (tD g W k')) :
    PE X (.Compare a [op, op'] [b, c] pos) (tD g W fun ρ => (f ρ).bind fun x => (h ρ).bind fun y => (k x y).bind fun d => (truth d).bind fun t => if t = true then (k' ρ).bind fun z => k2 y z else .ok (.bl false)) :=
  PE.mono (pe_chain ho ho2 ha hb hc hm) fun _ _ _ _ _ _ q => tChain_of nk nk2 q
theorem pt_chainD {op op' : CmpOp} (ho : OpR X (compareOp op) (rK g k)) (nk : NoExc k) (ho2 : OpR X (compareOp op') (rK g k2)) (nk2 : NoExc k2) (hm : lastMarks [op, op'] [b, c] = false) (ha : PE X a (tD g W f)) (hb : PE X b (tD g W h)) (hc : PE X c (tD g W k')) :
    PT X (.Compare a [op, op'] [b, c] pos) (tT g W fun ρ => ((f ρ).bind fun x => (h ρ).bind fun y => (k x y).bind fun d => (truth d).bind fun t => if t = true then (k' ρ).bind fun z => k2 y z else .ok (.bl false)).bind truth) :=
  PT.mono (pt_chain ho ho2 ha hb hc hm) fun _ _ _ _ _ _ q => tTest_of (t := tChain (rK g k) (rK g k2) (tD g W f) (tD g W h) (tD g W k')) (fun _ _ _ q => tChain_of nk nk2 q) q
end

/-! ### the operators -/
theorem big_log {i : Int} (h : -BIG < i ∧ i < BIG) : i.natAbs.log2 < 1920 := by
  have h2 : i.natAbs < 2 ^ 1920 := by
    have h3 : (BIG : Int) < 2 ^ 1920 := by unfold BIG; decide +kernel
    have h4 : ((2 : Int) ^ 1920) = ((2 ^ 1920 : Nat) : Int) := by norm_cast
    rw [h4] at h3
    obtain ⟨h5, h6⟩ := h
    generalize (2 ^ 1920 : Nat) = N at *
    omega
  exact PySem.Flt.log2_lt_of (by decide) h2
theorem binD_noexc (o : BOp) : NoExc (binD o) := fun x y c h => by
  unfold binD at h
  split at h <;> first | (cases h; done) | (split at h <;> cases h)
theorem cmpD_noexc (o : COp) : NoExc (cmpD o) := fun x y c h => by
  unfold cmpD at h
  split at h <;> first | (cases h; done) | (split at h <;> first | (cases h; done) | (split at h <;> cases h))
theorem str_app (s t : List Nat) : (⟨s.toArray⟩ : Str) ++ ⟨t.toArray⟩ = ⟨(s ++ t).toArray⟩ := by
  show Str.append _ _ = _
  unfold Str.append
  simp
theorem str_len (s : List Nat) : (⟨s.toArray⟩ : Str).length = s.length := by
  show (s.toArray).size = _
  simp
/-! what the operations tell, from behind -/
theorem sub_inv {x y d : D} (h : binD .sub x y = .ok d) : ∃ i j, x = .int i ∧ y = .int j ∧ d = .int (i - j) := by
  cases x <;> cases y <;> simp [binD] at h
  exact ⟨_, _, rfl, rfl, h.symm⟩
theorem add_inv {x y d : D} (h : binD .add x y = .ok d) : (∃ i j, x = .int i ∧ y = .int j ∧ d = .int (i + j)) ∨ (∃ s t, x = .str s ∧ y = .str t ∧ s.length + t.length ≤ MAXL ∧ d = .str (s ++ t)) ∨
    (∃ s t, x = .tup s ∧ y = .tup t ∧ s.length + t.length ≤ MAXL ∧ d = .tup (s ++ t)) ∨ (∃ s t, x = .lst s ∧ y = .lst t ∧ s.length + t.length ≤ MAXL ∧ d = .lst (s ++ t)) := by
  cases x <;> cases y <;> simp [binD] at h
  · exact .inl ⟨_, _, rfl, rfl, h.symm⟩
  all_goals split at h <;> simp at h
  · exact .inr (.inl ⟨_, _, rfl, rfl, by assumption, h.symm⟩)
  · exact .inr (.inr (.inl ⟨_, _, rfl, rfl, by assumption, h.symm⟩))
  · exact .inr (.inr (.inr ⟨_, _, rfl, rfl, by assumption, h.symm⟩))
theorem mul_inv {x y d : D} (h : binD .mul x y = .ok d) : (∃ i j, x = .int i ∧ y = .int j ∧ MulOk i j ∧ d = .int (i * j)) ∨ (∃ s j, x = .str s ∧ y = .int j ∧ (-1000000 ≤ j ∧ j ≤ 1000000 ∧ s.length * j.toNat ≤ MAXL) ∧ d = .str (reps j.toNat s)) ∨
    (∃ s j, x = .lst s ∧ y = .int j ∧ (-1000000 ≤ j ∧ j ≤ 1000000 ∧ s.length * j.toNat ≤ MAXL) ∧ d = .lst (reps j.toNat s)) ∨ (∃ s j, x = .tup s ∧ y = .int j ∧ (-1000 ≤ j ∧ j ≤ 1000 ∧ (s.length ≤ 1000 ∨ j ≤ 1)) ∧ d = .tup (reps j.toNat s)) := by
  cases x <;> cases y <;> simp only [binD] at h <;> first | (cases h; done) | skip
  all_goals (split at h <;> first | (cases h; done) | skip)
  · cases h; exact .inl ⟨_, _, rfl, rfl, by assumption, rfl⟩
  · cases h; exact .inr (.inl ⟨_, _, rfl, rfl, by assumption, rfl⟩)
  · cases h; exact .inr (.inr (.inr ⟨_, _, rfl, rfl, by assumption, rfl⟩))
  · cases h; exact .inr (.inr (.inl ⟨_, _, rfl, rfl, by assumption, rfl⟩))
theorem fdiv_inv {x y d : D} (h : binD .fdiv x y = .ok d) : ∃ i j, x = .int i ∧ y = .int j ∧ DivOk j ∧ d = .int (i / j) := by
  cases x <;> cases y <;> simp [binD] at h
  all_goals split at h <;> simp at h
  exact ⟨_, _, rfl, rfl, by assumption, h.symm⟩
theorem mod_inv {x y d : D} (h : binD .mod x y = .ok d) : ∃ i j, x = .int i ∧ y = .int j ∧ 0 < j ∧ d = .int (i % j) := by
  cases x <;> cases y <;> simp [binD] at h
  all_goals split at h <;> simp at h
  exact ⟨_, _, rfl, rfl, by assumption, h.symm⟩
theorem MulOk.ok {i j : Int} (h : MulOk i j) : CMul i j ∨ CMulW i j := by
  rcases h with h | h | ⟨h1, h2⟩
  · exact .inl (.inl h)
  · exact .inl (.inr h)
  · refine .inr ?_
    have := big_log h1
    have := big_log h2
    unfold CMulW
    omega
theorem DivOk.ok {j : Int} (h : DivOk j) (i : Int) : CDivW i j := by
  refine ⟨h.1, ?_⟩
  have := big_log (i := j) ⟨by have := h.1; have : (0 : Int) < BIG := by (unfold BIG; decide +kernel)
                               omega, h.2⟩
  omega
section
variable {X : Cx} {g : Gx}
theorem ok_sub : OpR X (binaryOp .Sub) (rK g (binD .sub)) := by
  intro pins s σ H x y v u Q I rx ry ⟨R, d1, d2, d, ok, r1, r2, e, q⟩
  obtain ⟨i, j, rfl, rfl, rfl⟩ := sub_inv e
  simp only [Rep] at r1 r2
  exact op_sub pins s σ H x y v u Q I rx ry ⟨_, _, r1, r2, q R H _ ok Step.refl (by simp [Rep])⟩
theorem ok_fdiv : OpR X (binaryOp .FloorDiv) (rK g (binD .fdiv)) := by
  intro pins s σ H x y v u Q I rx ry ⟨R, d1, d2, d, ok, r1, r2, e, q⟩
  obtain ⟨i, j, rfl, rfl, hj, rfl⟩ := fdiv_inv e
  simp only [Rep] at r1 r2
  exact op_fdivW pins s σ H x y v u Q I rx ry ⟨_, _, r1, r2, hj.ok i, q R H _ ok Step.refl (by simp [Rep])⟩
theorem ok_pow : OpR X (binaryOp .Pow) (rK g (binD .pow)) := by
  intro pins s σ H x y v u Q I rx ry ⟨R, d1, d2, d, ok, r1, r2, e, q⟩
  cases d1 <;> cases d2 <;> simp only [binD] at e <;> first | (cases e; done) | skip
  split at e <;> first | (cases e; done) | skip
  rename_i hc
  cases e
  simp only [Rep] at r1 r2
  exact op_pow pins s σ H x y v u Q I rx ry ⟨_, _, r1, r2, ⟨hc.1, by omega, hc.2.2⟩, q R H _ ok Step.refl (by simp [Rep])⟩
theorem ok_mod : OpR X (binaryOp .Mod) (rK g (binD .mod)) := by
  intro pins s σ H x y v u Q I rx ry ⟨R, d1, d2, d, ok, r1, r2, e, q⟩
  obtain ⟨i, j, rfl, rfl, hj, rfl⟩ := mod_inv e
  simp only [Rep] at r1 r2
  exact op_mod pins s σ H x y v u Q I rx ry ⟨_, _, r1, r2, hj, q R H _ ok Step.refl (by simp [Rep])⟩
theorem ok_add (hK : g.K = X.K) : OpR X (binaryOp .Add) (rK g (binD .add)) := by
  intro pins s σ H x y v u Q I rx ry ⟨R, d1, d2, d, ok, r1, r2, e, q⟩
  rcases add_inv e with ⟨i, j, rfl, rfl, rfl⟩ | ⟨i, j, rfl, rfl, hz, rfl⟩ | ⟨i, j, rfl, rfl, hz, rfl⟩ | ⟨i, j, rfl, rfl, hz, rfl⟩
  · simp only [Rep] at r1 r2
    exact op_add pins s σ H x y v u Q I rx ry ⟨_, _, r1, r2, q R H _ ok Step.refl (by simp [Rep])⟩
  · simp only [Rep] at r1 r2
    refine op_add_str pins s σ H x y v u Q I rx ry ⟨_, _, r1, r2, by rw [str_len, str_len, ← maxl_line]; exact hz, q R H _ ok Step.refl ?_⟩
    simp only [Rep]
    rw [str_app]
  · simp only [Rep] at r1 r2
    obtain ⟨a, vs, e1, s1, q1⟩ := r1
    obtain ⟨b, us, e2, s2, q2⟩ := r2
    rw [hK] at s1 s2
    have l1 := q1.length
    have l2 := q2.length
    refine op_catA pins s σ H x y v u Q I rx ry ⟨a, b, vs, us, e1, e2, SqT.le ok.sub s1, SqT.le ok.sub s2, by rw [← l1, ← l2, ← maxl_line]; exact hz, fun z => ?_, fun z1 z2 => ?_, fun z1 z2 p np => ?_⟩
    · subst z
      have : i = [] := List.eq_nil_of_length_eq_zero (by simpa using l1)
      subst this
      exact q R H _ ok Step.refl (by simp only [Rep, List.nil_append]; exact ⟨b, us, rfl, by rw [hK]; exact s2, q2⟩)
    · subst z2
      have : j = [] := List.eq_nil_of_length_eq_zero (by simpa using l2)
      subst this
      exact q R H _ ok Step.refl (by simp only [Rep, List.append_nil]; exact ⟨a, vs, rfl, by rw [hK]; exact s1, q1⟩)
    · obtain ⟨ok', st⟩ := ok.lay (o := .tup (vs ++ us)) np (fun ps z => by cases z)
      refine q _ _ _ ok' st ?_
      simp only [Rep]
      exact ⟨p, vs ++ us, rfl, SqT.of upd_same, Reps.app (Reps.le st.le _ _ q1) (Reps.le st.le _ _ q2)⟩
  · simp only [Rep] at r1 r2
    obtain ⟨a, vs, e1, s1, q1⟩ := r1
    obtain ⟨b, us, e2, s2, q2⟩ := r2
    have l1 := q1.length
    have l2 := q2.length
    refine op_cat pins s σ H x y v u Q I rx ry ⟨a, b, vs, us, e1, e2, ok.sub _ _ s1, ok.sub _ _ s2, by rw [← l1, ← l2, ← maxl_line]; exact hz, fun p np => ?_⟩
    obtain ⟨ok', st⟩ := ok.lay (o := .lst (vs ++ us)) np (fun ps z => by cases z)
    refine q _ _ _ ok' st ?_
    simp only [Rep]
    exact ⟨p, vs ++ us, rfl, upd_same, Reps.app (Reps.le st.le _ _ q1) (Reps.le st.le _ _ q2)⟩
theorem Reps.rep {R : Hp} {l : List D} {vs : List V} (h : Reps g R l vs) : ∀ n : Nat, Reps g R (reps n l) (List.replicate n vs).flatten
  | 0 => by simp [reps, Reps]
  | n + 1 => by
    unfold reps
    rw [List.replicate_succ, List.flatten_cons, List.replicate_succ, List.flatten_cons]
    exact Reps.app h (Reps.rep h n)
theorem tuple_mulS (l : Addr) (items : Array Value) (n : Nat) (dd : Option Addr) (sl : Array (Option Value)) (x : Int) (u : Tok) (c0 : (decide (x < -(2 ^ 63)) || decide (x ≥ 2 ^ 63)) = false) (c1 : (items.isEmpty || x == 1) = true) :
    Meets (Builtin.«tuple.__mul__» ⟨[.ref l, .int x u], []⟩) (fun _ R s => s.heap.get? l = some { cls := .type "tuple", dict := dd, data := .seq items n, slots := sl } ∧ R (.ok (.ret (Value.ref l))) s) :=
  .of_wp fun prog w A R s h => by
    obtain ⟨hp, g, d, tk, os⟩ := s
    obtain ⟨hl, h⟩ := h
    have f1 := AutoSeq1.idx_int
    wp_walk using wpAny_loadPart' hl
    repeat (first
      | (refine wpAny_ite_false (decide_eq_false (by rw [c0]; exact Bool.false_ne_true)) ?_; wp_walk using wpAny_loadPart' hl)
      | (refine wpAny_ite_true (decide_eq_true c1) ?_; wp_walk using wpAny_loadPart' hl))
    exact ⟨_, rfl, h⟩
theorem tuple_mulZ (l : Addr) (items : Array Value) (n : Nat) (dd : Option Addr) (sl : Array (Option Value)) (x : Int) (u : Tok) (c0 : (decide (x < -(2 ^ 63)) || decide (x ≥ 2 ^ 63)) = false) (c1 : (items.isEmpty || x == 1) = false) (c2 : (decide (x ≤ 0) || items.isEmpty) = true) :
    Meets (Builtin.«tuple.__mul__» ⟨[.ref l, .int x u], []⟩) (fun _ R s => s.heap.get? l = some { cls := .type "tuple", dict := dd, data := .seq items n, slots := sl } ∧
      R (.ok (.ret (Value.ref s.heap.objs.size))) { s with heap := s.heap.push { cls := Value.type "tuple", data := Data.seq #[] }, toks := s.toks }) :=
  .of_wp fun prog w A R s h => by
    obtain ⟨hp, g, d, tk, os⟩ := s
    obtain ⟨hl, h⟩ := h
    have f1 := AutoSeq1.idx_int
    wp_walk using wpAny_loadPart' hl
    repeat (first
      | (refine wpAny_ite_false (decide_eq_false (by rw [c0]; exact Bool.false_ne_true)) ?_; wp_walk using wpAny_loadPart' hl)
      | (refine wpAny_ite_false (decide_eq_false (by rw [c1]; exact Bool.false_ne_true)) ?_; wp_walk using wpAny_loadPart' hl)
      | (refine wpAny_ite_true (decide_eq_true c2) ?_; wp_walk using wpAny_loadPart' hl))
    exact ⟨_, rfl, h⟩
def rRepT1 (K : PySem.W.Frag) : R2 := fun x y H Q => ∃ l k xs, x = .ref l ∧ y = .int k ∧ SqT K H l xs ∧ (xs = [] ∨ k = 1) ∧ -1000 ≤ k ∧ k ≤ 1000 ∧ Q (.ref l) H
theorem op_repT1 : OpR X (binaryOp .Mult) (rRepT1 X.K) := by
  intro pins s σ H x y v u Q I rx ry h
  obtain ⟨l, k, xs, rfl, rfl, hT, h1, h2, h3, q⟩ := h
  cases rx
  obtain ⟨t, rfl⟩ := ry
  obtain ⟨its, r, ⟨⟨cls, dd, data, sl⟩, ho, hc, n, hd⟩, hs⟩ := I.tuple hT
  simp only at hc hd
  subst hc hd
  have hle : its.length = xs.length := r.length.symm
  have c0 : (decide (k < -(2 ^ 63)) || decide (k ≥ 2 ^ 63)) = false := by
    rw [decide_eq_false (by omega), decide_eq_false (by omega)] <;> rfl
  have c1 : (its.toArray.isEmpty || k == 1) = true := by
    rcases h1 with rfl | rfl
    · rw [List.length_nil] at hle
      rw [List.length_eq_zero_iff.mp hle]
      rfl
    · simp
  exact wpAny_binaryOp_repeat_ref (T := "tuple") (U := "int") (by decide) ⟨_, ho, rfl⟩ (fun s' => typeIs_int s' k t) noFill_tuple_mul F.fills_int_mul F.slot_int_rmul repeat_tuple F.slot_int_index.lookup
    (call_meets F.slot_int_rmul (typeIs_int s k t) F.entry_int_rmul (F.args_int_rmul_2 _ _) (int_rmul_tuple k t l its.toArray n dd sl)
      ⟨ho, rfl, ⟨_, ho, rfl⟩, call_meets F.slot_tuple_mul ⟨_, ho, rfl⟩ F.entry_tuple_mul (F.args_tuple_mul_2 _ _) (tuple_mulS l its.toArray n dd sl k t c0 c1) ⟨ho, ⟨.ref l, H, I, rfl, q⟩⟩⟩)
def rRepT0 (K : PySem.W.Frag) : R2 := fun x y H Q => ∃ l k xs, x = .ref l ∧ y = .int k ∧ SqT K H l xs ∧ xs ≠ [] ∧ -1000 ≤ k ∧ k ≤ 0 ∧ ∀ p, H p = none → Q (.ref p) (upd H p (.tup []))
theorem op_repT0 : OpR X (binaryOp .Mult) (rRepT0 X.K) := by
  intro pins s σ H x y v u Q I rx ry h
  obtain ⟨l, k, xs, rfl, rfl, hT, h1, h2, h3, q⟩ := h
  cases rx
  obtain ⟨t, rfl⟩ := ry
  obtain ⟨its, r, ⟨⟨cls, dd, data, sl⟩, ho, hc, n, hd⟩, hs⟩ := I.tuple hT
  simp only at hc hd
  subst hc hd
  have hle : its.length = xs.length := r.length.symm
  have hn : its ≠ [] := fun e => h1 (by
    rw [e] at hle
    exact List.eq_nil_of_length_eq_zero hle.symm)
  have hi : its.toArray.isEmpty = false := by
    cases its with
    | nil => exact absurd rfl hn
    | cons a b => rfl
  have c0 : (decide (k < -(2 ^ 63)) || decide (k ≥ 2 ^ 63)) = false := by
    rw [decide_eq_false (by omega), decide_eq_false (by omega)] <;> rfl
  have c1 : (its.toArray.isEmpty || k == 1) = false := by
    rw [hi, Bool.false_or]
    exact beq_eq_false_iff_ne.mpr (by omega)
  have c2 : (decide (k ≤ 0) || its.toArray.isEmpty) = true := by
    rw [decide_eq_true h3, Bool.true_or]
  refine wpAny_binaryOp_repeat_ref (T := "tuple") (U := "int") (by decide) ⟨_, ho, rfl⟩ (fun s' => typeIs_int s' k t) noFill_tuple_mul F.fills_int_mul F.slot_int_rmul repeat_tuple F.slot_int_index.lookup
    (call_meets F.slot_int_rmul (typeIs_int s k t) F.entry_int_rmul (F.args_int_rmul_2 _ _) (int_rmul_tuple k t l its.toArray n dd sl)
      ⟨ho, rfl, ⟨_, ho, rfl⟩, call_meets F.slot_tuple_mul ⟨_, ho, rfl⟩ F.entry_tuple_mul (F.args_tuple_mul_2 _ _) (tuple_mulZ l its.toArray n dd sl k t c0 c1 c2) ⟨ho, ?_⟩⟩)
  refine ⟨.ref s.heap.objs.size, _, I.laid (t' := s.toks) (o := .tup []) (fun b ob q => Heap.get?_push_of_some _ q) (Nat.le_refl _) ?_, rfl, q _ (I.hok.fresh (Nat.le_refl _))⟩
  exact ⟨by rw [sizeLine_eq]; simp, [], .nil, IsTup.new _ _⟩
theorem ok_mul (hK : g.K = X.K) : OpR X (binaryOp .Mult) (rK g (binD .mul)) := by
  intro pins s σ H x y v u Q I rx ry ⟨R, d1, d2, d, ok, r1, r2, e, q⟩
  rcases mul_inv e with ⟨i, j, rfl, rfl, hm, rfl⟩ | ⟨z, j, rfl, rfl, ⟨h0, h1, hz⟩, rfl⟩ | ⟨z, j, rfl, rfl, ⟨h0, h1, hz⟩, rfl⟩ | ⟨z, j, rfl, rfl, ⟨h0, h1, h2⟩, rfl⟩
  · simp only [Rep] at r1 r2
    rcases hm.ok with c | c
    · exact op_mul pins s σ H x y v u Q I rx ry ⟨_, _, r1, r2, c, q R H _ ok Step.refl (by simp [Rep])⟩
    · exact op_mulW pins s σ H x y v u Q I rx ry ⟨_, _, r1, r2, c, q R H _ ok Step.refl (by simp [Rep])⟩
  · simp only [Rep] at r1 r2
    subst r1
    subst r2
    obtain ⟨t, rfl⟩ := rx
    obtain ⟨t', rfl⟩ := ry
    have hx : (⟨z.toArray⟩ : Str).length = z.length := str_len z
    have big : ¬ j < 1 → z.length ≤ MAXL := fun hn => by
      have h5 : 1 ≤ j.toNat := by omega
      calc z.length = z.length * 1 := by omega
        _ ≤ z.length * j.toNat := Nat.mul_le_mul_left _ h5
        _ ≤ MAXL := hz
    refine PySem.SB.mul ⟨by simp; omega, fun hn _ => ?_, fun hn _ => ?_⟩ fun t1 k => ?_
    · have h2 : (16777216 : Int) ≤ (2 ^ 63 - 1) / j := by
        refine Int.le_ediv_of_mul_le (by omega) ?_
        omega
      have h3 := big hn
      unfold MAXL at h3
      rw [hx]
      omega
    · rw [hx]
      unfold Builtin.Str.tooLong
      rw [← maxl_line]
      simpa using hz
    · have e4 : PySem.Txt.mul ⟨z.toArray⟩ j = ⟨(reps j.toNat z).toArray⟩ := by
        unfold PySem.Txt.mul
        have rep1 : ∀ n : Nat, (List.replicate n z.toArray).foldl (· ++ ·) #[] = (reps n z).toArray := by
          intro n
          have gen : ∀ (n : Nat) (acc : List Nat), (List.replicate n z.toArray).foldl (· ++ ·) acc.toArray = (acc ++ reps n z).toArray := by
            intro n
            induction n with
            | zero => intro acc; simp [reps]
            | succ n ih =>
              intro acc
              rw [List.replicate_succ, List.foldl_cons]
              have := ih (acc ++ z)
              simp only [List.append_toArray] at this ⊢
              rw [this]
              simp [reps, List.replicate_succ]
          simpa using gen n []
        by_cases h5 : j < 1
        · rw [if_pos h5]
          have : j.toNat = 0 := by omega
          rw [this]
          simp [reps, Str.empty]
        · rw [if_neg h5]
          by_cases h6 : (j == 1 || (⟨z.toArray⟩ : Str).length == 0) = true
          · rw [if_pos h6]
            rw [hx] at h6
            simp at h6
            rcases h6 with h6 | h6
            · subst h6
              simp [reps]
            · subst h6
              have : reps j.toNat ([] : List Nat) = [] := by
                simp [reps]
              rw [this]
          · rw [if_neg h6, rep1]
      rw [e4]
      exact ⟨.str _, H, I.tok _, ⟨_, rfl⟩, q R H _ ok Step.refl (by simp [Rep])⟩
  · simp only [Rep] at r1 r2
    obtain ⟨a, vs, rfl, hq, hr⟩ := r1
    subst r2
    refine op_rep pins s σ H _ _ v u Q I rx ry ⟨a, j, vs, rfl, rfl, ok.sub _ _ hq, by omega, by omega, by rw [← hr.length, ← maxl_line]; exact hz, fun p np => ?_⟩
    obtain ⟨ok', st⟩ := ok.lay (o := .lst (List.replicate j.toNat vs).flatten) np (fun ps z => by cases z)
    refine q _ _ _ ok' st ?_
    simp only [Rep]
    exact ⟨p, _, rfl, upd_same, Reps.le st.le _ _ (hr.rep _)⟩
  · simp only [Rep] at r1 r2
    obtain ⟨a, vs, rfl, hq, hr⟩ := r1
    subst r2
    have hs : SqT X.K H a vs := hK ▸ SqT.le ok.sub hq
    by_cases h01 : vs = [] ∨ j = 1
    · refine op_repT1 pins s σ H _ _ v u Q I rx ry ⟨a, j, vs, rfl, rfl, hs, h01, h0, h1, ?_⟩
      have e2 : reps j.toNat z = z := by
        rcases h01 with rfl | rfl
        · have := hr.length
          have hz : z = [] := List.length_eq_zero_iff.mp this
          subst hz
          unfold reps
          simp
        · unfold reps
          simp
      rw [e2] at q
      refine q R H _ ok Step.refl ?_
      simp only [Rep]
      exact ⟨a, vs, rfl, hq, hr⟩
    · by_cases h2' : j ≤ 0
      · refine op_repT0 pins s σ H _ _ v u Q I rx ry ⟨a, j, vs, rfl, rfl, hs, fun e => h01 (.inl e), h0, h2', fun p np => ?_⟩
        obtain ⟨ok', st⟩ := ok.lay (o := .tup []) np (fun ps z => by cases z)
        refine q _ _ _ ok' st ?_
        have e2 : reps j.toNat z = [] := by
          rw [show j.toNat = 0 by omega]
          rfl
        rw [e2]
        simp only [Rep]
        exact ⟨p, _, rfl, SqT.of upd_same, Reps.nil⟩
      · refine op_repT pins s σ H _ _ v u Q I rx ry ⟨a, j, vs, rfl, rfl, hs, fun e => h01 (.inl e), by omega, h1, by rw [← hr.length]; exact h2.resolve_right (by omega), fun p np => ?_⟩
        obtain ⟨ok', st⟩ := ok.lay (o := .tup (List.replicate j.toNat vs).flatten) np (fun ps z => by cases z)
        refine q _ _ _ ok' st ?_
        simp only [Rep]
        exact ⟨p, _, rfl, SqT.of upd_same, Reps.le st.le _ _ (hr.rep _)⟩
end
end Ev
set_option Elab.async false
set_option linter.all false
set_option maxRecDepth 100000
set_option maxHeartbeats 2000000
/-! EvD: comparisons, subscripts, slices, built-in functions. -/
namespace Ev
open PySem PySem.Spec PyProof.Rows L2
mutual
theorem Rep.dp {g : Gx} {R H : Hp} (sub : ∀ a o, R a = some o → H a = some o) : ∀ (d : D) (v : V) (p : PyData), Rep g R d v → toP d = some p → Dp g.K H v p
  | .non, v, p, r, e => by
    simp only [Rep] at r; subst r
    simp only [toP, Option.some.injEq] at e; subst e
    exact .non
  | .bl b, v, p, r, e => by
    simp only [Rep] at r; subst r
    simp only [toP, Option.some.injEq] at e; subst e
    exact .bl b
  | .int i, v, p, r, e => by
    simp only [Rep] at r; subst r
    simp only [toP, Option.some.injEq] at e; subst e
    exact .int i
  | .str s, v, p, r, e => by
    simp only [Rep] at r; subst r
    simp only [toP, Option.some.injEq] at e; subst e
    exact .str _
  | .tup l, v, p, r, e => by
    simp only [Rep] at r
    obtain ⟨a, vs, rfl, hs, hr⟩ := r
    simp only [toP, Option.map_eq_some_iff] at e
    obtain ⟨q, e1, rfl⟩ := e
    exact .tup (SqT.le sub hs) (Reps.dp sub l vs q hr e1)
  | .lst l, v, p, r, e => by
    simp only [Rep] at r
    obtain ⟨a, vs, rfl, hs, hr⟩ := r
    simp only [toP, Option.map_eq_some_iff] at e
    obtain ⟨q, e1, rfl⟩ := e
    exact .lst (SqL.of (sub _ _ hs)) (Reps.dp sub l vs q hr e1)
  | .fn _, _, _, _, e => by simp [toP] at e
  | .scr _, _, _, _, e => by simp [toP] at e
theorem Reps.dp {g : Gx} {R H : Hp} (sub : ∀ a o, R a = some o → H a = some o) : ∀ (ds : List D) (vs : List V) (ps : List PyData), Reps g R ds vs → toPs ds = some ps → DpAll g.K H vs ps
  | [], vs, ps, r, e => by
    simp only [Reps] at r; subst r
    simp only [toPs, Option.some.injEq] at e; subst e
    exact .nil
  | d :: ds, vs, ps, r, e => by
    simp only [Reps] at r
    obtain ⟨v, s, rfl, h1, h2⟩ := r
    simp only [toPs, Option.bind_eq_some_iff, Option.map_eq_some_iff] at e
    obtain ⟨p, e1, q, e2, rfl⟩ := e
    exact .cons (Rep.dp sub d v p h1 e1) (Reps.dp sub ds s q h2 e2)
end
theorem eqP_inv {a b : D} {k : Bool} (h : eqP a b = some k) : ∃ p q, toP a = some p ∧ toP b = some q ∧ SeqAt.shaped p = true ∧ SeqAt.shaped q = true ∧ k = PyData.eqv p q := by
  unfold eqP at h
  split at h
  · rename_i p q e1 e2
    split at h
    · rename_i hh
      exact ⟨p, q, e1, e2, hh.1, hh.2, (Option.some.inj h).symm⟩
    · cases h
  · cases h
theorem place_eq (n : Nat) (i : Int) : place n i = ixN n i := rfl
theorem cutIx_eq (n d : Nat) (o : Option Int) : cutIx n d o = HT.sIx n d o := by cases o <;> rfl
theorem Reps.at {g : Gx} {R : Hp} {l : List D} {vs : List V} {i : Int} {d : D} (r : Reps g R l vs) (h : atD l i = some d) : ∃ v, atI vs i = some v ∧ Rep g R d v := by
  unfold atD at h
  obtain ⟨j, e1, e2⟩ := Option.bind_eq_some_iff.mp h
  obtain ⟨v, e3, e4⟩ := r.get e2
  refine ⟨v, ?_, e4⟩
  unfold atI
  rw [← r.length, ← place_eq, e1]
  exact e3
theorem Reps.cut {g : Gx} {R : Hp} {l : List D} {vs : List V} (lo hi : Option Int) (r : Reps g R l vs) : Reps g R (cutD l lo hi) (cutV vs lo hi) := by
  unfold cutD cutV
  rw [cutIx_eq, cutIx_eq, r.length]
  exact Reps.take _ (Reps.drop _ r)
theorem cmp_int_inv {o : COp} {x y d : D} (ho : o = .lt ∨ o = .le ∨ o = .gt ∨ o = .ge) (h : cmpD o x y = .ok d) : ∃ i j, x = .int i ∧ y = .int j := by
  rcases ho with rfl | rfl | rfl | rfl <;> (cases x <;> cases y <;> simp [cmpD] at h ⊢)
section
variable {X : Cx} {g : Gx}
theorem ok_lt : OpR X (compareOp .Lt) (rK g (cmpD .lt)) := by
  intro pins s σ H x y v u Q I rx ry ⟨R, d1, d2, d, ok, r1, r2, e, q⟩
  obtain ⟨i, j, rfl, rfl⟩ := cmp_int_inv (by simp) e
  simp only [cmpD, Res.ok.injEq] at e
  subst e
  simp only [Rep] at r1 r2
  exact op_lt pins s σ H x y v u Q I rx ry ⟨_, _, r1, r2, q R H _ ok Step.refl (by simp [Rep])⟩
theorem ok_le : OpR X (compareOp .LtE) (rK g (cmpD .le)) := by
  intro pins s σ H x y v u Q I rx ry ⟨R, d1, d2, d, ok, r1, r2, e, q⟩
  obtain ⟨i, j, rfl, rfl⟩ := cmp_int_inv (by simp) e
  simp only [cmpD, Res.ok.injEq] at e
  subst e
  simp only [Rep] at r1 r2
  exact op_le pins s σ H x y v u Q I rx ry ⟨_, _, r1, r2, q R H _ ok Step.refl (by simp [Rep])⟩
theorem ok_gt : OpR X (compareOp .Gt) (rK g (cmpD .gt)) := by
  intro pins s σ H x y v u Q I rx ry ⟨R, d1, d2, d, ok, r1, r2, e, q⟩
  obtain ⟨i, j, rfl, rfl⟩ := cmp_int_inv (by simp) e
  simp only [cmpD, Res.ok.injEq] at e
  subst e
  simp only [Rep] at r1 r2
  exact op_gt pins s σ H x y v u Q I rx ry ⟨_, _, r1, r2, q R H _ ok Step.refl (by simp [Rep])⟩
theorem ok_ge : OpR X (compareOp .GtE) (rK g (cmpD .ge)) := by
  intro pins s σ H x y v u Q I rx ry ⟨R, d1, d2, d, ok, r1, r2, e, q⟩
  obtain ⟨i, j, rfl, rfl⟩ := cmp_int_inv (by simp) e
  simp only [cmpD, Res.ok.injEq] at e
  subst e
  simp only [Rep] at r1 r2
  exact op_ge pins s σ H x y v u Q I rx ry ⟨_, _, r1, r2, q R H _ ok Step.refl (by simp [Rep])⟩
def vOf : D → V
  | .bl b => .bl b
  | .int i => .int i
  | .str s => .str ⟨s.toArray⟩
  | _ => .non
theorem Rep.flat {R : Hp} {d : D} {v : V} (r : Rep g R d v) (h : flatD d = true) : v = vOf d ∧ flatV v = true := by
  cases d <;> first | (cases h; done) | (simp only [Rep] at r; subst r; exact ⟨rfl, rfl⟩)
theorem scal_ok {R : Hp} {a b : D} {x y : V} (h : scalD a b = true) (r1 : Rep g R a x) (r2 : Rep g R b y) : scal x y = true ∧ decide (x = y) = eqF a b ∧ True := by
  have fa : flatD a = true := by cases a <;> first | rfl | (cases b <;> cases h)
  have fb : flatD b = true := by cases b <;> first | rfl | (cases a <;> cases h)
  obtain ⟨e1, _⟩ := r1.flat fa
  obtain ⟨e2, _⟩ := r2.flat fb
  subst e1
  subst e2
  cases a <;> first | (cases fa; done) | (cases b <;> first | (cases fb; done) | (cases h; done) | skip)
  all_goals refine ⟨rfl, ?_, trivial⟩
  all_goals (rw [Bool.eq_iff_iff]; simp [vOf, eqF])
theorem ok_eq (hK : g.K = X.K) (hu : X.A.units + 64 < cLine) : OpR X (compareOp .Eq) (rK g (cmpD .eq)) := by
  intro pins s σ H x y v u Q I rx ry ⟨R, d1, d2, d, ok, r1, r2, e, q⟩
  simp only [cmpD] at e
  cases ek : eqD d1 d2 with
  | none => rw [ek] at e; cases e
  | some k =>
    rw [ek] at e
    cases e
    unfold eqD at ek
    split at ek
    · rename_i hs
      cases ek
      obtain ⟨e1, e2, e3⟩ := scal_ok hs r1 r2
      exact op_eq pins s σ H x y v u Q I rx ry ⟨e1, q R H _ ok Step.refl (by simp [Rep, e2])⟩
    · obtain ⟨p, p2, e1, e2, s1, s2, rfl⟩ := eqP_inv ek
      refine op_eqD hu pins s σ H x y v u Q I rx ry ⟨p, p2, hK ▸ Rep.dp ok.sub _ _ _ r1 e1, hK ▸ Rep.dp ok.sub _ _ _ r2 e2, s1, s2, q R H _ ok Step.refl (by simp [Rep])⟩
theorem ok_ne (hK : g.K = X.K) (hu : X.A.units + 64 < cLine) : OpR X (compareOp .NotEq) (rK g (cmpD .ne)) := by
  intro pins s σ H x y v u Q I rx ry ⟨R, d1, d2, d, ok, r1, r2, e, q⟩
  simp only [cmpD] at e
  cases ek : eqD d1 d2 with
  | none => rw [ek] at e; cases e
  | some k =>
    rw [ek] at e
    cases e
    unfold eqD at ek
    split at ek
    · rename_i hs
      cases ek
      obtain ⟨e1, e2, e3⟩ := scal_ok hs r1 r2
      exact op_ne pins s σ H x y v u Q I rx ry ⟨e1, q R H _ ok Step.refl (by simp [Rep, e2])⟩
    · obtain ⟨p, p2, e1, e2, s1, s2, rfl⟩ := eqP_inv ek
      refine op_neD hu pins s σ H x y v u Q I rx ry ⟨p, p2, hK ▸ Rep.dp ok.sub _ _ _ r1 e1, hK ▸ Rep.dp ok.sub _ _ _ r2 e2, s1, s2, q R H _ ok Step.refl (by simp [Rep])⟩
theorem Rep.isNon {R : Hp} {d : D} {v : V} (r : Rep g R d v) : decide (v = .non) = isNonD d := by
  cases d <;> simp only [Rep] at r
  case non => subst r; rfl
  case bl => subst r; rfl
  case int => subst r; rfl
  case str => subst r; rfl
  case tup => obtain ⟨a, vs, rfl, _⟩ := r; rfl
  case lst => obtain ⟨a, vs, rfl, _⟩ := r; rfl
  case fn => obtain ⟨a, vs, rfl, _⟩ := r; rfl
  case scr => obtain ⟨a, rfl, _⟩ := r; rfl
theorem ok_is : OpR X (compareOp .Is) (rK g (cmpD .is_)) := by
  intro pins s σ H x y v u Q I rx ry ⟨R, d1, d2, d, ok, r1, r2, e, q⟩
  cases d2 <;> simp only [cmpD] at e <;> cases e
  have z := r1.isNon
  simp only [Rep] at r2
  exact op_isN pins s σ H x y v u Q I rx ry ⟨r2, by rw [z]; exact q R H _ ok Step.refl (by simp [Rep])⟩
theorem ok_isNot : OpR X (compareOp .IsNot) (rK g (cmpD .isNot)) := by
  intro pins s σ H x y v u Q I rx ry ⟨R, d1, d2, d, ok, r1, r2, e, q⟩
  cases d2 <;> simp only [cmpD] at e <;> cases e
  have z := r1.isNon
  simp only [Rep] at r2
  refine op_notN pins s σ H x y v u Q I rx ry ⟨r2, by rw [z]; exact q R H _ ok Step.refl (by simp [Rep])⟩
/-! ### subscripts -/
theorem Reps.flat {R : Hp} : ∀ {l : List D} {vs : List V}, Reps g R l vs → l.all flatD = true → vs = l.map vOf ∧ vs.all flatV = true
  | [], vs, r, _ => by
    simp only [Reps] at r
    subst r
    exact ⟨rfl, rfl⟩
  | d :: l, vs, r, h => by
    simp only [Reps] at r
    obtain ⟨v, s, rfl, h1, h2⟩ := r
    simp only [List.all_cons, Bool.and_eq_true] at h
    obtain ⟨e1, e2⟩ := h1.flat h.1
    obtain ⟨e3, e4⟩ := Reps.flat h2 h.2
    exact ⟨by rw [e1, e3]; rfl, by simp only [List.all_cons, e2, e4, Bool.and_self]⟩
theorem eqV_eqF {a b : D} (ha : flatD a = true) (hb : flatD b = true) : eqV (vOf a) (vOf b) = eqF a b := by
  cases a <;> first | (cases ha; done) | (cases b <;> first | (cases hb; done) | rfl | skip)
  simp only [vOf, eqV, eqF]
  rw [Bool.eq_iff_iff]
  simp
theorem inV_inF {x : D} (hx : flatD x = true) : ∀ {l : List D}, l.all flatD = true → inV (vOf x) (l.map vOf) = inF x l
  | [], _ => rfl
  | d :: l, h => by
    simp only [List.all_cons, Bool.and_eq_true] at h
    have ih := inV_inF hx h.2
    unfold inV inF at ih ⊢
    rw [List.map_cons, List.any_cons, List.any_cons, ih, eqV_eqF h.1 hx]
theorem inDeep_inv {x : D} {l : List D} {b : Bool} (h : inDeep x l = some b) : ∃ p ps, toP x = some p ∧ toPs l = some ps ∧ SeqAt.shaped p = true ∧ SeqAt.shaped (.tuple ps) = true ∧ b = ps.any fun z => PyData.eqv z p := by
  unfold inDeep at h
  split at h
  · rename_i p ps e1 e2
    split at h
    · rename_i c
      exact ⟨p, ps, e1, e2, c.1, c.2, (Option.some.inj h).symm⟩
    · cases h
  · cases h
section
variable {X : Cx}
theorem op_inDT (hu : X.A.units + 65 < cLine) : OpR X (compareOp .In) (fun x y H Q => ∃ d ds, Dp X.K H x d ∧ Dp X.K H y (.tuple ds) ∧ SeqAt.shaped d = true ∧ SeqAt.shaped (.tuple ds) = true ∧ Q (.bl (ds.any fun z => PyData.eqv z d)) H) := by
  intro pins s σ H x y v u Q I rx ry h
  obtain ⟨d, ds, hd, he, sd, se, q⟩ := h
  obtain ⟨as, r1⟩ := Dp.reads I d x v hd rx
  obtain ⟨bs, r2⟩ := Dp.reads I (.tuple ds) y u he ry
  exact SeqAt.in_tuple_reads r2 r1 (SeqAt.canLay_of_shaped se) (SeqAt.canLay_of_shaped sd) (room_in_shaped sd hu) ⟨.bl _, H, I, rfl, q⟩
theorem op_notInDT (hu : X.A.units + 65 < cLine) : OpR X (compareOp .NotIn) (fun x y H Q => ∃ d ds, Dp X.K H x d ∧ Dp X.K H y (.tuple ds) ∧ SeqAt.shaped d = true ∧ SeqAt.shaped (.tuple ds) = true ∧ Q (.bl (!ds.any fun z => PyData.eqv z d)) H) := by
  intro pins s σ H x y v u Q I rx ry h
  obtain ⟨d, ds, hd, he, sd, se, q⟩ := h
  obtain ⟨as, r1⟩ := Dp.reads I d x v hd rx
  obtain ⟨bs, r2⟩ := Dp.reads I (.tuple ds) y u he ry
  exact SeqAt.notIn_tuple_reads r2 r1 (SeqAt.canLay_of_shaped se) (SeqAt.canLay_of_shaped sd) (room_in_shaped sd hu) ⟨.bl _, H, I, rfl, q⟩
end
theorem in_inv {x y d : D} (h : cmpD .in_ x y = .ok d) : (∃ i j, x = .str i ∧ y = .str j ∧ d = .bl (inS i j)) ∨ (∃ l, (y = .tup l ∨ y = .lst l) ∧ flatD x = true ∧ l.all flatD = true ∧ d = .bl (inF x l)) ∨ (∃ l b, (y = .tup l ∨ y = .lst l) ∧ inDeep x l = some b ∧ d = .bl b) := by
  cases y with
  | str j =>
    cases x <;> first | (cases h; done) | skip
    cases h
    exact .inl ⟨_, _, rfl, rfl, rfl⟩
  | tup l =>
    have h' : (if flatD x = true ∧ l.all flatD = true then Res.ok (D.bl (inF x l)) else match inDeep x l with
      | some b => .ok (.bl b)
      | none => .bad) = .ok d := by cases x <;> exact h
    split at h'
    · rename_i c
      cases h'
      exact .inr (.inl ⟨l, .inl rfl, c.1, c.2, rfl⟩)
    · cases e : inDeep x l with
      | none => rw [e] at h'; cases h'
      | some b =>
        rw [e] at h'
        cases h'
        exact .inr (.inr ⟨l, b, .inl rfl, e, rfl⟩)
  | lst l =>
    have h' : (if flatD x = true ∧ l.all flatD = true then Res.ok (D.bl (inF x l)) else match inDeep x l with
      | some b => .ok (.bl b)
      | none => .bad) = .ok d := by cases x <;> exact h
    split at h'
    · rename_i c
      cases h'
      exact .inr (.inl ⟨l, .inr rfl, c.1, c.2, rfl⟩)
    · cases e : inDeep x l with
      | none => rw [e] at h'; cases h'
      | some b =>
        rw [e] at h'
        cases h'
        exact .inr (.inr ⟨l, b, .inr rfl, e, rfl⟩)
  | _ => cases x <;> cases h
theorem notIn_inv {x y d : D} (h : cmpD .notIn x y = .ok d) : (∃ i j, x = .str i ∧ y = .str j ∧ d = .bl (!inS i j)) ∨ (∃ l, (y = .tup l ∨ y = .lst l) ∧ flatD x = true ∧ l.all flatD = true ∧ d = .bl (!inF x l)) ∨ (∃ l b, (y = .tup l ∨ y = .lst l) ∧ inDeep x l = some b ∧ d = .bl (!b)) := by
  cases y with
  | str j =>
    cases x <;> first | (cases h; done) | skip
    cases h
    exact .inl ⟨_, _, rfl, rfl, rfl⟩
  | tup l =>
    have h' : (if flatD x = true ∧ l.all flatD = true then Res.ok (D.bl (!inF x l)) else match inDeep x l with
      | some b => .ok (.bl (!b))
      | none => .bad) = .ok d := by cases x <;> exact h
    split at h'
    · rename_i c
      cases h'
      exact .inr (.inl ⟨l, .inl rfl, c.1, c.2, rfl⟩)
    · cases e : inDeep x l with
      | none => rw [e] at h'; cases h'
      | some b =>
        rw [e] at h'
        cases h'
        exact .inr (.inr ⟨l, b, .inl rfl, e, rfl⟩)
  | lst l =>
    have h' : (if flatD x = true ∧ l.all flatD = true then Res.ok (D.bl (!inF x l)) else match inDeep x l with
      | some b => .ok (.bl (!b))
      | none => .bad) = .ok d := by cases x <;> exact h
    split at h'
    · rename_i c
      cases h'
      exact .inr (.inl ⟨l, .inr rfl, c.1, c.2, rfl⟩)
    · cases e : inDeep x l with
      | none => rw [e] at h'; cases h'
      | some b =>
        rw [e] at h'
        cases h'
        exact .inr (.inr ⟨l, b, .inr rfl, e, rfl⟩)
  | _ => cases x <;> cases h
theorem ok_in (hK : g.K = X.K) (hu : X.A.units + 65 < cLine) : OpR X (compareOp .In) (rK g (cmpD .in_)) := by
  intro pins s σ H x y v u Q I rx ry ⟨R, d1, d2, d, ok, r1, r2, e, q⟩
  rcases in_inv e with ⟨i, j, rfl, rfl, rfl⟩ | ⟨l, hy, fx, fl, rfl⟩ | ⟨l, b, hy, hb, rfl⟩
  · simp only [Rep] at r1 r2
    subst r1
    subst r2
    exact op_in_str pins s σ H _ _ v u Q I rx ry ⟨_, _, rfl, rfl, q R H _ ok Step.refl (by simp only [Rep, inS])⟩
  · obtain ⟨e1, f1⟩ := r1.flat fx
    rcases hy with rfl | rfl
    · simp only [Rep] at r2
      obtain ⟨a, vs, rfl, hq, hr⟩ := r2
      obtain ⟨e2, f2⟩ := hr.flat fl
      exact op_in_seq pins s σ H _ _ v u Q I rx ry ⟨a, vs, rfl, .inr (hK ▸ SqT.le ok.sub hq), f1, f2, q R H _ ok Step.refl (by simp only [Rep, e1, e2, inV_inF fx fl]; rfl)⟩
    · simp only [Rep] at r2
      obtain ⟨a, vs, rfl, hq, hr⟩ := r2
      obtain ⟨e2, f2⟩ := hr.flat fl
      exact op_in_seq pins s σ H _ _ v u Q I rx ry ⟨a, vs, rfl, .inl (SqL.of (ok.sub _ _ hq)), f1, f2, q R H _ ok Step.refl (by simp only [Rep, e1, e2, inV_inF fx fl]; rfl)⟩
  · obtain ⟨p, ps, e1, e2, s1, s2, rfl⟩ := inDeep_inv hb
    rcases hy with rfl | rfl
    · exact op_inDT hu pins s σ H _ _ v u Q I rx ry ⟨p, ps, hK ▸ Rep.dp ok.sub _ _ _ r1 e1, hK ▸ Rep.dp ok.sub _ _ _ r2 (by simp [toP, e2]), s1, s2, q R H _ ok Step.refl (by simp [Rep])⟩
    · exact op_inD hu pins s σ H _ _ v u Q I rx ry ⟨p, ps, hK ▸ Rep.dp ok.sub _ _ _ r1 e1, hK ▸ Rep.dp ok.sub _ _ _ r2 (by simp [toP, e2]), s1, s2, q R H _ ok Step.refl (by simp [Rep])⟩
theorem ok_notIn (hK : g.K = X.K) (hu : X.A.units + 65 < cLine) : OpR X (compareOp .NotIn) (rK g (cmpD .notIn)) := by
  intro pins s σ H x y v u Q I rx ry ⟨R, d1, d2, d, ok, r1, r2, e, q⟩
  rcases notIn_inv e with ⟨i, j, rfl, rfl, rfl⟩ | ⟨l, hy, fx, fl, rfl⟩ | ⟨l, b, hy, hb, rfl⟩
  · simp only [Rep] at r1 r2
    subst r1
    subst r2
    exact op_notIn_str pins s σ H _ _ v u Q I rx ry ⟨_, _, rfl, rfl, q R H _ ok Step.refl (by simp only [Rep, inS])⟩
  · obtain ⟨e1, f1⟩ := r1.flat fx
    rcases hy with rfl | rfl
    · simp only [Rep] at r2
      obtain ⟨a, vs, rfl, hq, hr⟩ := r2
      obtain ⟨e2, f2⟩ := hr.flat fl
      exact op_notIn_seq pins s σ H _ _ v u Q I rx ry ⟨a, vs, rfl, .inr (hK ▸ SqT.le ok.sub hq), f1, f2, q R H _ ok Step.refl (by simp only [Rep, e1, e2, inV_inF fx fl]; rfl)⟩
    · simp only [Rep] at r2
      obtain ⟨a, vs, rfl, hq, hr⟩ := r2
      obtain ⟨e2, f2⟩ := hr.flat fl
      exact op_notIn_seq pins s σ H _ _ v u Q I rx ry ⟨a, vs, rfl, .inl (SqL.of (ok.sub _ _ hq)), f1, f2, q R H _ ok Step.refl (by simp only [Rep, e1, e2, inV_inF fx fl]; rfl)⟩
  · obtain ⟨p, ps, e1, e2, s1, s2, rfl⟩ := inDeep_inv hb
    rcases hy with rfl | rfl
    · exact op_notInDT hu pins s σ H _ _ v u Q I rx ry ⟨p, ps, hK ▸ Rep.dp ok.sub _ _ _ r1 e1, hK ▸ Rep.dp ok.sub _ _ _ r2 (by simp [toP, e2]), s1, s2, q R H _ ok Step.refl (by simp [Rep])⟩
    · exact op_notInD hu pins s σ H _ _ v u Q I rx ry ⟨p, ps, hK ▸ Rep.dp ok.sub _ _ _ r1 e1, hK ▸ Rep.dp ok.sub _ _ _ r2 (by simp [toP, e2]), s1, s2, q R H _ ok Step.refl (by simp [Rep])⟩
theorem idxD_noexc : NoExc idxD := fun x y c h => by
  unfold idxD at h
  split at h <;> first | (cases h; done) | (split at h <;> first | (cases h; done) | (split at h <;> cases h))
theorem ok_idx (hK : g.K = X.K) : IxR X (rK g idxD) := by
  intro value slice pins s σ H x y v u Q I rx ry ⟨R, d1, d2, d, ok, r1, r2, e, q⟩ hs
  refine ix_seq value slice pins s σ H x y v u Q I rx ry ?_ hs
  cases d2 <;> cases d1 <;> simp only [idxD] at e <;> first | (cases e; done) | skip
  · -- text
    rename_i i l
    simp only [Rep] at r1 r2
    split at e
    · rename_i hz
      split at e
      · rename_i c hc
        cases e
        subst r1 r2
        refine .inr (.inr ⟨_, i, c, rfl, rfl, by rw [str_len, ← maxl_line]; exact hz, ?_, q R H _ ok Step.refl (by simp [Rep])⟩)
        show atI (l.toArray.toList) i = some c
        rw [List.toList_toArray]
        exact hc
      · cases e
    · cases e
  · rename_i i l
    simp only [Rep] at r1 r2
    subst r2
    obtain ⟨a, vs, rfl, hq, hr⟩ := r1
    split at e
    · rename_i c hc
      cases e
      obtain ⟨v', e1, e2⟩ := hr.at hc
      exact .inr (.inl ⟨a, vs, i, v', rfl, rfl, hK ▸ SqT.le ok.sub hq, e1, q R H _ ok Step.refl e2⟩)
    · cases e
  · rename_i i l
    simp only [Rep] at r1 r2
    subst r2
    obtain ⟨a, vs, rfl, hq, hr⟩ := r1
    split at e
    · rename_i c hc
      cases e
      obtain ⟨v', e1, e2⟩ := hr.at hc
      exact .inl ⟨a, vs, i, v', rfl, rfl, SqL.of (ok.sub _ _ hq), e1, q R H _ ok Step.refl e2⟩
    · cases e
  · rename_i i l
    simp only [Rep] at r1 r2
    subst r2
    obtain ⟨a, rfl, hq⟩ := r1
    split at e
    · rename_i c hc
      cases e
      refine .inl ⟨a, l.map V.int, i, .int c, rfl, rfl, hK ▸ SqL.le ok.sub hq, ?_, q R H _ ok Step.refl (by simp [Rep])⟩
      unfold atD at hc
      obtain ⟨j, e1, e2⟩ := Option.bind_eq_some_iff.mp hc
      unfold atI
      rw [List.length_map, ← place_eq, e1]
      show (l.map V.int)[j]? = _
      rw [List.getElem?_map, e2]
      rfl
    · cases e
/-! ### slices -/
/-- a slice's part in the language -/
def tO (g : Gx) (W : WX) (f : Env → Res (Option Int)) : TO := fun σ H Q => ∃ R H0 ρ, Ok g R H ∧ EnvR g H0 R H σ ρ ∧ Wp g W σ R H (f ρ) fun o R' H' => Q o H'
theorem po_noD {W : WX} : PO X none (tO g W fun _ => .ok none) := ⟨fun pins s σ H Q I h => by
  obtain ⟨R, H0, ρ, ok, en, w⟩ := h
  exact po_none.run pins s σ H Q I (w R H ok Step.refl)⟩
theorem po_yesD {W : WX} {e : Expr} {f : Env → Res D} (he : PE X e (tD g W f)) : PO X (some e) (tO g W fun ρ => (f ρ).bind partD) := ⟨fun pins s σ H Q I h => by
  obtain ⟨R, H0, ρ, ok, en, w⟩ := h
  refine (po_some he).run pins s σ H Q I ⟨R, H0, ρ, ok, en, (Wp.bind ok w).mono fun d R1 H1 ok1 st1 w1 v r => ?_⟩
  cases d <;> first | exact (show False from w1).elim | skip
  simp only [Rep] at r
  exact ⟨_, r, w1 R1 H1 ok1 Step.refl⟩⟩
theorem cut_str (l : List Nat) (lo hi : Option Int) : cutS ⟨l.toArray⟩ lo hi = ⟨(cutD l lo hi).toArray⟩ := by
  unfold cutS cutD
  simp only [str_len, cutIx_eq, List.toList_toArray]
def rS (g : Gx) : V → Option Int → Option Int → Hp → VK → Prop := fun x lo hi H Q => ∃ R d1 d, Ok g R H ∧ Rep g R d1 x ∧ sliceD d1 lo hi = .ok d ∧ ∀ R' H' w, Ok g R' H' → Step R H R' H' → Rep g R' d w → Q w H'
theorem ok_slice (hK : g.K = X.K) : SlR X (rS g) := by
  intro pins s σ H x v vl vu lo hi sl Q I rx hs pl pu h
  obtain ⟨R, d1, d, ok, r, e, q⟩ := h
  cases d1 <;> simp only [sliceD] at e <;> first | (cases e; done) | skip
  · rename_i l
    split at e
    · rename_i hz
      cases e
      simp only [Rep] at r
      exact sl_str pins s σ H x v vl vu lo hi sl Q I rx hs pl pu ⟨_, r, by rw [str_len, ← maxl_line]; exact hz, q R H _ ok Step.refl (by simp only [Rep]; rw [cut_str])⟩
    · cases e
  · rename_i l
    cases e
    simp only [Rep] at r
    obtain ⟨a, vs, rfl, hq, hr⟩ := r
    refine sl_tupA pins s σ H _ v vl vu lo hi sl Q I rx hs pl pu ⟨a, vs, rfl, hK ▸ SqT.le ok.sub hq, fun hw => ?_, fun hw p np => ?_⟩
    · have e2 : cutD l lo hi = l := by
        unfold cutD
        rw [cutIx_eq, cutIx_eq, hr.length, hw.1, hw.2, Nat.sub_zero, List.drop_zero, ← hr.length, List.take_length]
      rw [e2] at q
      exact q R H _ ok Step.refl (by simp only [Rep]; exact ⟨a, vs, rfl, hq, hr⟩)
    · obtain ⟨ok', st⟩ := ok.lay (o := .tup (cutV vs lo hi)) np (fun ps z => by cases z)
      refine q _ _ _ ok' st ?_
      simp only [Rep]
      exact ⟨p, _, rfl, SqT.of upd_same, Reps.cut lo hi (Reps.le st.le _ _ hr)⟩
  · rename_i l
    cases e
    simp only [Rep] at r
    obtain ⟨a, vs, rfl, hq, hr⟩ := r
    refine sl_list pins s σ H _ v vl vu lo hi sl Q I rx hs pl pu ⟨a, vs, rfl, SqL.of (ok.sub _ _ hq), fun p np => ?_⟩
    obtain ⟨ok', st⟩ := ok.lay (o := .lst (cutV vs lo hi)) np (fun ps z => by cases z)
    refine q _ _ _ ok' st ?_
    simp only [Rep]
    exact ⟨p, _, rfl, upd_same, Reps.cut lo hi (Reps.le st.le _ _ hr)⟩
theorem pd_slice {W : WX} (hK : g.K = X.K) {e : Expr} {lo hi : Option Expr} {f : Env → Res D} {fl fh : Env → Res (Option Int)} {p2 pos : Pos} (he : PE X e (tD g W f)) (hl : PO X lo (tO g W fl)) (hh : PO X hi (tO g W fh)) :
    PE X (.Subscript e (.Slice lo hi none p2) pos) (tD g W fun ρ => (f ρ).bind fun x => (fl ρ).bind fun l => (fh ρ).bind fun h => sliceD x l h) := by
  refine PE.mono (pe_slice (ok_slice hK) he hl hh) fun _ _ σ H Q _ q => ?_
  obtain ⟨R, H0, ρ, ok, en, w⟩ := q
  refine ⟨R, H0, ρ, ok, en, (Wp.bind ok w).mono fun x R1 H1 ok1 st1 w1 v1 r1 => ⟨R1, H0, ρ, ok1, en.step st1, (Wp.bind ok1 w1).mono fun l R2 H2 ok2 st2 w2 => ⟨R2, H0, ρ, ok2, (en.step st1).step st2, (Wp.bind ok2 w2).mono fun h R3 H3 ok3 st3 w3 => ?_⟩⟩⟩
  cases e : sliceD x l h with
  | ok d =>
    rw [e] at w3
    exact ⟨R3, x, d, ok3, Rep.le st3.le _ _ (Rep.le st2.le _ _ r1), e, fun R' H' v o s r => w3 R' H' o s v r⟩
  | exc c =>
    exfalso
    unfold sliceD at e
    split at e <;> first | (cases e; done) | (split at e <;> cases e)
  | bad => rw [e] at w3; exact w3.elim
end
end Ev
set_option Elab.async false
set_option linter.all false
set_option maxRecDepth 100000
set_option maxHeartbeats 2000000
/-! EvE: built-in functions, isinstance, displays, names, truth, calls. -/
namespace Ev
open PySem PySem.Spec PyProof.Rows L2
theorem bltD_noexc (f : Blt) (ds : List D) (c : Nat) : bltD f ds ≠ .exc c := fun h => by
  unfold bltD at h
  repeat' (first | (cases h; done) | split at h)
/-- a call's reading, by data -/
def rB (g : Gx) (k : List D → Res D) : List V → Hp → VK → Prop := fun xs H Q => ∃ R ds d, Ok g R H ∧ Reps g R ds xs ∧ k ds = .ok d ∧ ∀ R' H' w, Ok g R' H' → Step R H R' H' → Rep g R' d w → Q w H'
theorem Reps.one {g : Gx} {R : Hp} {d : D} {xs : List V} (r : Reps g R [d] xs) : ∃ v, xs = [v] ∧ Rep g R d v := by
  simp only [Reps] at r
  obtain ⟨v, s, rfl, h, rfl⟩ := r
  exact ⟨v, rfl, h⟩
theorem Reps.two {g : Gx} {R : Hp} {d e : D} {xs : List V} (r : Reps g R [d, e] xs) : ∃ v u, xs = [v, u] ∧ Rep g R d v ∧ Rep g R e u := by
  simp only [Reps] at r
  obtain ⟨v, s, rfl, h, u, t, rfl, h2, rfl⟩ := r
  exact ⟨v, u, rfl, h, h2⟩
theorem tCB_of {g : Gx} {W : WX} {f : Env → Res (List D)} {k : List D → Res D} (nk : ∀ ds c, k ds ≠ .exc c) {σ : L2.St} {H : Hp} {Q : VK} (q : tD g W (fun ρ => (f ρ).bind k) σ H Q) : tCB (rB g k) (tA g W f) σ H Q := by
  obtain ⟨R, H0, ρ, ok, en, w⟩ := q
  refine ⟨R, H0, ρ, ok, en, (Wp.bind ok w).mono fun ds R1 H1 ok1 st1 w1 vs r => ?_⟩
  cases e : k ds with
  | ok d =>
    rw [e] at w1
    exact ⟨R1, ds, d, ok1, r, e, fun R' H' v o s r => w1 R' H' o s v r⟩
  | exc c => exact absurd e (nk ds c)
  | bad => rw [e] at w1; exact w1.elim
section
variable {X : Cx} {g : Gx}
theorem cb_len (hK : g.K = X.K) : CallR X (.builtin "len") (rB g (bltD .len)) := by
  intro pins s σ H xs us Q I r ⟨R, ds, d, ok, rs, e, q⟩
  match ds, e with
  | [.str l], e =>
    obtain ⟨v, rfl, rv⟩ := rs.one
    simp only [bltD] at e
    split at e
    · rename_i hz
      cases e
      simp only [Rep] at rv
      subst rv
      exact call_len pins s σ H _ us Q I r ⟨_, l.length, rfl, ⟨by rw [str_len, ← maxl_line]; exact hz, (str_len l).symm⟩, q R H _ ok Step.refl (by simp [Rep])⟩
    · cases e
  | [.tup l], e =>
    obtain ⟨v, rfl, rv⟩ := rs.one
    simp only [bltD] at e
    cases e
    simp only [Rep] at rv
    obtain ⟨a, vs, rfl, hq, hr⟩ := rv
    exact call_len pins s σ H _ us Q I r ⟨_, l.length, rfl, .inr ⟨vs, hK ▸ SqT.le ok.sub hq, hr.length⟩, q R H _ ok Step.refl (by simp [Rep])⟩
  | [.lst l], e =>
    obtain ⟨v, rfl, rv⟩ := rs.one
    simp only [bltD] at e
    cases e
    simp only [Rep] at rv
    obtain ⟨a, vs, rfl, hq, hr⟩ := rv
    exact call_len pins s σ H _ us Q I r ⟨_, l.length, rfl, .inl ⟨vs, SqL.of (ok.sub _ _ hq), hr.length⟩, q R H _ ok Step.refl (by simp [Rep])⟩
  | [.scr l], e =>
    obtain ⟨v, rfl, rv⟩ := rs.one
    simp only [bltD] at e
    cases e
    simp only [Rep] at rv
    obtain ⟨a, rfl, hq⟩ := rv
    exact call_len pins s σ H _ us Q I r ⟨_, l.length, rfl, .inl ⟨_, hK ▸ SqL.le ok.sub hq, by simp⟩, q R H _ ok Step.refl (by simp [Rep])⟩
theorem cb_abs : CallR X (.builtin "abs") (rB g (bltD .abs)) := by
  intro pins s σ H xs us Q I r ⟨R, ds, d, ok, rs, e, q⟩
  match ds, e with
  | [.int i], e =>
    obtain ⟨v, rfl, rv⟩ := rs.one
    simp only [bltD] at e
    cases e
    simp only [Rep] at rv
    subst rv
    exact call_abs pins s σ H _ us Q I r ⟨i, rfl, q R H _ ok Step.refl (by simp [Rep])⟩
theorem allBl_inv : ∀ {l : List D} {bs : List Bool}, allBl l = some bs → l = bs.map .bl
  | [], bs, h => by
    simp only [allBl, Option.some.injEq] at h
    subst h
    rfl
  | d :: r, bs, h => by
    cases d <;> simp only [allBl] at h <;> first | (cases h; done) | skip
    obtain ⟨cs, e1, e2⟩ := Option.map_eq_some_iff.mp h
    subst e2
    rw [allBl_inv e1]
    rfl
theorem Reps.bls {R : Hp} : ∀ {bs : List Bool} {vs : List V}, Reps g R (bs.map .bl) vs → vs = bs.map V.bl
  | [], vs, r => by simpa [Reps] using r
  | b :: bs, vs, r => by
    simp only [List.map_cons, Reps, Rep] at r
    obtain ⟨v, s, rfl, rfl, h⟩ := r
    rw [Reps.bls h]
    rfl
theorem cb_all (hc : X.calm = true) : CallR X (.builtin "all") (rB g (bltD .all)) := by
  intro pins s σ H xs us Q I r ⟨R, ds, d, ok, rs, e, q⟩
  match ds, e with
  | [.lst l], e =>
    obtain ⟨v, rfl, rv⟩ := rs.one
    simp only [bltD] at e
    split at e
    · rename_i bs hb
      cases e
      simp only [Rep] at rv
      obtain ⟨a, vs, rfl, hq, hr⟩ := rv
      rw [allBl_inv hb] at hr
      have := Reps.bls hr
      subst this
      exact cr_all hc pins s σ H _ us Q I r ⟨a, bs, rfl, SqL.of (ok.sub _ _ hq), q R H _ ok Step.refl (by simp [Rep])⟩
    · cases e
theorem intsOf_inv : ∀ {l : List D} {ns : List Int}, intsOf l = some ns → l = ns.map .int
  | [], ns, h => by cases h; rfl
  | d :: l, ns, h => by
    cases d <;> simp only [intsOf] at h <;> first | (cases h; done) | skip
    rename_i i
    cases e : intsOf l with
    | none => rw [e] at h; cases h
    | some ms =>
      rw [e] at h
      cases h
      rw [intsOf_inv e]
      rfl
theorem Reps.ints {g : Gx} {R : Hp} : ∀ {ns : List Int} {vs : List V}, Reps g R (ns.map .int) vs → vs = ns.map V.int
  | [], vs, r => by simpa [Reps] using r
  | i :: ns, vs, r => by
    simp only [List.map_cons, Reps, Rep] at r
    obtain ⟨v, s, rfl, rfl, q⟩ := r
    rw [Reps.ints q]
    rfl
theorem fold_max : ∀ (xs : List Int) (x : Int), xs.foldl (fun m y => if m < y then y else m) x ∈ x :: xs ∧ ∀ y ∈ x :: xs, y ≤ xs.foldl (fun m y => if m < y then y else m) x
  | [], x => ⟨by simp, by simp⟩
  | a :: xs, x => by
    obtain ⟨h1, h2⟩ := fold_max xs (if x < a then a else x)
    refine ⟨?_, fun y hy => ?_⟩
    · rw [List.foldl_cons]
      rcases List.mem_cons.mp h1 with e | e
      · rw [e]; split <;> simp
      · exact List.mem_cons_of_mem _ (List.mem_cons_of_mem _ e)
    · rw [List.foldl_cons]
      have h3 := h2 _ List.mem_cons_self
      have h4 : x ≤ (if x < a then a else x) ∧ a ≤ (if x < a then a else x) := by split <;> omega
      rcases List.mem_cons.mp hy with rfl | hy
      · exact Int.le_trans h4.1 h3
      · rcases List.mem_cons.mp hy with rfl | hy
        · exact Int.le_trans h4.2 h3
        · exact h2 y (List.mem_cons_of_mem _ hy)
theorem fold_min : ∀ (xs : List Int) (x : Int), xs.foldl (fun m y => if y < m then y else m) x ∈ x :: xs ∧ ∀ y ∈ x :: xs, xs.foldl (fun m y => if y < m then y else m) x ≤ y
  | [], x => ⟨by simp, by simp⟩
  | a :: xs, x => by
    obtain ⟨h1, h2⟩ := fold_min xs (if a < x then a else x)
    refine ⟨?_, fun y hy => ?_⟩
    · rw [List.foldl_cons]
      rcases List.mem_cons.mp h1 with e | e
      · rw [e]; split <;> simp
      · exact List.mem_cons_of_mem _ (List.mem_cons_of_mem _ e)
    · rw [List.foldl_cons]
      have h3 := h2 _ List.mem_cons_self
      have h4 : (if a < x then a else x) ≤ x ∧ (if a < x then a else x) ≤ a := by split <;> omega
      rcases List.mem_cons.mp hy with rfl | hy
      · exact Int.le_trans h3 h4.1
      · rcases List.mem_cons.mp hy with rfl | hy
        · exact Int.le_trans h3 h4.2
        · exact h2 y (List.mem_cons_of_mem _ hy)
theorem cb_max (hc : X.calm = true) : CallR X (.builtin "max") (rB g (bltD .max)) := by
  intro pins s σ H xs us Q I r ⟨R, ds, d, ok, rs, e, q⟩
  match ds, e with
  | [.int i, .int j], e =>
    obtain ⟨v, u, rfl, rv, ru⟩ := rs.two
    simp only [bltD] at e
    cases e
    simp only [Rep] at rv ru
    subst rv ru
    exact call_max2 hc pins s σ H _ us Q I r ⟨i, j, rfl, q R H _ ok Step.refl (by simp [Rep])⟩
  | [.lst l], e =>
    obtain ⟨v, rfl, rv⟩ := rs.one
    simp only [bltD] at e
    split at e
    · rename_i x ms hms
      cases e
      simp only [Rep] at rv
      obtain ⟨a, vs, rfl, hq, hr⟩ := rv
      rw [intsOf_inv hms] at hr
      have := Reps.ints hr
      subst this
      refine cr_max hc pins s σ H _ us Q I r ⟨a, x :: ms, rfl, SqL.of (ok.sub _ _ hq), by simp, fun m h1 h2 => ?_⟩
      obtain ⟨f1, f2⟩ := fold_max ms x
      have : m = ms.foldl (fun m y => if m < y then y else m) x := Int.le_antisymm (f2 m h1) (h2 _ f1)
      subst this
      exact q R H _ ok Step.refl (by simp [Rep])
    · cases e
theorem cb_min (hc : X.calm = true) : CallR X (.builtin "min") (rB g (bltD .min)) := by
  intro pins s σ H xs us Q I r ⟨R, ds, d, ok, rs, e, q⟩
  match ds, e with
  | [.int i, .int j], e =>
    obtain ⟨v, u, rfl, rv, ru⟩ := rs.two
    simp only [bltD] at e
    cases e
    simp only [Rep] at rv ru
    subst rv ru
    exact call_min2 hc pins s σ H _ us Q I r ⟨i, j, rfl, q R H _ ok Step.refl (by simp [Rep])⟩
  | [.int i, .int j, .int k], e =>
    simp only [Reps] at rs
    obtain ⟨v, _, rfl, rv, u, _, rfl, ru, w, _, rfl, rw', rfl⟩ := rs
    simp only [bltD] at e
    cases e
    simp only [Rep] at rv ru rw'
    subst rv ru rw'
    refine call_min3Nu hc pins s σ H _ us Q I r ⟨.int i, .int j, .int k, _, rfl, ?_, q R H _ ok Step.refl (by simp only [Rep]; rfl)⟩
    have e2 : nuMin2 (.int i) (.int j) = some (.int (if j < i then j else i)) := by
      unfold nuMin2
      show (some (decide (j < i))).map _ = _
      by_cases h : j < i <;> simp [h]
    unfold nuMin3
    rw [e2]
    show nuMin2 _ _ = _
    unfold nuMin2
    show (some (decide (k < (if j < i then j else i)))).map _ = _
    by_cases h : k < (if j < i then j else i) <;> simp [h]
  | [.lst l], e =>
    obtain ⟨v, rfl, rv⟩ := rs.one
    simp only [bltD] at e
    split at e
    · rename_i x ms hms
      cases e
      simp only [Rep] at rv
      obtain ⟨a, vs, rfl, hq, hr⟩ := rv
      rw [intsOf_inv hms] at hr
      have := Reps.ints hr
      subst this
      refine cr_min hc pins s σ H _ us Q I r ⟨a, x :: ms, rfl, SqL.of (ok.sub _ _ hq), by simp, fun m h1 h2 => ?_⟩
      obtain ⟨f1, f2⟩ := fold_min ms x
      have : m = ms.foldl (fun m y => if y < m then y else m) x := Int.le_antisymm (h2 _ f1) (f2 m h1)
      subst this
      exact q R H _ ok Step.refl (by simp [Rep])
    · cases e
theorem numS_str (i : Int) : (⟨(numS i).toArray⟩ : Str) = Str.ofString (toString i) := by
  unfold numS
  simp
theorem cb_int : CallR X (.type "int") (rB g (bltD .int)) := by
  intro pins s σ H xs us Q I r ⟨R, ds, d, ok, rs, e, q⟩
  match ds, e with
  | [.int i], e =>
    obtain ⟨v, rfl, rv⟩ := rs.one
    simp only [bltD] at e
    cases e
    simp only [Rep] at rv
    subst rv
    exact call_int1 pins s σ H _ us Q I r (.inl ⟨i, rfl, q R H _ ok Step.refl (by simp [Rep])⟩)
  | [.bl b], e =>
    obtain ⟨v, rfl, rv⟩ := rs.one
    simp only [bltD] at e
    cases e
    simp only [Rep] at rv
    subst rv
    exact call_int1 pins s σ H _ us Q I r (.inr ⟨b, rfl, q R H _ ok Step.refl (by simp [Rep])⟩)
  | [.str l], e =>
    obtain ⟨v, rfl, rv⟩ := rs.one
    simp only [bltD] at e
    split at e
    · rename_i n hn
      split at e
      · rename_i hz
        cases e
        simp only [Rep] at rv
        subst rv
        exact call_int_str pins s σ H _ us Q I r ⟨_, n, rfl, hn, by rw [str_len]; exact hz, q R H _ ok Step.refl (by simp [Rep])⟩
      · cases e
    · cases e
theorem cb_str : CallR X (.type "str") (rB g (bltD .str)) := by
  intro pins s σ H xs us Q I r ⟨R, ds, d, ok, rs, e, q⟩
  match ds, e with
  | [.int i], e =>
    obtain ⟨v, rfl, rv⟩ := rs.one
    simp only [bltD] at e
    split at e
    · rename_i hz
      cases e
      simp only [Rep] at rv
      subst rv
      exact call_str_int pins s σ H _ us Q I r ⟨i, rfl, big_log hz, q R H _ ok Step.refl (by simp only [Rep]; rw [numS_str])⟩
    · cases e
theorem cb_tuple (hK : g.K = X.K) : CallR X (.type "tuple") (rB g (bltD .tuple)) := by
  intro pins s σ H xs us Q I r ⟨R, ds, d, ok, rs, e, q⟩
  match ds, e with
  | [.tup l], e =>
    obtain ⟨v, rfl, rv⟩ := rs.one
    simp only [bltD] at e
    cases e
    have rv' := rv
    simp only [Rep] at rv
    obtain ⟨a, vs, rfl, hq, hr⟩ := rv
    exact call_tuple_of pins s σ H _ us Q I r ⟨a, vs, rfl, .inr ⟨hK ▸ SqT.le ok.sub hq, q R H _ ok Step.refl rv'⟩⟩
  | [.lst l], e =>
    obtain ⟨v, rfl, rv⟩ := rs.one
    simp only [bltD] at e
    cases e
    simp only [Rep] at rv
    obtain ⟨a, vs, rfl, hq, hr⟩ := rv
    refine call_tuple_of pins s σ H _ us Q I r ⟨a, vs, rfl, .inl ⟨SqL.of (ok.sub _ _ hq), fun p np => ?_⟩⟩
    obtain ⟨ok', st⟩ := ok.lay (o := .tup vs) np (fun ps z => by cases z)
    refine q _ _ _ ok' st ?_
    simp only [Rep]
    exact ⟨p, _, rfl, SqT.of upd_same, Reps.le st.le _ _ hr⟩
theorem vals_signs : ∀ {l : List Nat} {acc : Array Value}, ItemsOf (SignAt (mkS l)) acc (mkS l).cps.size → Vals (l.map fun c => V.str (mkS [c])) acc.toList := by
  intro l acc h
  obtain ⟨h1, h2⟩ := h
  have hs : acc.toList.length = l.length := by rw [Array.length_toList, h1]; simp
  have key : ∀ (l : List Nat) (vs : List Value), vs.length = l.length → (∀ (j : Nat) v, vs[j]? = some v → ∃ c u, l[j]? = some c ∧ v = .str ⟨#[c]⟩ u) → Vals (l.map fun c => V.str (mkS [c])) vs := by
    intro l
    induction l with
    | nil =>
      intro vs h _
      cases vs with
      | nil => exact .nil
      | cons v vs => cases h
    | cons c l ih =>
      intro vs h hv
      cases vs with
      | nil => cases h
      | cons v vs =>
        refine .cons ?_ (ih vs (by simpa using h) fun j v hj => by simpa using hv (j + 1) v (by simpa using hj))
        obtain ⟨c', u, e1, e2⟩ := hv 0 v rfl
        cases e1
        exact ⟨u, e2⟩
  exact key l acc.toList hs fun j v hj => by
    obtain ⟨c, u, e1, e2⟩ := h2 j v (by simpa using hj)
    exact ⟨c, u, by simpa using e1, e2⟩
theorem reps_signs {R : Hp} : ∀ (l : List Nat), Reps g R (signs l) (l.map fun c => V.str (mkS [c]))
  | [] => Reps.nil
  | c :: l => Reps.cons (by simp [Rep]) (reps_signs l)
theorem cb_list (hK : g.K = X.K) (hc : X.calm = true) : CallR X (.type "list") (rB g (bltD .list)) := by
  intro pins s σ H xs us Q I r ⟨R, ds, d, ok, rs, e, q⟩
  have fin : ∀ {l : List D} {a : Addr} {vs : List V}, Reps g R l vs → xs = [.ref a] → (SqL X.K H a vs ∨ SqT X.K H a vs) → d = .lst l → wpAny (model X.prog X.w) X.A (call (.type "list") us) (EP X pins σ Q) X.xe s := by
    intro l a vs hr hx hs hd
    refine call_list_of pins s σ H _ us Q I r ⟨a, vs, hx, hs, fun p np => ?_⟩
    obtain ⟨ok', st⟩ := ok.lay (o := .lst vs) np (fun ps z => by cases z)
    refine q _ _ _ ok' st ?_
    subst hd
    simp only [Rep]
    exact ⟨p, _, rfl, upd_same, Reps.le st.le _ _ hr⟩
  match ds, e with
  | [.tup l], e =>
    obtain ⟨v, rfl, rv⟩ := rs.one
    simp only [bltD] at e
    cases e
    simp only [Rep] at rv
    obtain ⟨a, vs, rfl, hq, hr⟩ := rv
    exact fin hr rfl (.inr (hK ▸ SqT.le ok.sub hq)) rfl
  | [.lst l], e =>
    obtain ⟨v, rfl, rv⟩ := rs.one
    simp only [bltD] at e
    cases e
    simp only [Rep] at rv
    obtain ⟨a, vs, rfl, hq, hr⟩ := rv
    exact fin hr rfl (.inl (SqL.of (ok.sub _ _ hq))) rfl
  | [.str l], e =>
    obtain ⟨v, rfl, rv⟩ := rs.one
    simp only [bltD] at e
    split at e
    · rename_i hl
      cases e
      simp only [Rep] at rv
      subst rv
      cases r with
      | cons r1 r2 =>
        cases r2
        obtain ⟨t, rfl⟩ := r1
        have hz : (mkS l).cps.size ≤ sizeLine := by rw [← maxl_line]; simpa using hl
        refine call_list_str (I.ok.hd hc) (mkS l) t (fun h' tk acc c' keep ho its => ?_) hz
        have hv : Vals (l.map fun c => V.str (mkS [c])) acc.toList := vals_signs its
        have hlen : (l.map fun c => V.str (mkS [c])).length ≤ sizeLine := by rw [List.length_map, ← maxl_line]; exact hl
        refine ⟨.ref s.heap.objs.size, upd H s.heap.objs.size (.lst (l.map fun c => V.str (mkS [c]))), I.laid (t' := tk) (o := .lst (l.map fun c => V.str (mkS [c]))) keep (Nat.le_refl _) ⟨hlen, _, c', hv, ho⟩, rfl, ?_⟩
        obtain ⟨ok', st⟩ := ok.lay (o := .lst (l.map fun c => V.str (mkS [c]))) (I.hok.fresh (Nat.le_refl _)) (fun ps z => by cases z)
        refine q _ _ _ ok' st ?_
        simp only [Rep]
        exact ⟨_, _, rfl, upd_same, reps_signs l⟩
    · cases e
end
/-! ### methods -/
section
variable {X : Cx} {g : Gx}
def mthN : Mth → String
  | .startswith => "startswith"
  | .partition => "partition"
  | .split => "split"
  | .join => "join"
  | .rjust => "rjust"
  | .find => "find"
  | .index => "index"
  | .replace => "replace"
def isRep : Mth → Bool
  | .replace => true
  | _ => false
def mthT : Mth → String
  | .index => "list"
  | _ => "str"
/-- a method's reading, by data -/
def rM (g : Gx) (m : Mth) : V → List V → Hp → VK → Prop := fun x xs H Q => ∃ R d ds y, Ok g R H ∧ Rep g R d x ∧ Reps g R ds xs ∧ mthD m d ds = .ok y ∧ ∀ R' H' w, Ok g R' H' → Step R H R' H' → Rep g R' y w → Q w H'
theorem mthD_noexc (m : Mth) (d : D) (ds : List D) (c : Nat) : mthD m d ds ≠ .exc c := fun h => by
  unfold mthD at h
  repeat' (first | (cases h; done) | split at h)
theorem Rep.str {R : Hp} {s : List Nat} {v : V} (r : Rep g R (.str s) v) : v = .str (mkS s) := by
  simpa only [Rep] using r
theorem allStr_inv : ∀ {l : List D} {ys : List (List Nat)}, allStr l = some ys → l = ys.map .str
  | [], _, h => by
    cases h
    rfl
  | d :: l, ys, h => by
    cases d <;> first | (cases h; done) | skip
    rename_i s
    have h' : (allStr l).map (fun ss => s :: ss) = some ys := h
    cases e : allStr l with
    | none => rw [e] at h'; cases h'
    | some zs =>
      rw [e] at h'
      cases h'
      rw [allStr_inv e]
      rfl
theorem Reps.strs {R : Hp} : ∀ {ys : List (List Nat)} {vs : List V}, Reps g R (ys.map .str) vs → vs = (ys.map mkS).map V.str
  | [], vs, r => by simpa only [List.map_nil, Reps] using r
  | y :: ys, vs, r => by
    simp only [List.map_cons, Reps] at r
    obtain ⟨v, s, rfl, h1, h2⟩ := r
    rw [h1.str, Reps.strs h2]
    rfl
theorem reps_strs {R : Hp} : ∀ (ys : List Str), Reps g R (ys.map fun z => D.str z.cps.toList) (ys.map V.str)
  | [] => Reps.nil
  | y :: ys => Reps.cons (by simp [Rep]) (reps_strs ys)
/-! texts sorted -/
theorem lt_cps : ∀ a b : List Nat, ltCps a b = decide (a < b)
  | [], [] => rfl
  | [], b :: bs => rfl
  | a :: as, [] => by
    have : ¬(a :: as < []) := List.not_lt_nil _
    rw [decide_eq_false this]
    rfl
  | a :: as, b :: bs => by
    have e : ltCps (a :: as) (b :: bs) = (decide (a < b) || a == b && ltCps as bs) := rfl
    rw [e, lt_cps as bs, Bool.eq_iff_iff]
    simp only [Bool.or_eq_true, decide_eq_true_eq, Bool.and_eq_true, beq_iff_eq, List.cons_lt_cons_iff]
theorem rising_pw : ∀ (x : Str) (r : List Str), risingS x r = true → List.Pairwise (fun a b : List Nat => a ≤ b) ((x :: r).map fun z => z.cps.toList)
  | x, [], _ => by simp
  | x, y :: r, h => by
    have e : risingS x (y :: r) = (!ltCps y.cps.toList x.cps.toList && risingS y r) := rfl
    rw [e, Bool.and_eq_true, lt_cps] at h
    have ih := rising_pw y r h.2
    have hxy : x.cps.toList ≤ y.cps.toList := by
      have := h.1
      simp only [Bool.not_eq_true', decide_eq_false_iff_not] at this
      exact List.not_lt.mp this
    rw [List.map_cons, List.pairwise_cons]
    refine ⟨fun z hz => ?_, ih⟩
    rw [List.map_cons, List.mem_cons] at hz
    rcases hz with rfl | hz
    · exact hxy
    · rw [List.map_cons, List.pairwise_cons] at ih
      exact List.le_trans hxy (ih.1 z hz)
theorem sortS_eq {xs : List (List Nat)} {ys : List Str} (hp : ys.Perm (xs.map mkS)) (hs : sortedS ys = true) : ys = (sortS xs).map mkS := by
  have p1 : (ys.map fun z => z.cps.toList).Perm xs := by
    have := hp.map fun z : Str => z.cps.toList
    rw [List.map_map] at this
    have e : xs.map ((fun z : Str => z.cps.toList) ∘ mkS) = xs := by
      conv => rhs; rw [← List.map_id xs]
      exact List.map_congr_left fun z _ => by simp
    rw [e] at this
    exact this
  have w1 : List.Pairwise (fun a b : List Nat => a ≤ b) (ys.map fun z => z.cps.toList) := by
    cases ys with
    | nil => simp
    | cons y r => exact rising_pw y r hs
  have w2 : List.Pairwise (fun a b : List Nat => a ≤ b) (sortS xs) := by
    have := List.pairwise_mergeSort (le := fun a b : List Nat => decide (a ≤ b)) (fun a b c h1 h2 => by simp only [decide_eq_true_eq] at *; exact List.le_trans h1 h2) (fun a b => by simp only [Bool.or_eq_true, decide_eq_true_eq]; exact List.le_total a b) xs
    exact this.imp fun h => of_decide_eq_true h
  have p2 : (ys.map fun z => z.cps.toList).Perm (sortS xs) := p1.trans (List.mergeSort_perm xs _).symm
  have e := List.Perm.eq_of_pairwise (fun a b _ _ h1 h2 => List.le_antisymm h1 h2) w1 w2 p2
  rw [← e, List.map_map]
  conv => lhs; rw [← List.map_id ys]
  exact List.map_congr_left fun z _ => by cases z; simp
theorem reps_strs2 {R : Hp} : ∀ (ys : List (List Nat)), Reps g R (ys.map .str) ((ys.map mkS).map V.str)
  | [] => Reps.nil
  | y :: ys => Reps.cons (by simp [Rep]) (reps_strs2 ys)
theorem cb_sorted (hK : g.K = X.K) : CallR X (.builtin "sorted") (rB g (bltD .sorted)) := by
  intro pins s σ H xs us Q I r ⟨R, ds, d, ok, rs, e, q⟩
  match ds, e with
  | [.lst l], e =>
    obtain ⟨v, rfl, rv⟩ := rs.one
    simp only [bltD] at e
    split at e
    · rename_i ys hy
      split at e
      · rename_i hl
        cases e
        simp only [Rep] at rv
        obtain ⟨a, vs, rfl, hq, hr⟩ := rv
        rw [allStr_inv hy] at hr
        have hv := hr.strs
        subst hv
        refine cr_sortedS pins s σ H _ us Q I r ⟨a, ys.map mkS, rfl, SqL.of (ok.sub _ _ hq), by rw [List.length_map]; exact hl, fun zs p hp hs np => ?_⟩
        have hz := sortS_eq hp hs
        subst hz
        obtain ⟨ok', st⟩ := ok.lay (o := .lst (((sortS ys).map mkS).map V.str)) np (fun ps z => by cases z)
        refine q _ _ _ ok' st ?_
        simp only [Rep]
        refine ⟨p, _, rfl, upd_same, ?_⟩
        exact reps_strs2 (sortS ys)
      · cases e
    · cases e
theorem mt_startswithD : MtR X "str.startswith" (rM g .startswith) := by
  intro pins s σ H x xs v us Q I rx rs ⟨R, d, ds, y, ok, r, rr, e, q⟩
  match d, ds, e with
  | .str a, [.str b], e =>
    cases e
    obtain ⟨v, rfl, rv⟩ := rr.one
    exact mt_startswith pins s σ H _ _ _ us Q I rx rs ⟨_, _, r.str, by rw [rv.str], q R H _ ok Step.refl (by simp [Rep])⟩
theorem mt_findD : MtR X "str.find" (rM g .find) := by
  intro pins s σ H x xs v us Q I rx rs ⟨R, d, ds, y, ok, r, rr, e, q⟩
  match d, ds, e with
  | .str a, [.str b], e =>
    cases e
    obtain ⟨v, rfl, rv⟩ := rr.one
    exact mt_find pins s σ H _ _ _ us Q I rx rs ⟨_, _, r.str, by rw [rv.str], q R H _ ok Step.refl (by simp [Rep])⟩
theorem len_ne {b : List Nat} (h : b ≠ []) : ((mkS b).length == 0) = false := by
  rw [str_len]
  cases b with
  | nil => exact absurd rfl h
  | cons => rfl
theorem mt_partitionD : MtR X "str.partition" (rM g .partition) := by
  intro pins s σ H x xs v us Q I rx rs ⟨R, d, ds, y, ok, r, rr, e, q⟩
  match d, ds, e with
  | .str a, [.str b], e =>
    simp only [mthD] at e
    split at e
    · rename_i c
      cases e
      obtain ⟨v, rfl, rv⟩ := rr.one
      refine mt_partition pins s σ H _ _ _ us Q I rx rs ⟨_, _, r.str, by rw [rv.str], len_ne c.1, by rw [str_len, ← maxl_line]; exact c.2, fun p np => ?_⟩
      obtain ⟨ok', st⟩ := ok.lay (o := .tup [.str (Txt.partition (mkS a) (mkS b)).1, .str (Txt.partition (mkS a) (mkS b)).2.1, .str (Txt.partition (mkS a) (mkS b)).2.2]) np (fun ps z => by cases z)
      refine q _ _ _ ok' st ?_
      simp only [Rep]
      exact ⟨p, _, rfl, SqT.of upd_same, Reps.cons (by simp [Rep]) (Reps.cons (by simp [Rep]) (Reps.cons (by simp [Rep]) Reps.nil))⟩
    · cases e
theorem mt_splitD : MtR X "str.split" (rM g .split) := by
  intro pins s σ H x xs v us Q I rx rs ⟨R, d, ds, y, ok, r, rr, e, q⟩
  match d, ds, e with
  | .str a, [.str b], e =>
    simp only [mthD] at e
    split at e
    · rename_i c
      cases e
      obtain ⟨v, rfl, rv⟩ := rr.one
      refine mt_split pins s σ H _ _ _ us Q I rx rs ⟨_, _, r.str, by rw [rv.str], len_ne c.1, by rw [str_len, ← maxl_line]; exact c.2, fun p np => ?_⟩
      obtain ⟨ok', st⟩ := ok.lay (o := .lst ((Txt.split (mkS a) (mkS b)).map V.str)) np (fun ps z => by cases z)
      refine q _ _ _ ok' st ?_
      simp only [Rep]
      exact ⟨p, _, rfl, upd_same, reps_strs _⟩
    · cases e
theorem join_key {pins : List (Addr × Obj)} {s : Shared} {σ : L2.St} {H : Hp} {x : V} {xs : List V} {v : Value} {us : List Value} {Q : VK} (I : Inv X pins σ H s) (rx : RelV x v) (rs : Vals xs us) {R : Hp} {y : D} (ok : Ok g R H)
    (q : ∀ R' H' w, Ok g R' H' → Step R H R' H' → Rep g R' y w → Q w H') {a : List Nat} {l : List D} {p : Addr} {vs : List V} (r : Rep g R (.str a) x) (hr : Reps g R l vs) (hx : xs = [.ref p]) (hq : SqL X.K H p vs ∨ SqT X.K H p vs)
    (e : (match allStr l with
        | some ys => if (ys.map List.length).sum + ys.length * a.length ≤ MAXL then Res.ok (D.str (Txt.join (mkS a) (ys.map mkS)).cps.toList) else .bad
        | none => .bad) = .ok y) : wpAny (model X.prog X.w) X.A (call (.builtin "str.join") (v :: us)) (EP X pins σ Q) X.xe s := by
  split at e
  · rename_i ys hy
    split at e
    · rename_i hz
      cases e
      rw [allStr_inv hy] at hr
      rw [hr.strs] at hq
      refine mt_join pins s σ H _ _ _ us Q I rx rs ⟨_, p, ys.map mkS, r.str, hx, hq, ?_, q R H _ ok Step.refl (by simp [Rep])⟩
      have e1 : ((ys.map mkS).map (fun z : Str => z.length)).sum = (ys.map List.length).sum := by
        rw [List.map_map]
        congr 1
      rw [e1, List.length_map, str_len]
      exact hz
    · cases e
  · cases e
theorem mt_joinD (hK : g.K = X.K) : MtR X "str.join" (rM g .join) := by
  intro pins s σ H x xs v us Q I rx rs ⟨R, d, ds, y, ok, r, rr, e, q⟩
  match d, ds, e with
  | .str a, [.lst l], e =>
    obtain ⟨v, rfl, rv⟩ := rr.one
    simp only [Rep] at rv
    obtain ⟨p, vs, rfl, hq, hr⟩ := rv
    exact join_key I rx rs ok q r hr rfl (.inl (SqL.of (ok.sub _ _ hq))) e
  | .str a, [.tup l], e =>
    obtain ⟨v, rfl, rv⟩ := rr.one
    simp only [Rep] at rv
    obtain ⟨p, vs, rfl, hq, hr⟩ := rv
    exact join_key I rx rs ok q r hr rfl (.inr (hK ▸ SqT.le ok.sub hq)) e
theorem mt_rjustD : MtR X "str.rjust" (rM g .rjust) := by
  intro pins s σ H x xs v us Q I rx rs ⟨R, d, ds, y, ok, r, rr, e, q⟩
  match d, ds, e with
  | .str a, [.int i, .str [c]], e =>
    simp only [mthD] at e
    split at e
    · rename_i hc
      cases e
      obtain ⟨v1, v2, rfl, rv1, rv2⟩ := rr.two
      have e0 := r.str
      have e2 := rv2.str
      simp only [Rep] at rv1
      subst e0
      subst e2
      subst rv1
      obtain ⟨t, rfl⟩ := rx
      cases rs with
      | cons q1 rs =>
        cases rs with
        | cons q2 rs =>
          cases rs
          obtain ⟨t1, rfl⟩ := q1
          obtain ⟨t2, rfl⟩ := q2
          refine rjust_fill (padOk_of (by omega) (by omega)) (by rfl) fun t' k => ?_
          have e3 : ∀ z : Str, z.cps.toList = List.replicate (i.toNat - a.length) c ++ a → z = mkS (List.replicate (i.toNat - a.length) c ++ a) := fun z hz => by
            cases z
            rw [← hz]
          refine ⟨.str (mkS (List.replicate (i.toNat - a.length) c ++ a)), H, I.tok k, ⟨t', ?_⟩, q R H _ ok Step.refl (by simp [Rep])⟩
          congr 1
          refine e3 _ ?_
          rw [rjustF_list, str_len]
          rfl
    · cases e
theorem mt_indexDD (hK : g.K = X.K) (hu : X.A.units + 65 < cLine) : MtR X "list.index" (rM g .index) := by
  intro pins s σ H x xs v us Q I rx rs ⟨R, d, ds, y, ok, r, rr, e, q⟩
  match d, ds, e with
  | .lst l, [b], e =>
    obtain ⟨v, rfl, rv⟩ := rr.one
    simp only [mthD] at e
    split at e
    · rename_i ps p hps hp
      split at e
      · rename_i hs
        split at e
        · rename_i j hj
          cases e
          have hl : Dp g.K H x (.list ps) := Rep.dp ok.sub (.lst l) x (.list ps) r (by simp only [toP, hps]; rfl)
          have hb : Dp g.K H v p := Rep.dp ok.sub b v p rv hp
          have r' := r
          simp only [Rep] at r'
          obtain ⟨a, vs, rfl, _, _⟩ := r'
          obtain ⟨hlt, h1, h2⟩ := List.findIdx?_eq_some_iff_getElem.mp hj
          exact mt_indexD hu pins s σ H _ _ _ us Q I rx rs ⟨a, v, p, ps, j, ps[j], rfl, rfl, hK ▸ hl, hK ▸ hb, hs.1, hs.2, List.getElem?_eq_getElem hlt, h1, fun m z' hm hz => by
            obtain ⟨hm2, e2⟩ := List.getElem?_eq_some_iff.mp hz
            have := h2 m hm
            rw [e2] at this
            simpa using this, q R H _ ok Step.refl (by simp [Rep])⟩
        · cases e
      · cases e
    · cases e
end
/-! ### isinstance -/
def tyN : Ty → String
  | .int => "int"
  | .bool => "bool"
  | .str => "str"
  | .tuple => "tuple"
  | .list => "list"
/-- the data's own class -/
def clsN : D → String
  | .non => "NoneType"
  | .bl _ => "bool"
  | .int _ => "int"
  | .str _ => "str"
  | .tup _ => "tuple"
  | .lst _ => "list"
  | _ => "?"
theorem kit_strs (t : Ty) : kitB "NoneType" (tyN t) = some (isTy t .non) ∧ kitB "bool" (tyN t) = some (isTy t (.bl true)) ∧ kitB "int" (tyN t) = some (isTy t (.int 0)) ∧ kitB "str" (tyN t) = some (isTy t (.str [])) ∧
    kitB "tuple" (tyN t) = some (isTy t (.tup [])) ∧ kitB "list" (tyN t) = some (isTy t (.lst [])) := by
  cases t <;> decide +kernel
theorem kit_all (K : PySem.W.Frag) (t : Ty) (d : D) (h : isFn d = false) : PySem.W.kitOne K (.type (clsN d)) (.type (tyN t)) = some (isTy t d) := by
  obtain ⟨h1, h2, h3, h4, h5, h6⟩ := kit_strs t
  cases d with
  | non => exact kit_ty h1
  | bl b => exact (kit_ty h2).trans (by cases t <;> rfl)
  | int b => exact (kit_ty h3).trans (by cases t <;> rfl)
  | str b => exact (kit_ty h4).trans (by cases t <;> rfl)
  | tup b => exact (kit_ty h5).trans (by cases t <;> rfl)
  | lst b => exact (kit_ty h6).trans (by cases t <;> rfl)
  | fn b => cases h
  | scr b => cases h
theorem Rep.tyx {g : Gx} {R H : Hp} {d : D} {v : V} (ok : Ok g R H) (r : Rep g R d v) (h : isFn d = false) : TyX g.K H v (.type (clsN d)) := by
  cases d <;> first | (cases h; done) | skip
  all_goals simp only [Rep] at r
  · subst r; exact .base .non
  · subst r; exact .base (.bl _)
  · subst r; exact .base (.int _)
  · subst r; exact .base (.str _)
  · obtain ⟨a, vs, rfl, hq, _⟩ := r
    rcases SqT.le ok.sub hq with (h1 | ⟨o, h1⟩) | ⟨o, its, n, h1, h2, _⟩
    · exact .base (.tup h1)
    · exact .fTuple h1
    · exact .kTuple h1 h2
  · obtain ⟨a, vs, rfl, hq, _⟩ := r
    exact .base (.lst (ok.sub _ _ hq))
def isiK (t : Ty) (d : D) : Res D := if isFn d = true then .bad else .ok (.bl (isTy t d))
theorem cb_isi (hK : g.K = X.K) (t : Ty) : CallR X (.builtin "isinstance") (fun xs H Q => ∃ x, xs = [x, .ty (tyN t)] ∧ rB g (fun ds => match ds with | [d] => isiK t d | _ => .bad) [x] H Q) := by
  intro pins s σ H xs us Q I r ⟨x, ex, R, ds, d, ok, rs, e, q⟩
  match ds, e with
  | [d0], e =>
    obtain ⟨v, ev, rv⟩ := rs.one
    cases ev
    simp only [isiK] at e
    split at e
    · cases e
    · rename_i hf
      have hf' : isFn d0 = false := by simpa using hf
      cases e
      exact call_isi pins s σ H xs us Q I r ⟨x, .ty (tyN t), _, _, isTy t d0, ex, .ty _, hK ▸ Rep.tyx ok rv hf', kit_all _ t d0 hf', q R H _ ok Step.refl (by simp [Rep])⟩
end Ev
set_option Elab.async false
set_option linter.all false
set_option maxRecDepth 100000
set_option maxHeartbeats 4000000
/-! EvT: the def that tells of a lambda's outcome. -/
namespace Ev
open PySem PySem.Spec PyProof.Rows L2
/-! ### isinstance of what was caught -/
/-- an error's class, as isinstance looks at it -/
def excIsB (K : PySem.W.Frag) (C : Addr) : Bool :=
  (PySem.W.clsIn K C).isSome && decide (PySem.W.findIn K (.ref C) "__getattribute__" = some (some (.builtin "BaseException.__getattribute__"))) && (PySem.W.findIn K (.ref C) "__getattr__").isSome &&
    decide (PySem.W.subIn K (.ref C) (.type "BaseException") = some true) && decide (PySem.W.findIn K (.ref C) "__class__" = some (some (.builtin "object.__class__"))) &&
    decide (PySem.W.specialIn K (.builtin "object.__class__") "__get__" = some (some (.builtin "getset_descriptor.__get__"))) && decide (PySem.W.takesIn K (.builtin "object.__class__") = some true) && decide (PySem.W.mroIn K C (.type "object") = some true)
theorem call_isiE {X : Cx} {a C : Addr} {oe : Obj} {pn : List (Addr × Obj)} (hC : excIsB X.K C = true) (hz : Zc (.ref C) none oe) (hd : ∃ vs, oe.data = .fields vs) :
    CallR (X.suite a ((a, oe) :: pn)) (.builtin "isinstance") (fun xs H Q => ∃ (c : V) (u : Value) (b : Bool), xs = [.ref a, c] ∧ ClsV c u ∧ PySem.W.kitOne X.K (.ref C) u = some b ∧ Q (.bl b) H) := by
  intro pins s σ H xs us Q I r h
  obtain ⟨c, u, b, rfl, k, e, q⟩ := h
  obtain ⟨u1, u2, rfl, r1, r2⟩ := vals2 r
  have e2 := k.eq r2
  subst e2
  cases (show u1 = Value.ref a from r1)
  unfold excIsB at hC
  simp only [Bool.and_eq_true, decide_eq_true_eq] at hC
  obtain ⟨⟨⟨⟨⟨⟨⟨h1, h2⟩, h3⟩, h4⟩, h5⟩, h6⟩, h7⟩, h8⟩ := hC
  obtain ⟨gt, h3⟩ := Option.isSome_iff_exists.mp h3
  have hp := (I.pin (a, oe) (by simp)).1
  have Z := PySem.W.kitx_exc (x := a) (ox := oe) (od := none) h1 h2 h3 h4 h5 h6 h7 h8
  refine PySem.W.kia_one Z I.kIn ⟨hp, hz.1, ?_, ?_⟩ e (by intro z; cases z) fun tk => ⟨.bl b, H, I.tok tk, rfl, q⟩
  · obtain ⟨vs, hd⟩ := hd
    unfold PySem.W.notCls
    rw [hd]
  · rw [hz.2]
    trivial
/-! ### count of flat things -/
def rCntF (K : PySem.W.Frag) : V → List V → Hp → VK → Prop := fun x xs H Q => ∃ (a : Addr) (ys : List V) (y : V), x = .ref a ∧ xs = [y] ∧ SqL K H a ys ∧ flatV y = true ∧ ys.all flatV = true ∧ Q (.int (ys.countP fun z => eqV z y : Nat)) H
theorem count_eqU {y : V} : ∀ {ys : List V} {us : List Value}, Vals ys us → ys.all flatV = true → us.countP (eqU y) = ys.countP fun z => eqV z y
  | _, _, .nil, _ => rfl
  | z :: ys, u :: us, .cons r t, f => by
    rw [List.all_cons, Bool.and_eq_true] at f
    rw [List.countP_cons, List.countP_cons, count_eqU t f.2, eqU_of r f.1]
theorem mt_countF {X : Cx} : MtR X "list.count" (rCntF X.K) := by
  intro pins s σ H x xs v us Q I rx rxs h
  obtain ⟨a, ys, y, rfl, rfl, hs, fy, fys, q⟩ := h
  cases rx
  cases rxs with
  | cons ry rt =>
    rename_i uy ut
    cases rt
    obtain ⟨its, rv, ⟨⟨cls, dd, data, sl⟩, n, ho, hc, hdn, hd⟩, hlen⟩ := I.list hs
    simp only at hc hd
    subst hc hd
    refine call_meets PySem.F.slot_list_count ⟨_, ho, rfl⟩ PySem.F.entry_list_count (PySem.F.args_list_count_2 _ _)
      (SeqAt.list_countAt a its.toArray n dd sl uy (eqU y)) ⟨ho, fun u' hu' => mem_eqAt ry fy rv fys u' (by simpa using hu'), ?_⟩
    have ec : its.toArray.toList.countP (eqU y) = ys.countP fun z => eqV z y := count_eqU rv fys
    refine ⟨.int (ys.countP fun z => eqV z y : Nat), H, I.tok _, ⟨s.toks, ?_⟩, q⟩
    show Value.int ((its.toArray.toList.countP (eqU y) : Nat) : Int) s.toks = Value.int ((ys.countP fun z => eqV z y : Nat) : Int) s.toks
    rw [ec]
/-! ### the def -/
/-- the classes that are asked for -/
def tCls : List String := ["TooGreat", "NoText", "NoDeed", "NoKey", "NoRoom"]
def kinds (i : Nat) : List V := (List.range 5).map fun j => .bl (decide (i = j))
/-- what is told of the error's class at C, the i-th -/
structure ToldC (K : PySem.W.Frag) (base : Addr) (cl : Nat → Addr) (C : Addr) (i : Nat) : Prop where
  lt : i < 5
  is : excIsB K C = true
  exm : PySem.W.exmOne K (.ref C) (.ref base) = some true
  kit : ∀ j, j < 5 → PySem.W.kitOne K (.ref C) (.ref (cl j)) = some (decide (i = j))
  ve : PySem.W.kitOne K (.ref C) (.type "ValueError") = some true
def TT5 (K : PySem.W.Frag) (base : Addr) (cl : Nat → Addr) : (XK → Hp → VK → Prop) → Hp → VK → Prop := fun tl H Q =>
  tl (fun cls d H' => d = none ∧ ∃ C i, cls = .ref C ∧ ToldC K base cl C i ∧ ∀ l p1 p2, H' l = none → l ≠ p1 → l ≠ p2 → p1 ≠ p2 → H' p1 = none → H' p2 = none →
    Q (.ref p2) (upd (upd (upd H' l (.lst (kinds i))) p1 (.tup [.str "refused", .int (-1)])) p2 (.tup [.str "refused", .int i]))) H
    (fun v H1 => ∀ p, H1 p = none → Q (.ref p) (upd H1 p (.tup [.str "told", v])))
theorem kinds_count : ∀ i, i < 5 → ((kinds i).countP fun z => eqV z (.bl true)) = 1
  | 0, _ | 1, _ | 2, _ | 3, _ | 4, _ => rfl
  | n + 5, h => by omega

/-- the text of the def that tells; x: its parameter -/
def tBody (x : Str) (j1 j2 j3 j4 j5 j6 j7 j8 j9 j10 : Nat) (p1 p2 p3 p4 p5 p6 p7 p8 p9 p10 p11 p12 p13 p14 p15 p16 p17 p18 p19 p20 p21 p22 p23 p24 p25 p26 p27 p28 p29 p30 p31 p32 p33 p34 p35 p36 p37 p38 p39 p40 a0 b0 c0 d0 a1 b1 c1 d1 a2 b2 c2 d2 a3 b3 c3 d3 a4 b4 c4 d4 a5 b5 c5 d5 : Pos) : List Stmt := [.Try [.Assign [.Name "_law_found" p1] (.Tuple [.Constant (.str "told") j1 p2, .Call (.Name x p3) [] [] p4] j2 p5) p6]
      [.ExceptHandler (some (.Name "PileError" p7)) (some "e") [.Assign [.Name "_law_kinds" p8] (.List [(.Call (.Name "isinstance" a0) [.Name "e" b0, .Name "TooGreat" c0] [] d0), (.Call (.Name "isinstance" a1) [.Name "e" b1, .Name "NoText" c1] [] d1), (.Call (.Name "isinstance" a2) [.Name "e" b2, .Name "NoDeed" c2] [] d2), (.Call (.Name "isinstance" a3) [.Name "e" b3, .Name "NoKey" c3] [] d3)] p9) p10,
        .Expr (.Call (.Attribute (.Name "_law_kinds" p11) "append" p12) [(.Call (.Name "isinstance" a4) [.Name "e" b4, .Name "NoRoom" c4] [] d4)] [] p13) p14,
        .Assign [.Name "_law_found" p15] (.Tuple [.Constant (.str "refused") j3 p16, .UnaryOp .USub (.Constant (.int 1) j4 p17) p18] j5 p19) p20,
        .If (.BoolOp .And [(.Call (.Name "isinstance" a5) [.Name "e" b5, .Name "ValueError" c5] [] d5), .Compare (.Call (.Attribute (.Name "_law_kinds" p21) "count" p22) [.Constant (.bool true) j6 p23] [] p24) [.Eq] [.Constant (.int 1) j7 p25] p26] p27)
          [.Assign [.Name "_law_found" p28] (.Tuple [.Constant (.str "refused") j8 p29, .Call (.Attribute (.Name "_law_kinds" p30) "index" p31) [.Constant (.bool true) j9 p32] [] p33] j10 p34) p35] [] p36] p37] [] [] p38,
    .Return (some (.Name "_law_found" p39)) p40]
abbrev tN (x : Str) : List Str := [x, "_law_found", "e", "_law_kinds"]
/-- what the def's names are -/
structure ToldS (x : Str) (sg : Scope) : Prop where
  S : FnScope (tN x) [x] sg
  gl : ∀ y ∈ (["isinstance", "TooGreat", "NoText", "NoDeed", "NoKey", "NoRoom", "ValueError", "PileError"] : List Str), sg.names.lookup y = some .globalImplicit
  lc : ∀ y ∈ tN x, sg.names.lookup y = some .local

section
variable {X : Cx} {x dn q : Str} {sg : Scope} {g base : Addr} {cl : Nat → Addr} {cdg : Value} {j1 j2 j3 j4 j5 j6 j7 j8 j9 j10 : Nat} {p1 p2 p3 p4 p5 p6 p7 p8 p9 p10 p11 p12 p13 p14 p15 p16 p17 p18 p19 p20 p21 p22 p23 p24 p25 p26 p27 p28 p29 p30 p31 p32 p33 p34 p35 p36 p37 p38 p39 p40 a0 b0 c0 d0 a1 b1 c1 d1 a2 b2 c2 d2 a3 b3 c3 d3 a4 b4 c4 d4 a5 b5 c5 d5 : Pos}
structure ToldM (mg : Str → Option Value) (base : Addr) (cl : Nat → Addr) : Prop where
  I : mg "isinstance" = none
  V : mg "ValueError" = none
  B : mg "PileError" = some (.ref base)
  c0 : mg "TooGreat" = some (.ref (cl 0))
  c1 : mg "NoText" = some (.ref (cl 1))
  c2 : mg "NoDeed" = some (.ref (cl 2))
  c3 : mg "NoKey" = some (.ref (cl 3))
  c4 : mg "NoRoom" = some (.ref (cl 4))
theorem kinds_at : ∀ i, i < 5 → (kinds i)[i]? = some (.bl true) ∧ ∀ (m : Nat) (z' : V), m < i → (kinds i)[m]? = some z' → eqV z' (.bl true) = false
  | 0, _ => ⟨rfl, fun m z h => by omega⟩
  | 1, _ => ⟨rfl, fun m z h e => by
    match m, h with
    | 0, _ => cases e; rfl⟩
  | 2, _ => ⟨rfl, fun m z h e => by
    match m, h with
    | 0, _ | 1, _ => cases e; rfl⟩
  | 3, _ => ⟨rfl, fun m z h e => by
    match m, h with
    | 0, _ | 1, _ | 2, _ => cases e; rfl⟩
  | 4, _ => ⟨rfl, fun m z h e => by
    match m, h with
    | 0, _ | 1, _ | 2, _ | 3, _ => cases e; rfl⟩
  | n + 5, h => by omega
theorem ite_t {A B : Prop} (h : A) : if true = true then A else B := by rw [if_pos rfl]; exact h
theorem pe_weak {X : Cx} {e : Expr} {t : TE} (h : PE X e t) : PE X e (fun σ H Q => ∃ Q' : VK, (∀ v H', Q' v H' → Q v H') ∧ t σ H Q') := ⟨fun pins s σ H Q I ⟨Q', hq, ht⟩ => wpAny_mono (h.run pins s σ H Q' I ht) (fun v s' ⟨w, H1, I1, r, q⟩ => ⟨w, H1, I1, r, hq _ _ q⟩) fun _ _ z => z⟩
theorem told5 (T : ToldS x sg) (M : ToldM X.mg base cl) (hx : (x == ("__debug__" : Str)) = false) (hx2 : (x == ("__classdict__" : Str)) = false) (h1 : (p12.endLine == p13.line) = true) (h2 : (p22.endLine == p24.line) = true) (h3 : (p31.endLine == p33.line) = true) :
    LamX.GivesTo X (tN x) dn sg g cdg (tBody x j1 j2 j3 j4 j5 j6 j7 j8 j9 j10 p1 p2 p3 p4 p5 p6 p7 p8 p9 p10 p11 p12 p13 p14 p15 p16 p17 p18 p19 p20 p21 p22 p23 p24 p25 p26 p27 p28 p29 p30 p31 p32 p33 p34 p35 p36 p37 p38 p39 p40 a0 b0 c0 d0 a1 b1 c1 d1 a2 b2 c2 d2 a3 b3 c3 d3 a4 b4 c4 d4 a5 b5 c5 d5) x q (TT5 X.K base cl) := by
  intro f c' s H Q tl act hc h
  have v1 : sg.names.lookup ("_law_found" : Str) = some .local := T.lc _ (by simp)
  have v2 : sg.names.lookup ("e" : Str) = some .local := T.lc _ (by simp)
  have v3 : sg.names.lookup ("_law_kinds" : Str) = some .local := T.lc _ (by simp)
  have gI : sg.names.lookup ("isinstance" : Str) = some .globalImplicit := T.gl _ (by simp)
  have gV : sg.names.lookup ("ValueError" : Str) = some .globalImplicit := T.gl _ (by simp)
  have gB : sg.names.lookup ("PileError" : Str) = some .globalImplicit := T.gl _ (by simp)
  have g0 : sg.names.lookup ("TooGreat" : Str) = some .globalImplicit := T.gl _ (by simp)
  have g1 : sg.names.lookup ("NoText" : Str) = some .globalImplicit := T.gl _ (by simp)
  have g2 : sg.names.lookup ("NoDeed" : Str) = some .globalImplicit := T.gl _ (by simp)
  have g3 : sg.names.lookup ("NoKey" : Str) = some .globalImplicit := T.gl _ (by simp)
  have g4 : sg.names.lookup ("NoRoom" : Str) = some .globalImplicit := T.gl _ (by simp)
  have nd := T.S.nd
  refine ⟨_, pss_cons (ps_try_as (X := (cxOf C8.CX0 X.prog X.w X.K X.mg X.base (tN x) dn sg g cdg X.A X.stack s H C8.E0).nox) (i := 2) (c := .ref base)
      (tb := fun W D σ H => ∃ Ech : XK, (∀ cls d σ' H', Ech cls d H' → W cls d σ' H') ∧ σ[0]? = some (some (.ref f)) ∧ H c' = some (LamX.CodeO c' q) ∧ ∃ Q' : VK, (∀ v H1, Q' v H1 → ∀ p, H1 p = none → D.nx (σ.set 1 (some (.ref p))) (upd H1 p (.tup [.str "told", v]))) ∧ tl Ech H Q')
      (ts := fun a cls d D σ H => (∃ σ' : L2.St, σ = σ'.set 2 (some (.ref a))) ∧ d = none ∧ ∃ C i, cls = .ref C ∧ ToldC X.K base cl C i ∧ ∀ l p1 p2, H l = none → l ≠ p1 → l ≠ p2 → p1 ≠ p2 → H p1 = none → H p2 = none →
        ∀ τ, τ.length = 4 → τ[1]? = some (some (.ref p2)) → D.nx τ (upd (upd (upd H l (.lst (kinds i))) p1 (.tup [.str "refused", .int (-1)])) p2 (.tup [.str "refused", .int i])))
      rfl rfl nd rfl v2 ⟨gB, by decide, .inl M.B⟩ LamX.takes0 (fun W pn xe tk _ => ?_) (fun a oe cls d pn hz hd => ?_)) (pss_one (ps_ret (pv 1 (hv := .inl v1)))), ?_⟩
  · refine ⟨fun pins s' σ H' D I h' => ?_⟩
    obtain ⟨Ech, hW, k1, k2, Q', k3, k4⟩ := h'
    have hp := pe_weak (act W pn xe Ech p3 p4 tk hW)
    refine (pss_one (ps_set (i := 1) (pos := p6) (pos' := p1) nd rfl (.inl v1) (pe_tup (x1 := j2) (pos := p5) (pa_cons (pe_str (j := j1) (pos := p2)) (pa_cons hp pa_nil))) (hf := .inr v1))).run pins s' σ H' D I ?_
    exact ⟨Q', fun v H1 qv => ⟨by show 2 ≤ sizeLine; rw [sizeLine_eq]; omega, fun p hp => k3 v H1 qv p hp⟩, k1, k2, k4⟩
  · refine ⟨fun pins s' σ H' D I h' => ?_⟩
    obtain ⟨⟨σ', e1⟩, e2, C, i, e3, TC, h'⟩ := h'
    subst e2 e3
    have hl : σ.length = 4 := I.len
    have s2 : σ[2]? = some (some (.ref a)) := by
      rw [e1] at hl ⊢
      rw [List.length_set] at hl
      rw [List.getElem?_set_self (by omega)]
    have isi := call_isiE (X := (cxOf C8.CX0 X.prog X.w X.K X.mg X.base (tN x) dn sg g cdg X.A X.stack s H C8.E0).nox) (a := a) (pn := pn) TC.is hz hd
    have E0 : PE ((cxOf C8.CX0 X.prog X.w X.K X.mg X.base (tN x) dn sg g cdg X.A X.stack s H C8.E0).nox.suite a ((a, oe) :: pn)) (.Call (.Name "isinstance" a0) [.Name "e" b0, .Name "TooGreat" c0] [] d0) _ := pe_callB isi gI M.I PyProof.Rows.boot_isinstance (pa_cons (pv 2 (hv := .inl v2)) (pa_cons (pe_glob g0 M.c0 (v := .ref (cl 0)) rfl) pa_nil))
    have E1 : PE ((cxOf C8.CX0 X.prog X.w X.K X.mg X.base (tN x) dn sg g cdg X.A X.stack s H C8.E0).nox.suite a ((a, oe) :: pn)) (.Call (.Name "isinstance" a1) [.Name "e" b1, .Name "NoText" c1] [] d1) _ := pe_callB isi gI M.I PyProof.Rows.boot_isinstance (pa_cons (pv 2 (hv := .inl v2)) (pa_cons (pe_glob g1 M.c1 (v := .ref (cl 1)) rfl) pa_nil))
    have E2 : PE ((cxOf C8.CX0 X.prog X.w X.K X.mg X.base (tN x) dn sg g cdg X.A X.stack s H C8.E0).nox.suite a ((a, oe) :: pn)) (.Call (.Name "isinstance" a2) [.Name "e" b2, .Name "NoDeed" c2] [] d2) _ := pe_callB isi gI M.I PyProof.Rows.boot_isinstance (pa_cons (pv 2 (hv := .inl v2)) (pa_cons (pe_glob g2 M.c2 (v := .ref (cl 2)) rfl) pa_nil))
    have E3 : PE ((cxOf C8.CX0 X.prog X.w X.K X.mg X.base (tN x) dn sg g cdg X.A X.stack s H C8.E0).nox.suite a ((a, oe) :: pn)) (.Call (.Name "isinstance" a3) [.Name "e" b3, .Name "NoKey" c3] [] d3) _ := pe_callB isi gI M.I PyProof.Rows.boot_isinstance (pa_cons (pv 2 (hv := .inl v2)) (pa_cons (pe_glob g3 M.c3 (v := .ref (cl 3)) rfl) pa_nil))
    have E4 : PE ((cxOf C8.CX0 X.prog X.w X.K X.mg X.base (tN x) dn sg g cdg X.A X.stack s H C8.E0).nox.suite a ((a, oe) :: pn)) (.Call (.Name "isinstance" a4) [.Name "e" b4, .Name "NoRoom" c4] [] d4) _ := pe_callB isi gI M.I PyProof.Rows.boot_isinstance (pa_cons (pv 2 (hv := .inl v2)) (pa_cons (pe_glob g4 M.c4 (v := .ref (cl 4)) rfl) pa_nil))
    have E5 : PE ((cxOf C8.CX0 X.prog X.w X.K X.mg X.base (tN x) dn sg g cdg X.A X.stack s H C8.E0).nox.suite a ((a, oe) :: pn)) (.Call (.Name "isinstance" a5) [.Name "e" b5, .Name "ValueError" c5] [] d5) _ := pe_callB isi gI M.I PyProof.Rows.boot_isinstance (pa_cons (pv 2 (hv := .inl v2)) (pa_cons (pe_bltn gV M.V (show bootBuiltins "ValueError" = some (.type "ValueError") by decide +kernel) (v := .ty "ValueError") rfl) pa_nil))
    refine (pss_cons (ps_set (i := 3) (pos := p10) (pos' := p8) nd rfl (.inl v3) (pe_lst (pos := p9) (pa_cons E0 (pa_cons E1 (pa_cons E2 (pa_cons E3 pa_nil))))) (hf := .inr v3))
      (pss_cons (ps_expr (pos := p14) (pe_bm PySem.F.plainAttrs_list PySem.F.slot_list_append PySem.F.type_list_append mt_append (pv 3 (pos := p11) (hv := .inl v3)) (pa_cons E4 pa_nil) (hline := h1)))
      (pss_cons (ps_set (i := 1) (pos := p20) (pos' := p15) nd rfl (.inl v1) (pe_tup (x1 := j5) (pos := p19) (pa_cons (pe_str (j := j3) (pos := p16)) (pa_cons (pe_un (pos := p18) un_neg (pe_int (j := j4) (pos := p17))) pa_nil))) (hf := .inr v1))
      (pss_one (ps_if (pos := p36) (pw_and (pos := p27) (pt_val E5) (pw_and1 (pt_cmpR (pos := p26) op_eq (pe_bm PySem.F.plainAttrs_list PySem.F.slot_list_count PySem.F.type_list_count mt_countF (pv 3 (pos := p21) (hv := .inl v3)) (pa_cons (pe_bl (j := j6) (pos := p23)) pa_nil) (hline := h2)) (pe_int (j := j7) (pos := p25)) (nomark _)))).pt
        (pss_one (ps_set (i := 1) (pos := p35) (pos' := p28) nd rfl (.inl v1) (pe_tup (x1 := j10) (pos := p34) (pa_cons (pe_str (j := j8) (pos := p29)) (pa_cons (pe_bm PySem.F.plainAttrs_list PySem.F.slot_list_index PySem.F.type_list_index mt_index (pv 3 (pos := p30) (hv := .inl v3)) (pa_cons (pe_bl (j := j9) (pos := p32)) pa_nil) (hline := h3)) pa_nil))) (hf := .inr v1)))
        pss_nil))))).run pins s' σ H' D I ?_
    have ki : ∀ j, j < 5 → W.kitOne X.K (.ref C) (.ref (cl j)) = some (decide (i = j)) := TC.kit
    refine ⟨_, s2, _, _, _, rfl, .own _, ki 0 (by omega), _, s2, _, _, _, rfl, .own _, ki 1 (by omega), _, s2, _, _, _, rfl, .own _, ki 2 (by omega), _, s2, _, _, _, rfl, .own _, ki 3 (by omega), by show 4 ≤ sizeLine; rw [sizeLine_eq]; omega, fun l hl0 => ?_⟩
    have q3 : (σ.set 3 (some (.ref l)))[3]? = some (some (V.ref l)) := by rw [List.getElem?_set_self (by omega)]
    have q2 : (σ.set 3 (some (.ref l)))[2]? = some (some (V.ref a)) := by rw [List.getElem?_set_ne (by omega)]; exact s2
    refine ⟨.ref l, q3, .inl ⟨rfl, _, SqL.of upd_same⟩, _, q2, _, _, _, rfl, .own _, ki 4 (by omega), l, _, _, rfl, rfl, upd_same, by show 4 < sizeLine; rw [sizeLine_eq]; omega, ?_⟩
    refine ⟨_, rfl, by show 2 ≤ sizeLine; rw [sizeLine_eq]; omega, fun r1 hr1 => ?_⟩
    rw [upd_upd] at hr1
    have hl1 : l ≠ r1 := fun z => by rw [z, upd_same] at hr1; cases hr1
    have e1' : upd (upd H' l (.lst [.bl (decide (i = 0)), .bl (decide (i = 1)), .bl (decide (i = 2)), .bl (decide (i = 3))])) l (.lst ([.bl (decide (i = 0)), .bl (decide (i = 1)), .bl (decide (i = 2)), .bl (decide (i = 3))] ++ [.bl (decide (i = 4))])) = upd H' l (.lst (kinds i)) := upd_upd
    have w2 : ((σ.set 3 (some (.ref l))).set 1 (some (.ref r1)))[2]? = some (some (V.ref a)) := by rw [List.getElem?_set_ne (by omega)]; exact q2
    have w3 : ((σ.set 3 (some (.ref l))).set 1 (some (.ref r1)))[3]? = some (some (V.ref l)) := by rw [List.getElem?_set_ne (by omega)]; exact q3
    have atl : ∀ o, (upd (upd (upd H' l (.lst [.bl (decide (i = 0)), .bl (decide (i = 1)), .bl (decide (i = 2)), .bl (decide (i = 3))])) l (.lst ([.bl (decide (i = 0)), .bl (decide (i = 1)), .bl (decide (i = 2)), .bl (decide (i = 3))] ++ [.bl (decide (i = 4))]))) r1 o) l = some (.lst (kinds i)) := fun o => by
      rw [upd_ne hl1, e1', upd_same]
    have fl : (kinds i).all flatV = true := rfl
    refine ⟨_, w2, _, _, _, rfl, .ty _, TC.ve, true, rfl, ite_t ⟨.ref l, w3, .inl ⟨rfl, _, SqL.of (atl _)⟩, l, kinds i, .bl true, rfl, rfl, SqL.of (atl _), rfl, fl, ?_⟩⟩
    rw [kinds_count i TC.lt]
    obtain ⟨k1, k2⟩ := kinds_at i TC.lt
    refine ⟨rfl, true, congrArg V.bl (decide_eq_true rfl), ite_t ⟨.ref l, w3, .inl ⟨rfl, _, SqL.of (atl _)⟩, l, kinds i, .bl true, i, .bl true, rfl, rfl, SqL.of (atl _), rfl, fl, k1, rfl, k2, by show 2 ≤ sizeLine; rw [sizeLine_eq]; omega, fun r2 hr2 => ?_⟩⟩
    have n12 : r1 ≠ r2 := fun z => by rw [← z, upd_same] at hr2; cases hr2
    have hl2 : l ≠ r2 := fun z => by rw [← z, atl] at hr2; cases hr2
    rw [upd_ne (Ne.symm n12), e1', upd_ne (Ne.symm hl2)] at hr2
    rw [upd_ne (Ne.symm hl1)] at hr1
    have w1 : (((σ.set 3 (some (.ref l))).set 1 (some (.ref r1))).set 1 (some (.ref r2)))[1]? = some (some (V.ref r2)) := by
      rw [List.getElem?_set_self (by rw [List.length_set, List.length_set]; omega)]
    have fin := h' l r1 r2 hl0 hl1 hl2 n12 hr1 hr2 _ (by rw [List.length_set, List.length_set, List.length_set]; exact hl) w1
    rw [← e1'] at fin
    exact fin
  · have hS : (L2.start (tN x) [V.ref f])[0]? = some (some (V.ref f)) := rfl
    refine ⟨_, ?_, hS, hc, _, ?_, h⟩
    · intro cls d σ' H' ⟨e2, C, i, e3, TC, hq⟩
      refine ⟨true, by rw [e3]; exact TC.exm, fun _ a na => ⟨⟨_, rfl⟩, e2, C, i, e3, TC, fun l p1 p2 n1 n2 n3 n4 n5 n6 τ hτ h1 => ?_⟩, fun z => nomatch z⟩
      exact ⟨_, by rw [List.getElem?_set_ne (by omega)]; exact h1, hq l p1 p2 n1 n2 n3 n4 n5 n6⟩
    · intro v H1 hq p hp
      exact ⟨.ref p, rfl, hq p hp⟩
end
/-- a text is the def that tells -/
inductive IsTold (x : Str) : List Stmt → Prop where
  | mk {j1 j2 j3 j4 j5 j6 j7 j8 j9 j10 : Nat} {p1 p2 p3 p4 p5 p6 p7 p8 p9 p10 p11 p12 p13 p14 p15 p16 p17 p18 p19 p20 p21 p22 p23 p24 p25 p26 p27 p28 p29 p30 p31 p32 p33 p34 p35 p36 p37 p38 p39 p40 a0 b0 c0 d0 a1 b1 c1 d1 a2 b2 c2 d2 a3 b3 c3 d3 a4 b4 c4 d4 a5 b5 c5 d5 : Pos} (h1 : (p12.endLine == p13.line) = true) (h2 : (p22.endLine == p24.line) = true) (h3 : (p31.endLine == p33.line) = true) : IsTold x (tBody x j1 j2 j3 j4 j5 j6 j7 j8 j9 j10 p1 p2 p3 p4 p5 p6 p7 p8 p9 p10 p11 p12 p13 p14 p15 p16 p17 p18 p19 p20 p21 p22 p23 p24 p25 p26 p27 p28 p29 p30 p31 p32 p33 p34 p35 p36 p37 p38 p39 p40 a0 b0 c0 d0 a1 b1 c1 d1 a2 b2 c2 d2 a3 b3 c3 d3 a4 b4 c4 d4 a5 b5 c5 d5)
def toldSB (x : Str) (sg : Scope) : Bool :=
  decide (sg.kind = .function) && !sg.isCoroutine && !sg.isGenerator && decide (tN x).Nodup && ((["isinstance", "TooGreat", "NoText", "NoDeed", "NoKey", "NoRoom", "ValueError", "PileError"] : List Str).all fun y => decide (sg.names.lookup y = some .globalImplicit)) &&
    ((tN x).all fun y => decide (sg.names.lookup y = some .local)) && (sg.names.all fun y => !decide (y.2 = .free)) && !(x == ("__debug__" : Str)) && !(x == ("__classdict__" : Str))
theorem toldSB_ok {x : Str} {sg : Scope} (h : toldSB x sg = true) : ToldS x sg ∧ (x == ("__debug__" : Str)) = false ∧ (x == ("__classdict__" : Str)) = false := by
  unfold toldSB at h
  simp only [Bool.and_eq_true, decide_eq_true_eq, Bool.not_eq_true', List.all_eq_true, decide_eq_false_iff_not] at h
  obtain ⟨⟨⟨⟨⟨⟨⟨⟨h1, h2⟩, h3⟩, h4⟩, h5⟩, h6⟩, h7⟩, h8⟩, h9⟩ := h
  exact ⟨⟨⟨h1, h2, h3, h4, rfl, fun y hy => .inl (h6 y (by
    rw [List.mem_singleton] at hy
    subst hy
    exact List.mem_cons_self)), h7⟩, h5, h6⟩, h8, h9⟩
/-- the names of the classes, in order -/
def tNm : Nat → Str
  | 0 => "TooGreat"
  | 1 => "NoText"
  | 2 => "NoDeed"
  | 3 => "NoKey"
  | _ => "NoRoom"
end Ev
set_option Elab.async false
set_option linter.all false
set_option maxRecDepth 100000
set_option maxHeartbeats 2000000
/-! EvF: that a text is what a term of the language says; that the text then does what the term tells. Expressions. -/
namespace Ev
open PySem PySem.Spec PyProof.Rows L2

/-! ### names -/
abbrev Names := List (Str × NameKind)
def visB (sc : Names) (x : Str) : Bool := match sc.lookup x with
  | some .local => true
  | some .cell => true
  | some .free => true
  | _ => false
def locB (sc : Names) (x : Str) : Bool := match sc.lookup x with
  | some .local => true
  | some .cell => true
  | _ => false
def clfB (sc : Names) (x : Str) : Bool := match sc.lookup x with
  | some .cell => true
  | some .free => true
  | _ => false
def glbB (sc : Names) (x : Str) : Bool := match sc.lookup x with
  | some .globalImplicit => true
  | _ => false
def notDbg (x : Str) : Bool := !(x == ("__debug__" : Str)) && !(x == ("__classdict__" : Str)) && !(x == ("__name__" : Str))
/-- what is known of the names by numbers: slots, defs, constants, built-ins that are free -/
structure Sx where
  N : List Str
  fN : List Str
  gN : List Str
  bN : List Str
  lam : Bool
def bltN : Blt → String
  | .len => "len"
  | .abs => "abs"
  | .int => "int"
  | .str => "str"
  | .tuple => "tuple"
  | .list => "list"
  | .max => "max"
  | .min => "min"
  | .all => "all"
  | .sorted => "sorted"
def litB (c : Const) (d : D) : Bool := match c, d with
  | .none, .non => true
  | .bool b, .bl k => b == k
  | .int i, .int j => i == j
  | .str s, .str t => s.cps.toList == t
  | _, _ => false
def bopB : BOp → Operator → Bool
  | .add, .Add => true
  | .sub, .Sub => true
  | .mul, .Mult => true
  | .fdiv, .FloorDiv => true
  | .mod, .Mod => true
  | .pow, .Pow => true
  | _, _ => false
def copB : COp → CmpOp → Bool
  | .eq, .Eq => true
  | .ne, .NotEq => true
  | .lt, .Lt => true
  | .le, .LtE => true
  | .gt, .Gt => true
  | .ge, .GtE => true
  | .is_, .Is => true
  | .isNot, .IsNot => true
  | .in_, .In => true
  | .notIn, .NotIn => true
  | _, _ => false
def isSlice : Expr → Bool
  | .Slice .. => true
  | _ => false
def strN (s : String) : Str := Str.ofString s
/-- targets -/
def chkT (S : Sx) (sc : Names) : Tg → Expr → Bool
  | .name i, e => match e with
    | .Name x _ => decide (S.N[i]? = some x) && locB sc x
    | _ => false
  | .tup is, e => match e with
    | .Tuple es _ _ => decide (es.length = is.length) && (es.zip is).all fun p => match p.1 with
      | .Name x _ => decide (S.N[p.2]? = some x) && locB sc x
      | _ => false
    | _ => false
/-- the block's own names -/
def ownB (S : Sx) (sc sc2 : Names) (own : List Nat) : Bool :=
  (sc2.all fun y => decide (sc2.lookup y.1 = some y.2)) && (own.all fun i => (S.N[i]?).isSome) &&
    sc2.all fun y => match y.2 with
      | .free => clfB sc y.1
      | .local => own.any (fun i => decide (S.N[i]? = some y.1)) || !(S.N.any fun z => decide (z = y.1))
      | .cell => own.any (fun i => decide (S.N[i]? = some y.1)) || !(S.N.any fun z => decide (z = y.1))
      | _ => true
def tgIn (own : List Nat) : Tg → Bool
  | .name i => own.any (· == i)
  | .tup is => is.all fun i => own.any (· == i)
def kinOp : CmpOp → Bool → Bool
  | .In, false => true
  | .NotIn, true => true
  | _, _ => false
theorem kinOp_ok {o : CmpOp} {neg : Bool} (h : kinOp o neg = true) : (o = .In ∧ neg = false) ∨ (o = .NotIn ∧ neg = true) := by
  cases o <;> cases neg <;> first | exact .inl ⟨rfl, rfl⟩ | exact .inr ⟨rfl, rfl⟩ | cases h
def keysB : List (List Nat) → List (Option Expr) → Bool
  | [], [] => true
  | k :: ks, some (.Constant (.str s) _ _) :: es => (s.cps.toList == k) && keysB ks es
  | _, _ => false
/-- a lambda's scope: captured names and globals alone -/
def lamNB (sc : Names) (scope : Scope) : Bool :=
  decide (scope.kind = .function) && !scope.isCoroutine && !scope.isGenerator && scope.names.all fun y => !decide (y.2 = .local) && !decide (y.2 = .cell) && (!decide (y.2 = .free) || clfB sc y.1)
def noArgs (p : Arguments) : Bool := match p with
  | ⟨[], [], none, [], [], none, []⟩ => true
  | _ => false
theorem noArgs_ok {p : Arguments} (h : noArgs p = true) : p = ⟨[], [], none, [], [], none, []⟩ := by
  unfold noArgs at h
  split at h
  · rfl
  · cases h
/-- zip wants a target of several -/
def zipOk : Itr_ → Expr → Bool
  | .zip _ _, .Tuple _ _ _ => true
  | .zip _ _, _ => false
  | _, _ => true
mutual
def chk (S : Sx) : Ex → Names → Expr → Bool
  | .lit d, _, e => match e with
    | .Constant c _ _ => litB c d
    | _ => false
  | .var i, sc, e => match e with
    | .Name x _ => decide (S.N[i]? = some x) && visB sc x && notDbg x
    | _ => false
  | .glob i, sc, e => match e with
    | .Name x _ => decide (S.gN[i]? = some x) && glbB sc x && notDbg x
    | _ => false
  | .bin o a b, sc, e => match e with
    | .BinOp l o' r _ => bopB o o' && chk S a sc l && chk S b sc r
    | _ => false
  | .neg a, sc, e => match e with
    | .UnaryOp .USub x _ => chk S a sc x
    | _ => false
  | .cmp o a b, sc, e => match e with
    | .Compare l [o'] [r] _ => copB o o' && chk S a sc l && chk S b sc r
    | _ => false
  | .chain o p a b c, sc, e => match e with
    | .Compare l [o', p'] [r, t] _ => copB o o' && copB p p' && chk S a sc l && chk S b sc r && chk S c sc t
    | _ => false
  | .and a b, sc, e => match e with
    | .BoolOp .And [x, y] _ => chk S a sc x && chk S b sc y
    | .BoolOp .And (x :: y :: z :: r) p => chk S a sc x && chk S b sc (.BoolOp .And (y :: z :: r) p)
    | _ => false
  | .or a b, sc, e => match e with
    | .BoolOp .Or [x, y] _ => chk S a sc x && chk S b sc y
    | .BoolOp .Or (x :: y :: z :: r) p => chk S a sc x && chk S b sc (.BoolOp .Or (y :: z :: r) p)
    | _ => false
  | .not a, sc, e => match e with
    | .UnaryOp .Not x _ => chk S a sc x
    | _ => false
  | .tup l, sc, e => match e with
    | .Tuple es _ _ => chks S l sc es
    | _ => false
  | .lst l, sc, e => match e with
    | .List es _ => chks S l sc es
    | _ => false
  | .idx a b, sc, e => match e with
    | .Subscript v s _ => chk S a sc v && !isSlice s && chk S b sc s
    | _ => false
  | .slice a lo hi, sc, e => match e with
    | .Subscript v (.Slice l h none _) _ => chk S a sc v && chko S lo sc l && chko S hi sc h
    | _ => false
  | .rev a, sc, e => match e with
    | .Subscript v (.Slice none none (some (.UnaryOp .USub (.Constant (.int 1) _ _) _)) _) _ => chk S a sc v
    | _ => false
  | .blt f l, sc, e => match e with
    | .Call (.Name x _) (y :: ys) [] _ => decide (x = strN (bltN f)) && glbB sc x && S.bN.contains x && chks S l sc (y :: ys)
    | _ => false
  | .isi a t, sc, e => match e with
    | .Call (.Name x _) [y, .Name z _] [] _ => decide (x = strN "isinstance") && glbB sc x && S.bN.contains x && decide (z = strN (tyN t)) && glbB sc z && S.bN.contains z && chk S a sc y
    | _ => false
  | .meth m a l, sc, e => match e with
    | .Call (.Attribute o name apos) (y :: ys) [] cpos => decide (name = strN (mthN m)) && !isRep m && (apos.endLine == cpos.line) && decide (ys.length < 3) && chk S a sc o && chks S l sc (y :: ys)
    | _ => false
  | .call i l, sc, e => match e with
    | .Call (.Name x _) (y :: ys) [] _ => decide (S.fN[i]? = some x) && glbB sc x && notDbg x && chks S l sc (y :: ys)
    | _ => false
  | .callv i l, sc, e => match e with
    | .Call (.Name x _) (y :: ys) [] _ => decide (S.N[i]? = some x) && visB sc x && notDbg x && chks S l sc (y :: ys)
    | _ => false
  | .comp own t it c a, sc, e => match e with
    | .ListComp elt [⟨tg, iter, ifs, 0⟩] scope _ => (match scope.kind with | .function => true | _ => false) && ownB S sc scope.names own && tgIn own t && chkT S scope.names t tg && (chki S it sc iter && zipOk it tg) && chkc S c scope.names ifs && chk S a scope.names elt
    | _ => false
  | .dsub ks vs k, sc, e => match e with
    | .Subscript (.Dict keys values _) s _ => keysB ks keys && decide ks.Nodup && decide (1 ≤ ks.length ∧ ks.length ≤ 15 ∧ ks.length = values.length) && chks S vs sc values && !isSlice s && chk S k sc s
    | _ => false
  | .dgt ks vs k d, sc, e => match e with
    | .Call (.Attribute (.Dict keys values _) name apos) [x, y] [] cpos => decide (name = strN "get") && (apos.endLine == cpos.line) && keysB ks keys && decide ks.Nodup && decide (1 ≤ ks.length ∧ ks.length ≤ 15 ∧ ks.length = values.length) && chks S vs sc values && chk S k sc x && chk S d sc y
    | _ => false
  | .kin neg i a, sc, e => match e with
    | .Compare l [o] [.Name x _] _ => decide (S.gN[i]? = some x) && glbB sc x && notDbg x && kinOp o neg && chk S a sc l
    | _ => false
  | .kget i a, sc, e => match e with
    | .Subscript (.Name x _) s _ => decide (S.gN[i]? = some x) && glbB sc x && notDbg x && !isSlice s && chk S a sc s
    | _ => false
  | .told a, sc, e => match e with
    | .Call (.Name x _) [.Lambda params body scope _] [] _ => S.lam && decide (x = strN "_law_told") && glbB sc x && noArgs params && lamNB sc scope && chk { S with lam := false } a scope.names body
    | _ => false
  | .oidx i a, sc, e => match e with
    | .Subscript (.Name x _) s _ => decide (S.N[i]? = some x) && visB sc x && notDbg x && !isSlice s && chk S a sc s
    | _ => false
  | .olen i, sc, e => match e with
    | .Call (.Name y _) [.Name x _] [] _ => decide (y = strN "len") && glbB sc y && S.bN.contains y && decide (S.N[i]? = some x) && visB sc x && notDbg x
    | _ => false
def chks (S : Sx) : Exs → Names → List Expr → Bool
  | .nil, _, es => es.isEmpty
  | .cons a r, sc, es => match es with
    | e :: es => chk S a sc e && chks S r sc es
    | [] => false
def chko (S : Sx) : Exo → Names → Option Expr → Bool
  | .no, _, e => e.isNone
  | .yes a, sc, e => match e with
    | some e => chk S a sc e
    | none => false
def chkc (S : Sx) : Exo → Names → List Expr → Bool
  | .no, _, es => es.isEmpty
  | .yes a, sc, es => match es with
    | [e] => chk S a sc e
    | _ => false
def chki (S : Sx) : Itr_ → Names → Expr → Bool
  | .of a, sc, e => chk S a sc e
  | .range a, sc, e => match e with
    | .Call (.Name x _) [y] [] _ => decide (x = strN "range") && glbB sc x && S.bN.contains x && chk S a sc y
    | _ => false
  | .range2 a b, sc, e => match e with
    | .Call (.Name x _) [y, z] [] _ => decide (x = strN "range") && glbB sc x && S.bN.contains x && chk S a sc y && chk S b sc z
    | _ => false
  | .zip a b, sc, e => match e with
    | .Call (.Name x _) [y, z] [] _ => decide (x = strN "zip") && glbB sc x && S.bN.contains x && chk S a sc y && chk S b sc z
    | _ => false
end

/-! ### what is known where a text runs -/
def spF (g : Gx) (call : Nat → List D → Res D) (i : Nat) : Sp := fun vs H Q E => ∃ R ds, Ok g R H ∧ Reps g R ds vs ∧ Wp g (fun c d _ H => E c d H) [] R H (call i ds) fun d R' H' => ∀ v, Rep g R' d v → Q v H'
/-- a dict of the module, as data -/
structure KDat (g : Gx) (K : PySem.W.Frag) (w : World) (a : Addr) (l : List D) : Prop where
  dict : ∃ es n, KDict K w a es n
  get : ∀ z : List Nat, match lookK l z with
    | none => PySem.W.nsIn K a (mkS z) = some none
    | some d => ∃ u v, PySem.W.nsIn K a (mkS z) = some (some u) ∧ RelV v u ∧ Rep g (fun _ => none) d v
/-- a def with lambdas: its code object, its table -/
def LamF (g : Gx) (X : Cx) : Prop := ∃ c P : Addr, X.env.code = .ref c ∧ LamX.TabB X.base X.mg c P ∧ (P, X.env.qual ++ "<lambda>") ∈ g.T ∧ ∀ p ∈ g.T, p.1 = P → p.2 = X.env.qual ++ "<lambda>"
/-- the def that tells -/
def ToldF (g : Gx) : Prop := ∃ (f base : Addr) (cl : Nat → Addr) (x : Str) (pg : Arguments) (bg : List Stmt) (sg : Scope) (dV kV doc pm cdv ct oc : Value) (an od : Option Addr) (osl : Array (Option Value)),
  g.mg (strN "_law_told") = some (.ref f) ∧ PySem.W.keepIn g.K (.ref f) = true ∧ g.K.lookup f = some ⟨oc, od, .func (PySem.W.fnOf (strN "_law_told") (strN "_law_told") pg bg sg dV kV doc pm an cdv ct), osl⟩ ∧ PySem.W.codeIn g.K cdv (strN "_law_told") = true ∧
    Binds g.K (PySem.W.fnOf (strN "_law_told") (strN "_law_told") pg bg sg dV kV doc pm an cdv ct) [x] [] ∧ ToldS x sg ∧ ToldM g.mg base cl ∧ (x == ("__debug__" : Str)) = false ∧ (x == ("__classdict__" : Str)) = false ∧
    (∀ X : Cx, X.K = g.K → X.mg = g.mg → ∀ q : Str, LamX.GivesTo X (tN x) (strN "_law_told") sg f cdv bg x q (TT5 g.K base cl)) ∧ ∀ c, c < 5 → ∃ C, g.cv c = .ref C ∧ ToldC g.K base cl C c
structure Here (g : Gx) (S : Sx) (call : Cl) (gl : Nat → Option D) (k : Nat) (X : Cx) : Prop where
  K : g.K = X.K
  mg : g.mg = X.mg
  N : S.N = X.N
  fN : S.fN = g.fN
  calm : X.calm = true
  nd : X.N.Nodup
  room : Room k X.A
  fns : ∀ i x, g.fN[i]? = some x → ∃ f fd ps, X.mg x = some (.ref f) ∧ (∀ j, j ≤ k → FnOk X.prog X.w X.K X.mg X.base (L2.CX X.prog X.w) j f fd ps (spF g (call.f j) i)) ∧ PySem.W.keepIn X.K (.ref f) = true ∧ Binds X.K fd ps []
  gls : ∀ i x d, S.gN[i]? = some x → gl i = some d → ∃ v u, X.mg x = some u ∧ RelV v u ∧ Rep g (fun _ => none) d v
  blt : ∀ x, S.bN.contains x = true → X.mg x = none
  dct : ∀ i x l, S.gN[i]? = some x → gl (1000 + i) = some (.lst l) → ∃ a, X.mg x = some (.ref a) ∧ KDat g X.K X.w a l
  kk : call.k = k
  lam : S.lam = true → LamF g X ∧ ToldF g
structure ScOk (X : Cx) (sc : Names) : Prop where
  vis : ∀ x, visB sc x = true → L2.Vis X.env.scope x
  glb : ∀ x, glbB sc x = true → Gl X x
  loc : ∀ x, locB sc x = true → L2.Loc X.env.scope x ∧ (X.fn x = true ∨ X.env.scope.names.lookup x = some .local)
  clf : ∀ x, clfB sc x = true → X.env.scope.names.lookup x = some .cell ∨ X.env.scope.names.lookup x = some .free
section
variable {g : Gx} {S : Sx} {call : Cl} {gl : Nat → Option D} {k : Nat} {X : Cx}
theorem Here.blk (h : Here g S call gl k X) (s : Shared) (H : Hp) (scope : Scope) (cenv : PySem.Env) (fp : List Addr) (hc : cenv.code = X.env.code := by rfl) (hq : cenv.qual = X.env.qual := by rfl) : Here g S call gl k (X.blk s H scope cenv fp) :=
  ⟨h.K, h.mg, h.N, h.fN, h.calm, h.nd, h.room, h.fns, h.gls, h.blt, h.dct, h.kk, fun z => by
    obtain ⟨⟨c, P, h1, h2, h3, h4⟩, h5⟩ := h.lam z
    exact ⟨⟨c, P, hc.trans h1, h2, by show (P, cenv.qual ++ "<lambda>") ∈ _; rw [hq]; exact h3, fun p hp e => by show _ = cenv.qual ++ "<lambda>"; rw [hq]; exact h4 p hp e⟩, h5⟩⟩
theorem lookup_relabel {env : PySem.Env} : ∀ (names : Names) (x : Str), (names.map fun (n, k) => if (k == NameKind.free && env.scope.kind == .function && env.kindOf n == some .cell) then (n, NameKind.cell) else (n, k)).lookup x =
    (names.lookup x).map fun k => if (k == NameKind.free && env.scope.kind == .function && env.kindOf x == some .cell) then .cell else k
  | [], x => rfl
  | (n, k) :: r, x => by
    have ih := lookup_relabel (env := env) r x
    simp only [List.map_cons]
    by_cases h : x = n
    · subst h
      by_cases c : (k == NameKind.free && env.scope.kind == .function && env.kindOf x == some .cell) = true
      · rw [if_pos c]
        simp only [List.lookup, beq_self_eq_true, Option.map_some, if_pos c]
      · rw [if_neg c]
        simp only [List.lookup, beq_self_eq_true, Option.map_some, if_neg c]
    · have hb : (x == n) = false := beq_eq_false_iff_ne.mpr h
      by_cases c : (k == NameKind.free && env.scope.kind == .function && env.kindOf n == some .cell) = true
      · rw [if_pos c]
        simp only [List.lookup, hb]
        exact ih
      · rw [if_neg c]
        simp only [List.lookup, hb]
        exact ih
theorem ScOk.blk (s : Shared) (H : Hp) (scope : Scope) (cl : List (Str × Addr)) (C : Addr) (fp : List Addr) : ScOk (X.blk s H scope (compEnvC scope cl C X.env) fp) scope.names := by
  have lk : ∀ x, (X.blk s H scope (compEnvC scope cl C X.env) fp).env.scope.names.lookup x = (scope.names.lookup x).map fun k => if (k == NameKind.free && X.env.scope.kind == .function && X.env.kindOf x == some .cell) then .cell else k := fun x => lookup_relabel (env := X.env) scope.names x
  have fr : ∀ c : Bool, (if c = true then NameKind.cell else .free) = .cell ∨ (if c = true then NameKind.cell else .free) = .free := fun c => by cases c <;> simp
  refine ⟨fun x h => ?_, fun x h => ?_, fun x h => ?_, fun x h => ?_⟩
  · unfold visB at h
    unfold L2.Vis
    rw [lk]
    split at h <;> first | (cases h; done) | skip
    · rename_i e; rw [e]; exact .inl rfl
    · rename_i e; rw [e]; exact .inr (.inl rfl)
    · rename_i e
      rw [e]
      simp only [Option.map_some, Option.some.injEq]
      rcases fr (NameKind.free == NameKind.free && X.env.scope.kind == .function && X.env.kindOf x == some .cell) with z | z
      · exact .inr (.inl z)
      · exact .inr (.inr z)
  · unfold glbB at h
    show (X.blk s H scope (compEnvC scope cl C X.env) fp).env.scope.names.lookup x = _
    rw [lk]
    split at h <;> first | (cases h; done) | (rename_i e; rw [e]; rfl)
  · unfold locB at h
    unfold L2.Loc
    rw [lk]
    split at h <;> first | (cases h; done) | skip
    · rename_i e; rw [e]; exact ⟨.inl rfl, .inr rfl⟩
    · rename_i e
      rw [e]
      refine ⟨.inr rfl, .inl ?_⟩
      show (scope.names.lookup x == some .cell) = true
      rw [e]
      rfl
  · unfold clfB at h
    rw [lk]
    split at h <;> first | (cases h; done) | skip
    · rename_i e; rw [e]; exact .inl rfl
    · rename_i e
      rw [e]
      simp only [Option.map_some, Option.some.injEq]
      exact fr _
end
end Ev
set_option Elab.async false
set_option linter.all false
set_option maxRecDepth 100000
set_option maxHeartbeats 2000000
/-! EvG: each construct keeps what the term tells: names, displays, truth, calls, targets. -/
namespace Ev
open PySem PySem.Spec PyProof.Rows L2
def plainE : Expr → Bool
  | .Starred .. => false
  | .Slice .. => false
  | .Set .. => false
  | _ => true
theorem chk_plain {S : Sx} {a : Ex} {sc : Names} {e : Expr} (h : chk S a sc e = true) : plainE e = true := by
  cases e <;> first | rfl | (cases a <;> simp [chk] at h)
theorem star_plain {e : Expr} (h : plainE e = true) (es : List Expr) (env : PySem.Env) : starEach (e :: es) env = (false, eval e env) :: starEach es env := by
  cases e <;> first | rfl | cases h
theorem fold_plain {e : Expr} (h : plainE e = true) (env : PySem.Env) (x : Value) : foldedSetIterable e env x = pure x := by
  cases e <;> first | rfl | cases h
theorem ix_plain {e : Expr} (h : plainE e = true) : PlainIx e := fun o i => by
  cases e <;> first | rfl | cases h
theorem mark_plain {e : Expr} (h : plainE e = true) (op : CmpOp) : behindInMarks op e = false := by
  cases e <;> first | rfl | cases h
theorem chks_star {S : Sx} {sc : Names} {env : PySem.Env} {pos : Pos} : ∀ {l : Exs} {es : List Expr}, chks S l sc es = true → (backTo pos (starEach es env)).any (·.1) = false
  | .nil, es, h => by
    cases es with
    | nil => rfl
    | cons e es => simp [chks] at h
  | .cons a r, es, h => by
    cases es with
    | nil => rfl
    | cons e es =>
      simp only [chks, Bool.and_eq_true] at h
      rw [star_plain (chk_plain h.1)]
      have ih := chks_star (env := env) (pos := pos) h.2
      simp only [backTo, List.map_cons, List.any_cons, Bool.false_or] at ih ⊢
      exact ih
section
variable {g : Gx} {S : Sx} {call : Cl} {gl : Nat → Option D} {k : Nat} {X : Cx} {W : WX} {pos p p2 : Pos}
/-! ### arguments, displays -/
theorem pa_nilD : PA X [] (tA g W fun _ => .ok []) := PA.mono pa_nil fun σ H Q q => by
  obtain ⟨R, H0, ρ, ok, en, w⟩ := q
  exact w R H ok Step.refl [] Reps.nil
theorem pa_consD {e : Expr} {es : List Expr} {f : Env → Res D} {h : Env → Res (List D)} (he : PE X e (tD g W f)) (hs : PA X es (tA g W h)) (hp : plainE e = true) :
    PA X (e :: es) (tA g W fun ρ => (f ρ).bind fun x => (h ρ).bind fun xs => .ok (x :: xs)) := PA.mono (pa_cons he hs (star_plain hp _ _)) fun σ H Q q => by
  obtain ⟨R, H0, ρ, ok, en, w⟩ := q
  refine ⟨R, H0, ρ, ok, en, (Wp.bind ok w).mono fun x R1 H1 ok1 st1 w1 v1 r1 => ⟨R1, H0, ρ, ok1, en.step st1, (Wp.bind ok1 w1).mono fun xs R2 H2 ok2 st2 w2 vs r2 => ?_⟩⟩
  exact w2 R2 H2 ok2 Step.refl (v1 :: vs) (Reps.cons (Rep.le st2.le _ _ r1) r2)
theorem pd_tup {es : List Expr} {x1 : Nat} {f : Env → Res (List D)} (h : PA X es (tA g W f)) : PE X (.Tuple es x1 pos) (tD g W fun ρ => (f ρ).bind fun ds => if ds.length ≤ MAXL then .ok (.tup ds) else .bad) :=
  PE.mono (pe_tup h) fun _ _ σ H Q _ q => by
    obtain ⟨R, H0, ρ, ok, en, w⟩ := q
    refine ⟨R, H0, ρ, ok, en, (Wp.bind ok w).mono fun ds R1 H1 ok1 st1 w1 vs r1 => ?_⟩
    by_cases hz : ds.length ≤ MAXL
    · rw [if_pos hz] at w1
      refine ⟨by rw [← r1.length, ← maxl_line]; exact hz, fun p np => ?_⟩
      obtain ⟨ok', st⟩ := ok1.lay (o := .tup vs) np (fun ps z => by cases z)
      refine w1 _ _ ok' st _ ?_
      simp only [Rep]
      exact ⟨p, vs, rfl, SqT.of upd_same, Reps.le st.le _ _ r1⟩
    · rw [if_neg hz] at w1
      exact (show False from w1).elim
theorem pd_lst {es : List Expr} {f : Env → Res (List D)} (h : PA X es (tA g W f)) : PE X (.List es pos) (tD g W fun ρ => (f ρ).bind fun ds => if ds.length ≤ MAXL then .ok (.lst ds) else .bad) :=
  PE.mono (pe_lst h) fun _ _ σ H Q _ q => by
    obtain ⟨R, H0, ρ, ok, en, w⟩ := q
    refine ⟨R, H0, ρ, ok, en, (Wp.bind ok w).mono fun ds R1 H1 ok1 st1 w1 vs r1 => ?_⟩
    by_cases hz : ds.length ≤ MAXL
    · rw [if_pos hz] at w1
      refine ⟨by rw [← r1.length, ← maxl_line]; exact hz, fun p np => ?_⟩
      obtain ⟨ok', st⟩ := ok1.lay (o := .lst vs) np (fun ps z => by cases z)
      refine w1 _ _ ok' st _ ?_
      simp only [Rep]
      exact ⟨p, vs, rfl, upd_same, Reps.le st.le _ _ r1⟩
    · rw [if_neg hz] at w1
      exact (show False from w1).elim
/-! ### names and constants -/
theorem notDbg_1 {x : Str} (h : notDbg x = true) : (x == ("__debug__" : Str)) = false := by
  unfold notDbg at h
  simp only [Bool.and_eq_true, Bool.not_eq_true'] at h
  exact h.1.1
theorem notDbg_2 {x : Str} (h : notDbg x = true) : (x == ("__classdict__" : Str)) = false := by
  unfold notDbg at h
  simp only [Bool.and_eq_true, Bool.not_eq_true'] at h
  exact h.1.2
theorem pd_const {e : Expr} {d : D} {v : V} (he : PE X e (tC v)) (hr : ∀ R : Hp, Rep g R d v) : PE X e (tD g W fun _ => .ok d) := PE.mono he fun _ _ σ H Q _ q => by
  obtain ⟨R, H0, ρ, ok, en, w⟩ := q
  exact w R H ok Step.refl v (hr R)
theorem pd_lit {c : Const} {d : D} {j : Nat} (h : litB c d = true) : PE X (.Constant c j pos) (tD g W fun _ => .ok d) := by
  cases c <;> cases d <;> simp [litB] at h
  · exact pd_const pe_non fun R => by simp [Rep]
  · subst h; exact pd_const pe_bl fun R => by simp [Rep]
  · subst h; exact pd_const pe_int fun R => by simp [Rep]
  · rename_i z t
    refine pd_const (v := .str ⟨t.toArray⟩) ?_ fun R => by simp [Rep]
    have : z = ⟨t.toArray⟩ := by
      cases z with
      | mk a => simp only at h; subst h; simp
    rw [this]
    exact pe_str
theorem pd_var (h : Here g S call gl k X) {i : Nat} {x : Str} (hi : X.N[i]? = some x) (hv : L2.Vis X.env.scope x) (hd : notDbg x = true) : PE X (.Name x pos) (tD g W fun ρ => match getV ρ i with
    | .pu d => .ok d
    | _ => .bad) := PE.mono (pe_var (i := i) hi hv (notDbg_1 hd) (notDbg_2 hd)) fun _ _ σ H Q _ q => by
  obtain ⟨R, H0, ρ, ok, en, w⟩ := q
  cases e : getV ρ i with
  | pu d =>
    obtain ⟨v, e1, r⟩ := en.pu i d e
    simp only [e] at w
    exact ⟨v, e1, w R H ok Step.refl v r⟩
  | un => simp only [e] at w; exact (show False from w).elim
  | own l => simp only [e] at w; exact (show False from w).elim
theorem pd_glob (h : Here g S call gl k X) {i : Nat} {x : Str} (hi : S.gN[i]? = some x) (hg : Gl X x) (hd : notDbg x = true) : PE X (.Name x pos) (tD g W fun _ => match gl i with
    | some d => .ok d
    | none => .bad) := by
  cases e : gl i with
  | none => exact ⟨fun pins s σ H Q I q => by
      obtain ⟨R, H0, ρ, ok, en, w⟩ := q
      exact (show False from w).elim⟩
  | some d =>
    obtain ⟨v, u, h1, h2, h3⟩ := h.gls i x d hi e
    exact pd_const (pe_glob hg h1 h2 (notDbg_1 hd)) fun R => Rep.le (fun a o z => by cases z) _ _ h3
/-! ### truth -/
theorem pd_and {a b : Expr} {r : List Expr} {f h : Env → Res D} (ha : PE X a (tD g W f)) (hb : PE X (.BoolOp .And (b :: r) pos) (tD g W h)) :
    PE X (.BoolOp .And (a :: b :: r) pos) (tD g W fun ρ => (f ρ).bind fun x => (truth x).bind fun t => if t = true then (h ρ).bind fun y => (truth y).bind fun u => .ok (.bl u) else .ok (.bl false)) :=
  PE.mono (pe_and ha hb) fun _ _ σ H Q _ q => by
    obtain ⟨R, H0, ρ, ok, en, w⟩ := q
    refine ⟨R, H0, ρ, ok, en, (Wp.bind ok w).mono fun x R1 H1 ok1 st1 w1 v1 r1 => ?_⟩
    cases x <;> first | exact (show False from w1).elim | skip
    rename_i c
    simp only [Rep] at r1
    subst r1
    refine ⟨c, rfl, ?_⟩
    cases c with
    | true =>
      rw [if_pos rfl]
      refine ⟨R1, H0, ρ, ok1, en.step st1, (Wp.bind ok1 (show Wp g W σ R1 H1 ((h ρ).bind fun y => (truth y).bind fun u => Res.ok (D.bl u)) (fun d R' H' => ∀ (v : V), Rep g R' d v → Q v H') from w1)).mono fun y R2 H2 ok2 st2 w2 v2 r2 => ?_⟩
      cases y <;> first | exact (show False from w2).elim | skip
      exact w2 R2 H2 ok2 Step.refl v2 r2
    | false =>
      rw [if_neg Bool.false_ne_true]
      exact w1 R1 H1 ok1 Step.refl _ (by simp [Rep])
theorem pd_or {a b : Expr} {r : List Expr} {f h : Env → Res D} (ha : PE X a (tD g W f)) (hb : PE X (.BoolOp .Or (b :: r) pos) (tD g W h)) :
    PE X (.BoolOp .Or (a :: b :: r) pos) (tD g W fun ρ => (f ρ).bind fun x => (truth x).bind fun t => if t = true then .ok (.bl true) else (h ρ).bind fun y => (truth y).bind fun u => .ok (.bl u)) :=
  PE.mono (pe_or ha hb) fun _ _ σ H Q _ q => by
    obtain ⟨R, H0, ρ, ok, en, w⟩ := q
    refine ⟨R, H0, ρ, ok, en, (Wp.bind ok w).mono fun x R1 H1 ok1 st1 w1 v1 r1 => ?_⟩
    cases x <;> first | exact (show False from w1).elim | skip
    rename_i c
    simp only [Rep] at r1
    subst r1
    refine ⟨c, rfl, ?_⟩
    cases c with
    | false =>
      rw [if_neg Bool.false_ne_true]
      refine ⟨R1, H0, ρ, ok1, en.step st1, (Wp.bind ok1 (show Wp g W σ R1 H1 ((h ρ).bind fun y => (truth y).bind fun u => Res.ok (D.bl u)) (fun d R' H' => ∀ (v : V), Rep g R' d v → Q v H') from w1)).mono fun y R2 H2 ok2 st2 w2 v2 r2 => ?_⟩
      cases y <;> first | exact (show False from w2).elim | skip
      exact w2 R2 H2 ok2 Step.refl v2 r2
    | true =>
      rw [if_pos rfl]
      exact w1 R1 H1 ok1 Step.refl _ (by simp [Rep])
theorem pd_not {a : Expr} {f : Env → Res D} (ha : PE X a (tD g W f)) : PE X (.UnaryOp .Not a pos) (tD g W fun ρ => (f ρ).bind fun x => (truth x).bind fun t => .ok (.bl (!t))) :=
  PE.mono (pe_not ha) fun _ _ σ H Q _ q => by
    obtain ⟨R, H0, ρ, ok, en, w⟩ := q
    refine ⟨R, H0, ρ, ok, en, (Wp.bind ok w).mono fun x R1 H1 ok1 st1 w1 v1 r1 => ?_⟩
    cases x <;> first | exact (show False from w1).elim | skip
    rename_i c
    simp only [Rep] at r1
    subst r1
    exact ⟨c, rfl, w1 R1 H1 ok1 Step.refl _ (by simp [Rep])⟩
/-- a value's outcome, read as a test's -/
theorem tT_and {ta tb : TT} {f h : Env → Res D} (ha : ∀ σ H Q, tT g W (fun ρ => (f ρ).bind truth) σ H Q → ta σ H Q) (hb : ∀ σ H Q, tT g W (fun ρ => (h ρ).bind truth) σ H Q → tb σ H Q) {σ : L2.St} {H : Hp} {Q : Bool → Hp → Prop}
    (q : tT g W (fun ρ => ((f ρ).bind fun x => (truth x).bind fun t => if t = true then (h ρ).bind fun y => (truth y).bind fun u => .ok (.bl u) else .ok (.bl false)).bind truth) σ H Q) : tAnd ta tb σ H Q := by
  obtain ⟨R, H0, ρ, ok, en, w⟩ := q
  refine ha _ _ _ ⟨R, H0, ρ, ok, en, ?_⟩
  show Wp g W σ R H ((f ρ).bind truth) _
  cases e : f ρ with
  | bad => simp only [e] at w; exact w
  | exc c => simp only [e] at w; exact w
  | ok x =>
    simp only [e] at w
    cases x <;> first | exact (show False from w).elim | skip
    rename_i c
    intro R1 H1 ok1 st1
    cases c with
    | true =>
      rw [if_pos rfl]
      refine hb _ _ _ ⟨R1, H0, ρ, ok1, en.step st1, ?_⟩
      show Wp g W σ R1 H1 ((h ρ).bind truth) _
      have w : Wp g W σ R H (((h ρ).bind fun y => (truth y).bind fun u => .ok (.bl u)).bind truth) fun b R' H' => Q b H' := w
      cases e2 : h ρ with
      | bad => simp only [e2] at w; exact w
      | exc c => simp only [e2] at w; exact fun R' H' o s => w R' H' o (st1.trans s)
      | ok y =>
        simp only [e2] at w
        cases y <;> first | exact (show False from w).elim | skip
        exact fun R' H' o s => w R' H' o (st1.trans s)
    | false =>
      rw [if_neg Bool.false_ne_true]
      exact w R1 H1 ok1 st1
theorem tT_or {ta tb : TT} {f h : Env → Res D} (ha : ∀ σ H Q, tT g W (fun ρ => (f ρ).bind truth) σ H Q → ta σ H Q) (hb : ∀ σ H Q, tT g W (fun ρ => (h ρ).bind truth) σ H Q → tb σ H Q) {σ : L2.St} {H : Hp} {Q : Bool → Hp → Prop}
    (q : tT g W (fun ρ => ((f ρ).bind fun x => (truth x).bind fun t => if t = true then .ok (.bl true) else (h ρ).bind fun y => (truth y).bind fun u => .ok (.bl u)).bind truth) σ H Q) : tOr ta tb σ H Q := by
  obtain ⟨R, H0, ρ, ok, en, w⟩ := q
  refine ha _ _ _ ⟨R, H0, ρ, ok, en, ?_⟩
  show Wp g W σ R H ((f ρ).bind truth) _
  cases e : f ρ with
  | bad => simp only [e] at w; exact w
  | exc c => simp only [e] at w; exact w
  | ok x =>
    simp only [e] at w
    cases x <;> first | exact (show False from w).elim | skip
    rename_i c
    intro R1 H1 ok1 st1
    cases c with
    | false =>
      rw [if_neg Bool.false_ne_true]
      refine hb _ _ _ ⟨R1, H0, ρ, ok1, en.step st1, ?_⟩
      show Wp g W σ R1 H1 ((h ρ).bind truth) _
      have w : Wp g W σ R H (((h ρ).bind fun y => (truth y).bind fun u => .ok (.bl u)).bind truth) fun b R' H' => Q b H' := w
      cases e2 : h ρ with
      | bad => simp only [e2] at w; exact w
      | exc c => simp only [e2] at w; exact fun R' H' o s => w R' H' o (st1.trans s)
      | ok y =>
        simp only [e2] at w
        cases y <;> first | exact (show False from w).elim | skip
        exact fun R' H' o s => w R' H' o (st1.trans s)
    | true =>
      rw [if_pos rfl]
      exact w R1 H1 ok1 st1
theorem pt_notD {a : Expr} {f : Env → Res D} (ha : PT X a (tT g W fun ρ => (f ρ).bind truth)) : PT X (.UnaryOp .Not a pos) (tT g W fun ρ => ((f ρ).bind fun x => (truth x).bind fun t => .ok (.bl (!t))).bind truth) :=
  PT.mono (pt_not ha) fun _ _ σ H Q _ q => by
    obtain ⟨R, H0, ρ, ok, en, w⟩ := q
    refine ⟨R, H0, ρ, ok, en, ?_⟩
    show Wp g W σ R H ((f ρ).bind truth) _
    cases e : f ρ with
    | bad => simp only [e] at w; exact w
    | exc c => simp only [e] at w; exact w
    | ok x =>
      simp only [e] at w
      cases x <;> first | exact (show False from w).elim | skip
      exact w
/-! ### calls -/
theorem pd_neg {a : Expr} {f : Env → Res D} (ha : PE X a (tD g W f)) : PE X (.UnaryOp .USub a pos) (tD g W fun ρ => (f ρ).bind fun x => match x with
    | .int i => .ok (.int (-i))
    | _ => .bad) := PE.mono (pe_un un_neg ha) fun _ _ σ H Q _ q => by
  obtain ⟨R, H0, ρ, ok, en, w⟩ := q
  refine ⟨R, H0, ρ, ok, en, (Wp.bind ok w).mono fun x R1 H1 ok1 st1 w1 v1 r1 => ?_⟩
  cases x <;> first | exact (show False from w1).elim | skip
  simp only [Rep] at r1
  exact ⟨_, r1, w1 R1 H1 ok1 Step.refl _ (by simp [Rep])⟩
theorem pd_isi (h : Here g S call gl k X) {a : Expr} {t : Ty} {f : Env → Res D} (ha : PE X a (tD g W f)) (hp : plainE a = true) (hg : Gl X (strN "isinstance")) (hm : X.mg (strN "isinstance") = none) (hg2 : Gl X (strN (tyN t))) (hm2 : X.mg (strN (tyN t)) = none) :
    PE X (.Call (.Name (strN "isinstance") p) [a, .Name (strN (tyN t)) p2] [] pos) (tD g W fun ρ => (f ρ).bind fun x => if isFn x = true then .bad else .ok (.bl (isTy t x))) := by
  have ht : PE X (.Name (strN (tyN t)) p2) (tC (.ty (tyN t))) := pe_bltn (u := .type (tyN t)) hg2 hm2 (by cases t <;> decide +kernel) rfl (by cases t <;> decide +kernel) (by cases t <;> decide +kernel)
  have hn : plainE (.Name (strN (tyN t)) p2) = true := rfl
  refine PE.mono (pe_callB (cb_isi h.K t) hg hm (by decide +kernel) (pa_cons ha (pa_cons ht pa_nil (star_plain hn _ _)) (star_plain hp _ _)) (by decide +kernel) (by decide +kernel) (star_plain hp _ _) (by rw [star_plain hn]; rfl)) fun _ _ σ H Q _ q => ?_
  obtain ⟨R, H0, ρ, ok, en, w⟩ := q
  refine ⟨R, H0, ρ, ok, en, (Wp.bind ok w).mono fun x R1 H1 ok1 st1 w1 v1 r1 => ?_⟩
  refine ⟨v1, rfl, R1, [x], .bl (isTy t x), ok1, Reps.cons r1 Reps.nil, ?_, ?_⟩
  · unfold isiK
    by_cases hf : isFn x = true
    · rw [if_pos hf] at w1
      exact (show False from w1).elim
    · show (if isFn x = true then Res.bad else Res.ok (D.bl (isTy t x))) = _
      rw [if_neg hf]
  · intro R' H' v o s r
    by_cases hf : isFn x = true
    · rw [if_pos hf] at w1
      exact (show False from w1).elim
    · rw [if_neg hf] at w1
      exact w1 R' H' o s v r
theorem pd_blt (h : Here g S call gl k X) {b : Blt} {e : Expr} {es : List Expr} {f : Env → Res (List D)} (ha : PA X (e :: es) (tA g W f)) (hp : plainE e = true) (hpl : (backTo pos (starEach es X.env)).any (·.1) = false) (hg : Gl X (strN (bltN b))) (hm : X.mg (strN (bltN b)) = none) :
    PE X (.Call (.Name (strN (bltN b)) p) (e :: es) [] pos) (tD g W fun ρ => (f ρ).bind fun ds => bltD b ds) := by
  cases b with
  | len => exact PE.mono (pe_callB (cb_len h.K) hg hm (by decide +kernel) ha (by decide +kernel) (by decide +kernel) (star_plain hp _ _) hpl) fun _ _ σ H Q _ q => tCB_of (bltD_noexc _) q
  | abs => exact PE.mono (pe_callB cb_abs hg hm (by decide +kernel) ha (by decide +kernel) (by decide +kernel) (star_plain hp _ _) hpl) fun _ _ σ H Q _ q => tCB_of (bltD_noexc _) q
  | max => exact PE.mono (pe_callB (cb_max h.calm) hg hm (by decide +kernel) ha (by decide +kernel) (by decide +kernel) (star_plain hp _ _) hpl) fun _ _ σ H Q _ q => tCB_of (bltD_noexc _) q
  | min => exact PE.mono (pe_callB (cb_min h.calm) hg hm (by decide +kernel) ha (by decide +kernel) (by decide +kernel) (star_plain hp _ _) hpl) fun _ _ σ H Q _ q => tCB_of (bltD_noexc _) q
  | int => exact PE.mono (pe_callTy cb_int hg hm (by decide +kernel) ha (by decide +kernel) (by decide +kernel) (star_plain hp _ _) hpl) fun _ _ σ H Q _ q => tCB_of (bltD_noexc _) q
  | str => exact PE.mono (pe_callTy cb_str hg hm (by decide +kernel) ha (by decide +kernel) (by decide +kernel) (star_plain hp _ _) hpl) fun _ _ σ H Q _ q => tCB_of (bltD_noexc _) q
  | tuple => exact PE.mono (pe_callTy (cb_tuple h.K) hg hm (by decide +kernel) ha (by decide +kernel) (by decide +kernel) (star_plain hp _ _) hpl) fun _ _ σ H Q _ q => tCB_of (bltD_noexc _) q
  | list => exact PE.mono (pe_callTy (cb_list h.K h.calm) hg hm (by decide +kernel) ha (by decide +kernel) (by decide +kernel) (star_plain hp _ _) hpl) fun _ _ σ H Q _ q => tCB_of (bltD_noexc _) q
  | all => exact PE.mono (pe_callB (cb_all h.calm) hg hm (by decide +kernel) ha (by decide +kernel) (by decide +kernel) (star_plain hp _ _) hpl) fun _ _ σ H Q _ q => tCB_of (bltD_noexc _) q
  | sorted => exact PE.mono (pe_callB (cb_sorted h.K) hg hm (by decide +kernel) ha (by decide +kernel) (by decide +kernel) (star_plain hp _ _) hpl) fun _ _ σ H Q _ q => tCB_of (bltD_noexc _) q
theorem base_ok {a : Ex} {sc : Names} {o : Expr} (h : chk S a sc o = true) (name : Str) (env : PySem.Env) (w : Sem Value) : attributeBase o name env w = w := by
  cases o with
  | Call f args kws pos =>
    cases f <;> first | rfl | skip
    cases args with
    | nil => cases a <;> simp [chk] at h
    | cons => rfl
  | _ => rfl
theorem few_ok {e : Expr} {es : List Expr} {env : PySem.Env} {cpos : Pos} (hp : plainE e = true) (hpl : (backTo cpos (starEach es env)).any (·.1) = false) (hl : es.length < 3) :
    ((backTo cpos (starEach (e :: es) env)).all (fun x => !x.1) && (backToKw cpos (keywordEach [] env)).all (fun x => x.1.isSome) && decide ((e :: es).length + ([] : List Keyword).length + (if ([] : List Keyword).isEmpty then 0 else 1) < 30)) = true := by
  rw [star_plain hp]
  have h1 : (backTo cpos (starEach es env)).all (fun x => !x.1) = true := by
    rw [← List.not_any_eq_all_not, hpl]
    rfl
  have h2 : (backTo cpos ((false, eval e env) :: starEach es env)).all (fun x => !x.1) = true := by
    unfold backTo at h1 ⊢
    rw [List.map_cons, List.all_cons, h1]
    rfl
  rw [h2]
  have h3 : (backToKw cpos (keywordEach [] env)).all (fun x => x.1.isSome) = true := rfl
  rw [h3]
  simp
  omega
theorem tyV_mth {m : Mth} {d : D} {v : V} {R H : Hp} (ok : Ok g R H) (r : Rep g R d v) (h : mthTy m d = true) : tyV X.K (mthT m) v H := by
  cases m <;> (cases d <;> first | (cases h; done) | skip) <;> first
    | (rw [r.str]; rfl)
    | (simp only [Rep] at r; obtain ⟨a, vs, rfl, hq, _⟩ := r; exact .inl ⟨rfl, vs, SqL.of (ok.sub _ _ hq)⟩)
theorem units65 {k : Nat} {A : Around} (h : Room k A) : A.units + 65 < cLine := by
  have := h.un
  omega
theorem pd_meth (h : Here g S call gl k X) {m : Mth} {a : Ex} {sc : Names} {o e : Expr} {es : List Expr} {f : Env → Res D} {fa : Env → Res (List D)} {apos : Pos} (hc : chk S a sc o = true) (ho : PE X o (tD g W f)) (ha : PA X (e :: es) (tA g W fa)) (hp : plainE e = true) (hpl : (backTo pos (starEach es X.env)).any (·.1) = false)
    (hl : es.length < 3) (hline : (apos.endLine == pos.line) = true) (hrep : isRep m = false) : PE X (.Call (.Attribute o (strN (mthN m)) apos) (e :: es) [] pos) (tD g W fun ρ => (f ρ).bind fun x => if mthTy m x = true then (fa ρ).bind fun ds => mthD m x ds else .bad) := by
  have key : ∀ {t : TE}, (∀ σ H Q, tBM X.K (mthT m) (rM g m) (tD g W f) (tA g W fa) σ H Q → t σ H Q) → ∀ σ H Q, tD g W (fun ρ => (f ρ).bind fun x => if mthTy m x = true then (fa ρ).bind fun ds => mthD m x ds else .bad) σ H Q → t σ H Q := by
    intro t ht σ H Q q
    refine ht σ H Q ?_
    obtain ⟨R, H0, ρ, ok, en, w⟩ := q
    refine ⟨R, H0, ρ, ok, en, (Wp.bind ok w).mono fun x R1 H1 ok1 st1 w1 v1 r1 => ?_⟩
    by_cases hT : mthTy m x = true
    · rw [if_pos hT] at w1
      refine ⟨tyV_mth ok1 r1 hT, R1, H0, ρ, ok1, en.step st1, (Wp.bind ok1 w1).mono fun ds R2 H2 ok2 st2 w2 vs r2 => ?_⟩
      cases e : mthD m x ds with
      | ok d =>
        rw [e] at w2
        exact ⟨R2, x, ds, d, ok2, Rep.le st2.le _ _ r1, r2, e, fun R' H' v o s r => w2 R' H' o s v r⟩
      | exc c => exact absurd e (mthD_noexc _ _ _ c)
      | bad => rw [e] at w2; exact (show False from w2).elim
    · rw [if_neg hT] at w1
      exact (show False from w1).elim
  have few := few_ok (env := X.env) (cpos := pos) hp hpl hl
  cases m with
  | startswith => exact PE.mono (pe_bm F.plainAttrs_str F.slot_str_startswith F.type_str_startswith mt_startswithD ho ha (base_ok hc _ _ _) few hline (star_plain hp _ _) hpl) fun _ _ σ H Q _ q => key (fun _ _ _ q => q) σ H Q q
  | partition => exact PE.mono (pe_bm F.plainAttrs_str F.slot_str_partition F.type_str_partition mt_partitionD ho ha (base_ok hc _ _ _) few hline (star_plain hp _ _) hpl) fun _ _ σ H Q _ q => key (fun _ _ _ q => q) σ H Q q
  | split => exact PE.mono (pe_bm F.plainAttrs_str F.slot_str_split F.type_str_split mt_splitD ho ha (base_ok hc _ _ _) few hline (star_plain hp _ _) hpl) fun _ _ σ H Q _ q => key (fun _ _ _ q => q) σ H Q q
  | join => exact PE.mono (pe_bm F.plainAttrs_str F.slot_str_join F.type_str_join (mt_joinD h.K) ho ha (base_ok hc _ _ _) few hline (star_plain hp _ _) hpl) fun _ _ σ H Q _ q => key (fun _ _ _ q => q) σ H Q q
  | rjust => exact PE.mono (pe_bm F.plainAttrs_str F.slot_str_rjust F.type_str_rjust mt_rjustD ho ha (base_ok hc _ _ _) few hline (star_plain hp _ _) hpl) fun _ _ σ H Q _ q => key (fun _ _ _ q => q) σ H Q q
  | find => exact PE.mono (pe_bm F.plainAttrs_str F.slot_str_find F.type_str_find mt_findD ho ha (base_ok hc _ _ _) few hline (star_plain hp _ _) hpl) fun _ _ σ H Q _ q => key (fun _ _ _ q => q) σ H Q q
  | replace => cases hrep
  | index => exact PE.mono (pe_bm F.plainAttrs_list F.slot_list_index F.type_list_index (mt_indexDD h.K (units65 h.room)) ho ha (base_ok hc _ _ _) few hline (star_plain hp _ _) hpl) fun _ _ σ H Q _ q => key (fun _ _ _ q => q) σ H Q q
theorem tCallS_of {i : Nat} {f : Env → Res (List D)} {σ : L2.St} {H : Hp} {Q : VK} (q : tD g W (fun ρ => (f ρ).bind fun ds => call.f call.k i ds) σ H Q) : tCallS (spF g (call.f call.k) i) (WE W) (tA g W f) σ H Q := by
  obtain ⟨R, H0, ρ, ok, en, w⟩ := q
  refine ⟨R, H0, ρ, ok, en, (Wp.bind ok w).mono fun ds R1 H1 ok1 st1 w1 vs r => ⟨R1, ds, ok1, r, ?_⟩⟩
  cases e : call.f call.k i ds with
  | ok d => rw [e] at w1; exact w1
  | exc c => rw [e] at w1; exact w1
  | bad => rw [e] at w1; exact w1
theorem pd_call (h : Here g S call gl k X) (tk : Takes X W) {i : Nat} {x : Str} {e : Expr} {es : List Expr} {f : Env → Res (List D)} (hi : g.fN[i]? = some x) (hg : Gl X x) (hd : notDbg x = true) (ha : PA X (e :: es) (tA g W f)) (hp : plainE e = true)
    (hpl : (backTo pos (starEach es X.env)).any (·.1) = false) : PE X (.Call (.Name x p) (e :: es) [] pos) (tD g W fun ρ => (f ρ).bind fun ds => call.f call.k i ds) := by
  obtain ⟨fa, fd, ps, h1, h2', h3, h4⟩ := h.fns i x hi
  have h2 := h2' k (Nat.le_refl _)
  rw [← h.kk] at h2
  exact PE.mono (pe_callS h2 (by rw [h.kk]; exact h.room) hg h1 h3 h4 (fun σ => passAt tk σ) ha (notDbg_1 hd) (star_plain hp _ _) hpl) fun _ _ σ H Q _ q => tCallS_of q
/-- a call of a def that a slot holds -/
theorem pd_callv (h : Here g S call gl k X) (tk : Takes X W) {i : Nat} {x : Str} {e : Expr} {es : List Expr} {f : Env → Res (List D)} (hi : X.N[i]? = some x) (hv : L2.Vis X.env.scope x) (hd : notDbg x = true) (ha : PA X (e :: es) (tA g W f)) (hp : plainE e = true)
    (hpl : (backTo pos (starEach es X.env)).any (·.1) = false) : PE X (.Call (.Name x p) (e :: es) [] pos) (tD g W fun ρ => match getV ρ i with
      | .pu (.fn j) => (f ρ).bind fun ds => call.f call.k j ds
      | _ => .bad) := by
  refine ⟨fun pins s σ H Q I q => ?_⟩
  obtain ⟨R, H0, ρ, ok, en, w⟩ := q
  cases ev : getV ρ i with
  | un => simp only [ev] at w; exact (show False from w).elim
  | own l => simp only [ev] at w; exact (show False from w).elim
  | pu d =>
    cases d with
    | fn j =>
      simp only [ev] at w
      obtain ⟨v, e1, r⟩ := en.pu i _ ev
      simp only [Rep] at r
      obtain ⟨fa, y, rfl, hy, hmg⟩ := r
      obtain ⟨fa2, fd, ps, h1, h2', h3, h4⟩ := h.fns j y hy
      have h2 := h2' k (Nat.le_refl _)
      rw [← h.kk] at h2
      rw [h.mg] at hmg
      rw [hmg] at h1
      cases h1
      refine wpAny_Call_Name_kw (thn ((pe_var (pos := p) (i := i) hi hv (notDbg_1 hd) (notDbg_2 hd)).run pins s σ H (fun v H1 => v = .ref fa ∧ H1 = H) I ⟨.ref fa, e1, rfl, rfl⟩) fun u s1 ⟨v, H1, I1, r1, q1⟩ => ?_)
      obtain ⟨rfl, rfl⟩ := q1
      obtain rfl : u = Value.ref fa := r1
      have w2 : tCallS (spF g (call.f call.k) j) (WE W) (tA g W f) σ H1 Q := tCallS_of ⟨R, H0, ρ, ok, en, w⟩
      refine PySem.W.callWith_K (h₀ := X.base) I1.ok.mod.kin h3 (thn (ha.run pos pins s1 σ H1 _ I1 w2) fun us s2 ⟨vs, H2, I2, r, q2⟩ => ⟨I2.kIn, ?_⟩) (star_plain hp _ _) hpl
      exact run_fnS h2 (by rw [h.kk]; exact h.room) h4 (passAt tk σ) I2 r q2
    | _ => simp only [ev] at w; exact (show False from w).elim
end
end Ev
set_option Elab.async false
set_option linter.all false
set_option maxRecDepth 100000
set_option maxHeartbeats 2000000
/-! EvH: targets, what is walked, comprehensions. -/
namespace Ev
open PySem PySem.Spec PyProof.Rows L2
/-! ### targets -/
def setsV (σ : L2.St) : List Nat → List V → L2.St
  | i :: is, v :: vs => setsV (σ.set i (some v)) is vs
  | _, _ => σ
def setT (t : Tg) (σ : L2.St) (v : V) (vs : List V) : L2.St := match t with
  | .name i => σ.set i (some v)
  | .tup is => setsV σ is vs
theorem EnvR.sets {g : Gx} {H0 R H : Hp} : ∀ {is : List Nat} {ds : List D} {vs : List V} {σ : L2.St} {ρ : Env}, ds.length = is.length → EnvR g H0 R H σ ρ → Reps g R ds vs → EnvR g H0 R H (setsV σ is vs) (setAll ρ is ds)
  | [], ds, vs, σ, ρ, hl, e, r => by
    cases ds with
    | nil => exact e
    | cons _ _ => cases hl
  | i :: is, [], vs, σ, ρ, hl, e, r => by cases hl
  | i :: is, d :: ds, vs, σ, ρ, hl, e, r => by
    simp only [Reps] at r
    obtain ⟨v, s, rfl, h1, h2⟩ := r
    show EnvR g H0 R H (setsV (σ.set i (some v)) is s) (setAll (setV ρ i (.pu d)) is ds)
    exact EnvR.sets (is := is) (ds := ds) (vs := s) (by simpa using hl) (e.set i h1) h2
theorem setsV_out {j : Nat} : ∀ {is : List Nat} {vs : List V} {σ : L2.St}, j ∉ is → (setsV σ is vs)[j]? = σ[j]?
  | [], vs, σ, _ => by cases vs <;> rfl
  | i :: is, [], σ, _ => rfl
  | i :: is, v :: vs, σ, h => by
    simp only [setsV]
    rw [setsV_out (fun z => h (List.mem_cons_of_mem _ z)), List.getElem?_set_ne (fun z => h (by rw [z]; exact List.mem_cons_self))]
theorem setsV_length : ∀ {is : List Nat} {vs : List V} {σ : L2.St}, (setsV σ is vs).length = σ.length
  | [], vs, σ => by cases vs <;> rfl
  | i :: is, [], σ => rfl
  | i :: is, v :: vs, σ => by
    simp only [setsV]
    rw [setsV_length, List.length_set]
def slotsT : Tg → List Nat
  | .name i => [i]
  | .tup is => is
theorem setT_out {t : Tg} {σ : L2.St} {v : V} {vs : List V} {j : Nat} (h : j ∉ slotsT t) : (setT t σ v vs)[j]? = σ[j]? := by
  cases t with
  | name i =>
    simp only [slotsT, List.mem_singleton] at h
    exact List.getElem?_set_ne (fun z => h z.symm)
  | tup is => exact setsV_out h
theorem setT_length {t : Tg} {σ : L2.St} {v : V} {vs : List V} : (setT t σ v vs).length = σ.length := by
  cases t with
  | name i => exact List.length_set
  | tup is => exact setsV_length
/-- a target's reading: the data stored as storeT tells -/
def gT (g : Gx) (t : Tg) : TG := fun v σ H Q => ∃ R H0 ρ d ρ', Ok g R H ∧ EnvR g H0 R H σ ρ ∧ Rep g R d v ∧ storeT t d ρ = .ok ρ' ∧ ∀ σ', EnvR g H0 R H σ' ρ' → (∀ j, j ∉ slotsT t → σ'[j]? = σ[j]?) → σ'.length = σ.length → Q σ' H
def gNs : List Nat → TGs
  | [] => gNil
  | i :: is => gCons (gName i) (gNs is)
theorem gNs_of : ∀ {is : List Nat} {vs : List V} {σ : L2.St} {H : Hp} {Q : L2.St → Hp → Prop}, vs.length = is.length → Q (setsV σ is vs) H → gNs is vs σ H Q
  | [], vs, σ, H, Q, hl, q => by
    cases vs with
    | nil => exact ⟨rfl, q⟩
    | cons _ _ => cases hl
  | i :: is, [], σ, H, Q, hl, q => by cases hl
  | i :: is, v :: vs, σ, H, Q, hl, q => ⟨v, vs, rfl, gNs_of (by simpa using hl) q⟩
theorem pgs_of {X : Cx} {S : Sx} {sc : Names} (hN : S.N = X.N) (nd : X.N.Nodup) (hs : ScOk X sc) : ∀ {es : List Expr} {is : List Nat}, es.length = is.length → ((es.zip is).all fun p => match p.1 with
      | .Name x _ => decide (S.N[p.2]? = some x) && locB sc x
      | _ => false) = true → PGs X es (gNs is) ∧ (assignEach es X.env).length = es.length ∧ (assignEach es X.env).findIdx? (·.1) = none
  | [], [], _, _ => ⟨pgs_nil, rfl, rfl⟩
  | [], _ :: _, hl, _ => by cases hl
  | _ :: _, [], hl, _ => by cases hl
  | e :: es, i :: is, hl, h => by
    simp only [List.zip_cons_cons, List.all_cons, Bool.and_eq_true] at h
    obtain ⟨h1, h2⟩ := h
    obtain ⟨p1, p2, p3⟩ := pgs_of hN nd hs (es := es) (is := is) (by simpa using hl) h2
    cases e <;> simp only [Bool.and_eq_true, decide_eq_true_eq] at h1 <;> first | (cases h1; done) | skip
    rename_i x pos
    obtain ⟨hx, hloc⟩ := h1
    rw [hN] at hx
    obtain ⟨l1, l2⟩ := hs.loc x hloc
    refine ⟨pgs_cons (pg_name nd hx l1 l2) p1, ?_, ?_⟩
    · show (assignEach es X.env).length + 1 = es.length + 1
      rw [p2]
    · show ((false, assign (.Name x pos) X.env) :: assignEach es X.env).findIdx? (·.1) = none
      rw [List.findIdx?_cons, p3]
      rfl
theorem pg_of {X : Cx} {g : Gx} {S : Sx} {sc : Names} (hK : g.K = X.K) (hc : X.calm = true) (hN : S.N = X.N) (nd : X.N.Nodup) (hs : ScOk X sc) {t : Tg} {e : Expr} (h : chkT S sc t e = true) : PG X e (gT g t) := by
  cases t with
  | name i =>
    simp only [chkT] at h
    split at h
    · rename_i x pos
      simp only [Bool.and_eq_true, decide_eq_true_eq] at h
      obtain ⟨hx, hloc⟩ := h
      rw [hN] at hx
      obtain ⟨l1, l2⟩ := hs.loc x hloc
      refine ⟨fun pins s σ H v u Q I r q => ?_⟩
      obtain ⟨R, H0, ρ, d, ρ', ok, en, hr, hst, q⟩ := q
      simp only [storeT, Res.ok.injEq] at hst
      subst hst
      exact (pg_name nd hx l1 l2).run pins s σ H v u Q I r (q _ (en.set i hr) (fun j hj => setT_out (t := .name i) (v := v) (vs := []) hj) List.length_set)
    · cases h
  | tup is =>
    simp only [chkT] at h
    split at h
    · rename_i es kk pos
      simp only [Bool.and_eq_true, decide_eq_true_eq] at h
      obtain ⟨hl, h2⟩ := h
      obtain ⟨p1, p2, p3⟩ := pgs_of hN nd hs hl h2
      refine ⟨fun pins s σ H v u Q I r q => ?_⟩
      obtain ⟨R, H0, ρ, d, ρ', ok, en, hr, hst, q⟩ := q
      cases d <;> simp only [storeT] at hst <;> first | (cases hst; done) | skip
      · rename_i ds
        split at hst
        · rename_i hd
          simp only [Res.ok.injEq] at hst
          subst hst
          simp only [Rep] at hr
          obtain ⟨a, vs, rfl, hq, hv⟩ := hr
          refine (pg_tup hc p1 rfl p3).run pins s σ H _ u Q I r ⟨a, vs, rfl, hK ▸ SqT.le ok.sub hq, ?_, gNs_of ?_ (q _ (EnvR.sets hd en hv) (fun j hj => setsV_out hj) setsV_length)⟩
          · rw [p2, hl, ← hv.length]; exact hd
          · rw [← hv.length]; exact hd
        · cases hst
      · rename_i ds
        split at hst
        · rename_i hd
          simp only [Res.ok.injEq] at hst
          subst hst
          simp only [Rep] at hr
          obtain ⟨a, vs, rfl, hq, hv⟩ := hr
          refine (pg_unl hc p1 rfl p3).run pins s σ H _ u Q I r ⟨a, vs, rfl, SqL.of (ok.sub _ _ hq), ?_, gNs_of ?_ (q _ (EnvR.sets hd en hv) (fun j hj => setsV_out hj) setsV_length)⟩
          · rw [p2, hl, ← hv.length]; exact hd
          · rw [← hv.length]; exact hd
        · cases hst
    · cases h
/-! ### what is walked -/
/-- the iterator J serves the data ds -/
def WalksD (g : Gx) (J : It) (R : Hp) (ds : List D) : Prop := ∀ R' H', Ok g R' H' → (∀ a o, R a = some o → R' a = some o) → ∀ i,
  (∀ d, ds[i]? = some d → J.go i H' ∧ ∀ x H'', J.yld i H' x H'' → ∃ R'', Ok g R'' H'' ∧ Step R' H' R'' H'' ∧ Rep g R'' d x) ∧ (ds.length ≤ i → J.stop i H')
def tI (g : Gx) (W : WX) (f : Env → Res (List D)) : TI := fun σ H Rk => ∃ R H0 ρ, Ok g R H ∧ EnvR g H0 R H σ ρ ∧ Wp g W σ R H (f ρ) fun ds R' H' => ∀ J, WalksD g J R' ds → Rk J H'
theorem walks_lst {g : Gx} {R : Hp} {a : Addr} {vs : List V} {l : List D} (hq : ∀ R' H', Ok g R' H' → (∀ a o, R a = some o → R' a = some o) → SqL g.K H' a vs) (hr : Reps g R l vs) : WalksD g (Itl g.K a) R l := fun R' H' ok le i => by
  have q1 := hq R' H' ok le
  refine ⟨fun d hd => ?_, fun hl => ⟨vs, q1, by rw [← hr.length]; exact hl⟩⟩
  obtain ⟨v, e1, e2⟩ := hr.get hd
  refine ⟨⟨vs, v, q1, e1⟩, fun x H'' y => ?_⟩
  obtain ⟨rfl, y⟩ := y
  have := (y vs q1).symm.trans e1
  cases this
  exact ⟨R', ok, Step.refl, Rep.le le _ _ e2⟩
theorem Reps.ofInts {g : Gx} {R : Hp} : ∀ l : List Int, Reps g R (l.map .int) (l.map V.int)
  | [] => Reps.nil
  | i :: r => Reps.cons (by simp [Rep]) (Reps.ofInts r)
theorem upFrom_get : ∀ (n : Nat) (lo : Int) (i : Nat) (d : D), (upFrom lo n)[i]? = some d → i < n ∧ d = .int (lo + i)
  | 0, lo, i, d, h => by simp [upFrom] at h
  | n + 1, lo, 0, d, h => by
    simp [upFrom] at h
    subst h
    simp
  | n + 1, lo, i + 1, d, h => by
    simp only [upFrom, List.getElem?_cons_succ] at h
    obtain ⟨h1, h2⟩ := upFrom_get n (lo + 1) i d h
    refine ⟨by omega, ?_⟩
    rw [h2]
    congr 1
    omega
theorem upFrom_length : ∀ (n : Nat) (lo : Int), (upFrom lo n).length = n
  | 0, _ => rfl
  | n + 1, lo => by simp [upFrom, upFrom_length n]
theorem walks_range {g : Gx} {R : Hp} (lo : Int) (n : Nat) : WalksD g (Itr lo n) R (upFrom lo n) := fun R' H' ok le i => by
  refine ⟨fun d hd => ?_, fun hl => by rw [upFrom_length] at hl; exact hl⟩
  obtain ⟨h1, h2⟩ := upFrom_get n lo i d hd
  refine ⟨h1, fun x H'' y => ?_⟩
  obtain ⟨rfl, rfl⟩ := y
  refine ⟨R', ok, Step.refl, ?_⟩
  rw [h2]
  simp [Rep]
theorem walks_str {g : Gx} {R : Hp} (l : List Nat) : WalksD g (Its ⟨l.toArray⟩) R (signs l) := fun R' H' ok le i => by
  have hs : ((⟨l.toArray⟩ : Str).cps).size = l.length := by simp
  refine ⟨fun d hd => ?_, fun hl => ?_⟩
  · simp only [signs, List.getElem?_map, Option.map_eq_some_iff] at hd
    obtain ⟨c, e1, rfl⟩ := hd
    obtain ⟨hi, e2⟩ := List.getElem?_eq_some_iff.mp e1
    refine ⟨by show i < _; rw [hs]; exact hi, fun x H'' y => ?_⟩
    obtain ⟨rfl, c', e3, rfl⟩ := y
    refine ⟨R', ok, Step.refl, ?_⟩
    have e4 : (l.toArray)[i]? = some c' := e3
    rw [List.getElem?_toArray, e1] at e4
    cases e4
    simp [Rep]
  · show _ ≤ i
    rw [hs]
    simpa [signs] using hl
section
variable {g : Gx} {S : Sx} {call : Cl} {gl : Nat → Option D} {k : Nat} {X : Cx} {W : WX} {pos p p2 : Pos} {tg : Expr}
theorem pi_of {e : Expr} {f : Env → Res D} (hK : g.K = X.K) (he : PE X e (tD g W f)) : PI X tg e (tI g W fun ρ => (f ρ).bind fun x => match x with
    | .tup l => .ok l
    | .lst l => .ok l
    | .scr l => .ok (l.map .int)
    | .str l => .ok (signs l)
    | _ => .bad) := by
  refine ⟨fun pins s σ H Rk I q => ?_⟩
  obtain ⟨R, H0, ρ, ok, en, w⟩ := q
  cases e1 : f ρ with
  | bad => simp only [e1] at w; exact (show False from w).elim
  | exc c =>
    simp only [e1] at w
    refine (pi_list he).run pins s σ H Rk I ⟨R, H0, ρ, ok, en, ?_⟩
    rw [e1]
    exact w
  | ok x =>
    simp only [e1] at w
    cases x <;> first | exact (show False from w).elim | skip
    · rename_i l
      refine (pi_str he).run pins s σ H Rk I ⟨R, H0, ρ, ok, en, ?_⟩
      rw [e1]
      intro R1 H1 ok1 st1 v r
      simp only [Rep] at r
      exact ⟨_, r, w R1 H1 ok1 st1 _ (walks_str l)⟩
    · rename_i l
      refine (pi_tup he).run pins s σ H Rk I ⟨R, H0, ρ, ok, en, ?_⟩
      rw [e1]
      intro R1 H1 ok1 st1 v r
      simp only [Rep] at r
      obtain ⟨a, vs, rfl, hq, hr⟩ := r
      refine ⟨a, rfl, ⟨vs, hK ▸ SqT.le ok1.sub hq⟩, w R1 H1 ok1 st1 _ ?_⟩
      intro R' H' ok' le i
      have q1 : SqT X.K H' a vs := hK ▸ SqT.le ok'.sub (SqT.le le hq)
      refine ⟨fun d hd => ?_, fun hl => ⟨vs, q1, by rw [← hr.length]; exact hl⟩⟩
      obtain ⟨v, e1, e2⟩ := hr.get hd
      refine ⟨⟨vs, v, q1, e1⟩, fun x H'' y => ?_⟩
      obtain ⟨rfl, y⟩ := y
      have := (y vs q1).symm.trans e1
      cases this
      exact ⟨R', ok', Step.refl, Rep.le le _ _ e2⟩
    · rename_i l
      refine (pi_list he).run pins s σ H Rk I ⟨R, H0, ρ, ok, en, ?_⟩
      rw [e1]
      intro R1 H1 ok1 st1 v r
      simp only [Rep] at r
      obtain ⟨a, vs, rfl, hq, hr⟩ := r
      refine ⟨a, rfl, ⟨vs, SqL.of (ok1.sub _ _ hq)⟩, w R1 H1 ok1 st1 _ ?_⟩
      rw [← hK]
      exact walks_lst (fun R' H' o le => SqL.of (o.sub _ _ (le _ _ hq))) hr
    · rename_i l
      refine (pi_list he).run pins s σ H Rk I ⟨R, H0, ρ, ok, en, ?_⟩
      rw [e1]
      intro R1 H1 ok1 st1 v r
      simp only [Rep] at r
      obtain ⟨a, rfl, hq⟩ := r
      refine ⟨a, rfl, ⟨_, hK ▸ SqL.le ok1.sub hq⟩, w R1 H1 ok1 st1 _ ?_⟩
      rw [← hK]
      exact walks_lst (fun R' H' o le => SqL.le o.sub (SqL.le le hq)) (Reps.ofInts l)
theorem pi_rng {e : Expr} {f : Env → Res D} (hg : Gl X (strN "range")) (hm : X.mg (strN "range") = none) (he : PE X e (tD g W f)) (hp : plainE e = true) : PI X tg (.Call (.Name (strN "range") p) [e] [] pos) (tI g W fun ρ => (f ρ).bind fun x => match x with
    | .int j => if -(2 ^ 62) ≤ j ∧ j < 2 ^ 62 then .ok (upFrom 0 j.toNat) else .bad
    | _ => .bad) := by
  refine ⟨fun pins s σ H Rk I q => ?_⟩
  obtain ⟨R, H0, ρ, ok, en, w⟩ := q
  refine (pi_range1 hg hm (pa_cons he pa_nil (star_plain hp _ _)) (by rw [star_plain hp]; rfl)).run pins s σ H Rk I ⟨R, H0, ρ, ok, en, (Wp.bind ok w).mono fun x R1 H1 ok1 st1 w1 v1 r1 => ?_⟩
  cases x <;> first | exact (show False from w1).elim | skip
  rename_i j
  simp only [Rep] at r1
  subst r1
  by_cases hj : -(2 ^ 62) ≤ j ∧ j < 2 ^ 62
  · simp only [if_pos hj] at w1
    exact ⟨j, rfl, hj.1, hj.2, w1 R1 H1 ok1 Step.refl _ (walks_range 0 _)⟩
  · simp only [if_neg hj] at w1
    exact (show False from w1).elim
theorem pi_rng2 {e e2 : Expr} {f h : Env → Res D} (hg : Gl X (strN "range")) (hm : X.mg (strN "range") = none) (he : PE X e (tD g W f)) (he2 : PE X e2 (tD g W h)) (hp : plainE e = true) (hp2 : plainE e2 = true) : PI X tg (.Call (.Name (strN "range") p) [e, e2] [] pos) (tI g W fun ρ => (f ρ).bind fun x => (h ρ).bind fun y => match x, y with
    | .int i, .int j => if -(2 ^ 62) ≤ i ∧ i < 2 ^ 62 ∧ -(2 ^ 62) ≤ j ∧ j < 2 ^ 62 then .ok (upFrom i (j - i).toNat) else .bad
    | _, _ => .bad) := by
  refine ⟨fun pins s σ H Rk I q => ?_⟩
  obtain ⟨R, H0, ρ, ok, en, w⟩ := q
  refine (pi_range2 hg hm (pa_cons he (pa_cons he2 pa_nil (star_plain hp2 _ _)) (star_plain hp _ _)) (by rw [star_plain hp, star_plain hp2]; rfl) (by rw [star_plain hp2]; rfl)).run pins s σ H Rk I
    ⟨R, H0, ρ, ok, en, (Wp.bind ok w).mono fun x R1 H1 ok1 st1 w1 v1 r1 => ⟨R1, H0, ρ, ok1, en.step st1, (Wp.bind ok1 w1).mono fun y R2 H2 ok2 st2 w2 v2 r2 => ?_⟩⟩
  cases x <;> first | exact (show False from w2).elim | skip
  cases y <;> first | exact (show False from w2).elim | skip
  rename_i i j
  simp only [Rep] at r1 r2
  subst r1
  subst r2
  by_cases hj : -(2 ^ 62) ≤ i ∧ i < 2 ^ 62 ∧ -(2 ^ 62) ≤ j ∧ j < 2 ^ 62
  · simp only [if_pos hj] at w2
    exact ⟨i, j, rfl, hj, w2 R2 H2 ok2 Step.refl _ (walks_range i _)⟩
  · simp only [if_neg hj] at w2
    exact (show False from w2).elim
theorem zipD_get : ∀ (l m : List D) (i : Nat) (d : D), (zipD l m)[i]? = some d → ∃ a b, l[i]? = some a ∧ m[i]? = some b ∧ d = .tup [a, b]
  | [], m, i, d, h => by simp [zipD] at h
  | a :: l, [], i, d, h => by simp [zipD] at h
  | a :: l, b :: m, 0, d, h => by
    simp [zipD] at h
    exact ⟨a, b, rfl, rfl, h.symm⟩
  | a :: l, b :: m, i + 1, d, h => by
    simp only [zipD, List.getElem?_cons_succ] at h
    obtain ⟨x, y, e1, e2, e3⟩ := zipD_get l m i d h
    exact ⟨x, y, by simpa using e1, by simpa using e2, e3⟩
theorem zipD_len : ∀ (l m : List D), (zipD l m).length = min l.length m.length
  | [], m => by simp [zipD]
  | a :: l, [] => by simp [zipD]
  | a :: l, b :: m => by
    simp only [zipD, List.length_cons, zipD_len l m]
    omega
theorem walks_zip {R : Hp} {a b : Addr} {vs ws : List V} {l m : List D} (hq : ∀ R' H', Ok g R' H' → (∀ a o, R a = some o → R' a = some o) → SqL g.K H' a vs ∧ SqL g.K H' b ws) (hr : Reps g R l vs) (hr2 : Reps g R m ws) : WalksD g (Itz g.K a b) R (zipD l m) := fun R' H' ok le i => by
  obtain ⟨q1, q2⟩ := hq R' H' ok le
  refine ⟨fun d hd => ?_, fun hl => ⟨vs, ws, q1, q2, by rw [zipD_len] at hl; rw [← hr.length, ← hr2.length]; omega⟩⟩
  obtain ⟨x, y, e1, e2, rfl⟩ := zipD_get l m i d hd
  obtain ⟨v, f1, f2⟩ := hr.get e1
  obtain ⟨w, g1, g2⟩ := hr2.get e2
  refine ⟨⟨vs, ws, v, w, q1, q2, f1, g1⟩, fun u H'' z => ?_⟩
  obtain ⟨t, x', y', rfl, nt, rfl, k1, k2⟩ := z
  have h1 := (k1 vs q1).symm.trans f1
  have h2 := (k2 ws q2).symm.trans g1
  cases h1
  cases h2
  obtain ⟨ok', st⟩ := ok.lay (o := .tup [v, w]) nt (fun ps z => by cases z)
  refine ⟨_, ok', st, ?_⟩
  simp only [Rep]
  exact ⟨t, _, rfl, SqT.of upd_same, Reps.cons (Rep.le (fun a o h => st.le _ _ (le _ _ h)) _ _ f2) (Reps.cons (Rep.le (fun a o h => st.le _ _ (le _ _ h)) _ _ g2) Reps.nil)⟩
theorem pi_zipD {e e2 : Expr} {f h : Env → Res D} (hK : g.K = X.K) (hg : Gl X (strN "zip")) (hm : X.mg (strN "zip") = none) (he : PE X e (tD g W f)) (he2 : PE X e2 (tD g W h)) (hp : plainE e = true) (hp2 : plainE e2 = true) {es : List Expr} {kk : Nat} {tpos : Pos} : PI X (.Tuple es kk tpos) (.Call (.Name (strN "zip") p) [e, e2] [] pos) (tI g W fun ρ => (f ρ).bind fun x => (h ρ).bind fun y => match x, y with
    | .lst l, .lst m => .ok (zipD l m)
    | _, _ => .bad) := by
  refine ⟨fun pins s σ H Rk I q => ?_⟩
  obtain ⟨R, H0, ρ, ok, en, w⟩ := q
  refine (pi_zip hg hm (pa_cons he (pa_cons he2 pa_nil (star_plain hp2 _ _)) (star_plain hp _ _)) (by rw [star_plain hp, star_plain hp2]) (by rw [star_plain hp2]; rfl)).run pins s σ H Rk I
    ⟨R, H0, ρ, ok, en, (Wp.bind ok w).mono fun x R1 H1 ok1 st1 w1 v1 r1 => ⟨R1, H0, ρ, ok1, en.step st1, (Wp.bind ok1 w1).mono fun y R2 H2 ok2 st2 w2 v2 r2 => ?_⟩⟩
  cases x <;> first | exact (show False from w2).elim | skip
  cases y <;> first | exact (show False from w2).elim | skip
  rename_i l m
  have r1' := Rep.le st2.le _ _ r1
  simp only [Rep] at r1' r2
  obtain ⟨a, vs, rfl, hq, hr⟩ := r1'
  obtain ⟨b, ws, rfl, hq2, hr2⟩ := r2
  refine ⟨a, b, vs, ws, rfl, SqL.of (ok2.sub _ _ hq), SqL.of (ok2.sub _ _ hq2), w2 R2 H2 ok2 Step.refl _ ?_⟩
  rw [← hK]
  exact walks_zip (fun R' H' o le => ⟨SqL.of (o.sub _ _ (le _ _ hq)), SqL.of (o.sub _ _ (le _ _ hq2))⟩) hr hr2
end
end Ev
set_option Elab.async false
set_option linter.all false
set_option maxRecDepth 100000
set_option maxHeartbeats 2000000
/-! EvI: comprehensions; a tuple turned; every expression. -/
namespace Ev
open PySem PySem.Spec PyProof.Rows L2
/-! ### a list of ours, written on -/
theorem Tabs.onLst {T : List (Addr × Str)} {H : Hp} {p : Addr} {xs ys : List V} (t : LamX.Tabs T H) (hp : H p = some (.lst xs)) : LamX.Tabs T (upd H p (.lst ys)) := fun q hq => by
  obtain ⟨ps, h1, h2, h3⟩ := t q hq
  refine ⟨ps, by rw [upd_ne (fun z => by rw [z, hp] at h1; cases h1)]; exact h1, h2, fun pos cv hc => ?_⟩
  obtain ⟨c, e1, e2⟩ := h3 pos cv hc
  refine ⟨c, e1, ?_⟩
  rw [upd_ne (fun z => by
    rw [z, hp] at e2
    unfold LamX.CodeO at e2
    cases e2)]
  exact e2
theorem Ok.onLst {g : Gx} {R H : Hp} {p : Addr} {xs ys : List V} (ok : Ok g R H) (hp : H p = some (.lst xs)) (hr : R p = none) : Ok g R (upd H p (.lst ys)) :=
  ⟨fun a o e => by rw [upd_ne (fun z => by rw [z, hr] at e; cases e)]; exact ok.sub a o e, ok.tbl, Tabs.onLst ok.tabs hp⟩
/-- from a heap in which p is not yet -/
theorem Step.onLst {R1 H1 R H : Hp} {p : Addr} {ys : List V} (s : Step R1 H1 R H) (h1 : Nt H1 p) : Step R1 H1 R (upd H p (.lst ys)) :=
  ⟨s.le, fun a o e n => by rw [upd_ne (h1.ne e n)]; exact s.ext a o e n, s.new⟩
/-- the list becomes part of what is frozen -/
theorem Ok.freeze {g : Gx} {R H : Hp} {p : Addr} {xs : List V} (ok : Ok g R H) (hp : H p = some (.lst xs)) : Ok g (upd R p (.lst xs)) H :=
  ⟨fun a o e => by
    by_cases z : a = p
    · subst z; rw [upd_same] at e; cases e; exact hp
    · rw [upd_ne z] at e; exact ok.sub a o e, fun a ps e => by
    by_cases z : a = p
    · subst z; rw [upd_same] at e; cases e
    · rw [upd_ne z] at e; exact ok.tbl a ps e, ok.tabs⟩
theorem Step.freeze {R1 H1 R H : Hp} {p : Addr} {xs : List V} (s : Step R1 H1 R H) (h1 : Nt H1 p) (hr : R p = none) : Step R1 H1 (upd R p (.lst xs)) H :=
  ⟨fun a o e => by
    have e2 := s.le a o e
    rw [upd_ne (fun z => by rw [z, hr] at e2; cases e2)]
    exact e2, s.ext, fun a o e t n => by
    rw [upd_ne (h1.ne e t)]
    exact s.new a o e t n⟩
theorem wipe_self {σ σ' : L2.St} {vs : List Nat} (hl : σ'.length = σ.length) (h : ∀ j, j ∉ vs → σ'[j]? = σ[j]?) : wipe σ' vs = wipe σ vs := by
  apply List.ext_getElem?
  intro j
  by_cases hj : j ∈ vs
  · have w : ∀ (τ : L2.St) (us : List Nat), j ∈ us → (wipe τ us)[j]? = if j < τ.length then some none else none := by
      intro τ us
      induction us with
      | nil => intro z; cases z
      | cons u us ih =>
        intro z
        show ((wipe τ us).set u none)[j]? = _
        by_cases hu : u = j
        · subst hu
          by_cases hl : u < τ.length
          · rw [List.getElem?_set_self (by rw [wipe_length]; exact hl), if_pos hl]
          · rw [List.getElem?_eq_none (by rw [List.length_set, wipe_length]; omega), if_neg hl]
        · rw [List.getElem?_set_ne hu]
          rcases List.mem_cons.mp z with e | e
          · exact absurd e.symm hu
          · exact ih e
    rw [w σ' vs hj, w σ vs hj, hl]
  · rw [wipe_out hj, wipe_out hj]
    exact h j hj
section
variable {g : Gx} {S : Sx} {call : Cl} {gl : Nat → Option D} {k : Nat} {X : Cx} {W : WX} {pos p p2 : Pos}
abbrev W0 : WX := fun _ _ _ _ => False
theorem takes_0 {X : Cx} : Takes X W0 := LamX.takes0
/-- one turn's outcome -/
def turnD (t : Tg) (own : List Nat) (fc : Env → Res Bool) (fe : Env → Res D) (ρ : Env) (d : D) : Res (Option D) :=
  (storeT t d (wipeV ρ own)).bind fun ρ2 => (fc ρ2).bind fun k => if k = true then (fe ρ2).bind fun y => .ok (some y) else .ok none
theorem turnD_ok {t : Tg} {own : List Nat} {fc : Env → Res Bool} {fe : Env → Res D} {ρ : Env} {d : D} {o : Option D} (h : turnD t own fc fe ρ d = .ok o) :
    ∃ ρ2 k, storeT t d (wipeV ρ own) = .ok ρ2 ∧ fc ρ2 = .ok k ∧ ((k = true ∧ ∃ y, fe ρ2 = .ok y ∧ o = some y) ∨ (k = false ∧ o = none)) := by
  unfold turnD at h
  cases e1 : storeT t d (wipeV ρ own) with
  | bad => rw [e1] at h; cases h
  | exc c => rw [e1] at h; cases h
  | ok ρ2 =>
    rw [e1] at h
    cases e2 : fc ρ2 with
    | bad => simp [e2] at h
    | exc c => simp [e2] at h
    | ok k =>
      refine ⟨ρ2, k, rfl, e2, ?_⟩
      simp only [Res.bind_ok, e2] at h
      cases k with
      | false => simp at h; exact .inr ⟨rfl, h.symm⟩
      | true =>
        simp only [if_true] at h
        cases e3 : fe ρ2 with
        | bad => simp [e3] at h
        | exc c => simp [e3] at h
        | ok y => simp [e3] at h; exact .inl ⟨rfl, y, rfl, h.symm⟩
theorem compD_len {body : D → Res (Option D)} : ∀ {ds l : List D}, compD body ds = .ok l → l.length ≤ ds.length
  | [], l, h => by simp only [compD, Res.ok.injEq] at h; subst h; exact Nat.le_refl _
  | d :: r, l, h => by
    simp only [compD] at h
    split at h
    · cases e : compD body r with
      | ok m =>
        simp only [e, Res.bind_ok, Res.ok.injEq] at h
        subst h
        have := compD_len e
        simp
        exact this
      | exc c => simp [e] at h
      | bad => simp [e] at h
    · have := compD_len h
      simp; omega
    · cases h
/-- what is asked of a new list of one's own -/
def ownQ (g : Gx) (Q : VK) (l : List D) (R' H' : Hp) : Prop := ∀ (p : Addr) (vs : List V) (R2 H2 : Hp), Ok g R2 H2 → Step R' H' R2 H2 → H2 p = some (.lst vs) → R2 p = none → H' p = none → Reps g R2 l vs → Q (.ref p) H2
theorem pd_compO (h : Here g S call gl k X) {elt tg iter : Expr} {ifs : List Expr} {scope : Scope} {own : List (Str × Nat)} {t : Tg} {fi : Env → Res (List D)} {fc : Env → Res Bool} {fe : Env → Res D} (hi : PI X tg iter (tI g W fi)) (bk : BlkOk X.N X.env.scope scope own)
    (hg : ∀ (s : Shared) (H : Hp) (C : Addr) (cl : List (Str × Addr)) (fp : List Addr), PG (X.blk s H scope (compEnvC scope cl C X.env) fp) tg (gT g t))
    (ht : ∀ (s : Shared) (H : Hp) (C : Addr) (cl : List (Str × Addr)) (fp : List Addr), PTs (X.blk s H scope (compEnvC scope cl C X.env) fp) ifs (tT g W0 fc))
    (he : ∀ (s : Shared) (H : Hp) (C : Addr) (cl : List (Str × Addr)) (fp : List Addr), PE (X.blk s H scope (compEnvC scope cl C X.env) fp) elt (tD g W0 fe))
    (hs : ∀ x, foldedSetIterable iter X.env x = pure x) (hin : ∀ j ∈ slotsT t, j ∈ own.map (·.2)) :
    ∀ σ H Q, (∃ R H0 ρ, Ok g R H ∧ EnvR g H0 R H σ ρ ∧ Wp g W σ R H ((fi ρ).bind fun ds => (compD (turnD t (own.map (·.2)) fc fe ρ) ds).bind fun l => if l.length ≤ MAXL then .ok l else .bad) (ownQ g Q)) → tLc (tI g W fi) (gT g t) (tT g W0 fc) (tD g W0 fe) (own.map (·.2)) σ H Q := by
  intro σ H Q q
  obtain ⟨R, H0, ρ, ok, en, w⟩ := q
  refine ⟨R, H0, ρ, ok, en, (Wp.bind ok w).mono fun ds R1 H1 ok1 st1 w1 J hJ pD nD => ?_⟩
  cases ec : compD (turnD t (own.map (·.2)) fc fe ρ) ds with
  | bad => rw [ec] at w1; exact (show False from w1).elim
  | exc c =>
    exfalso
    clear w w1 hJ
    have gen : ∀ es : List D, compD (turnD t (own.map (·.2)) fc fe ρ) es ≠ .exc c := by
      intro es
      induction es with
      | nil => intro z; cases z
      | cons d r ih =>
        intro z
        simp only [compD] at z
        split at z
        · cases e : compD (turnD t (own.map (·.2)) fc fe ρ) r with
          | ok m => simp [e] at z
          | exc c' =>
            rw [e] at z
            have : c' = c := by simpa using z
            subst this
            exact ih e
          | bad => simp [e] at z
        · exact ih z
        · cases z
    exact gen ds ec
  | ok l =>
    rw [ec] at w1
    by_cases hz : l.length ≤ MAXL
    · have w1 : ∀ R' H', Ok g R' H' → Step R1 H1 R' H' → ownQ g Q l R' H' := by
        have w2 : Wp g W σ R1 H1 (if l.length ≤ MAXL then Res.ok l else .bad) (ownQ g Q) := w1
        rw [if_pos hz] at w2
        exact w2
      have en1 := en.step st1
      obtain ⟨okD, stD, rD⟩ := ok1.layOwn (o := .lst []) nD
      refine ⟨fun i m H => i + m = ds.length ∧ ∃ R acc accD rest, Ok g R H ∧ Step R1 H1 R H ∧ H pD = some (.lst acc) ∧ R pD = none ∧ Reps g R accD acc ∧ compD (turnD t (own.map (·.2)) fc fe ρ) (ds.drop i) = .ok rest ∧ accD ++ rest = l,
        ⟨ds.length, by omega, R1, [], [], l, okD, stD, upd_same, rD, Reps.nil, ec, rfl⟩, ?_⟩
      rintro i m H ⟨him, R2, acc, accD, rest, ok2, st2, hD, rD2, hacc, hrest, hl⟩
      obtain ⟨J1, J2⟩ := hJ R2 H ok2 st2.le i
      by_cases hi : i < ds.length
      · obtain ⟨Jgo, Jy⟩ := J1 ds[i] (List.getElem?_eq_getElem hi)
        refine .inr ⟨Jgo, fun H' => ∃ R acc accD rest, Ok g R H' ∧ Step R1 H1 R H' ∧ H' pD = some (.lst acc) ∧ R pD = none ∧ Reps g R accD acc ∧ compD (turnD t (own.map (·.2)) fc fe ρ) (ds.drop (i + 1)) = .ok rest ∧ accD ++ rest = l, fun H' hN => ⟨m - 1, by omega, by omega, hN⟩, fun x H3 y => ?_⟩
        obtain ⟨R3, ok3, st3, r3⟩ := Jy x H3 y
        have hdrop : ds.drop i = ds[i] :: ds.drop (i + 1) := List.drop_eq_getElem_cons hi
        rw [hdrop] at hrest
        have tot : ∃ o, turnD t (own.map (·.2)) fc fe ρ ds[i] = .ok o := by
          simp only [compD] at hrest
          split at hrest
          · exact ⟨_, by assumption⟩
          · exact ⟨_, by assumption⟩
          · cases hrest
        obtain ⟨o, eo⟩ := tot
        obtain ⟨ρ2, kk, e1, e2, e3⟩ := turnD_ok eo
        have st13 := st2.trans st3
        have hD3 : H3 pD = some (.lst acc) := st3.ext _ _ hD (fun ps z => by cases z)
        have rD3 : R3 pD = none := st3.new pD _ hD (fun ps z => by cases z) rD2
        refine ⟨R3, H0, wipeV ρ (own.map (·.2)), ds[i], ρ2, ok3, (en1.step st13).wipe _, r3, e1, fun σ' en' hout hlen => ⟨?_, ?_⟩⟩
        · refine (wipe_self (σ := wipe σ (own.map (·.2))) hlen fun j hj => hout j fun z => hj (hin j z)).trans ?_
          exact wipe_self (wipe_length σ _) fun j hj => wipe_out hj
        · refine ⟨R3, H0, ρ2, ok3, en', ?_⟩
          rw [e2]
          intro R4 H4 ok4 st4
          have hD4 : H4 pD = some (.lst acc) := st4.ext _ _ hD3 (fun ps z => by cases z)
          have rD4 : R4 pD = none := st4.new pD _ hD3 (fun ps z => by cases z) rD3
          rcases e3 with ⟨rfl, y, e4, e5⟩ | ⟨rfl, e5⟩
          · dsimp only
            rw [if_pos rfl]
            refine ⟨R4, H0, ρ2, ok4, en'.step st4, ?_⟩
            rw [e4]
            intro R5 H5 ok5 st5 v r5
            have hD5 : H5 pD = some (.lst acc) := st5.ext _ _ hD4 (fun ps z => by cases z)
            have rD5 : R5 pD = none := st5.new pD _ hD4 (fun ps z => by cases z) rD4
            subst e5
            simp only [compD, eo] at hrest
            cases er : compD (turnD t (own.map (·.2)) fc fe ρ) (ds.drop (i + 1)) with
            | bad => simp [er] at hrest
            | exc c => simp [er] at hrest
            | ok rest2 =>
              simp only [er, Res.bind_ok, Res.ok.injEq] at hrest
              have hlen2 : accD.length + (rest2.length + 1) = l.length := by rw [← hl, ← hrest]; simp
              refine ⟨acc, hD5, by rw [← hacc.length, ← maxl_line]; omega, R5, acc ++ [v], accD ++ [y], rest2, ok5.onLst hD5 rD5, ((st13.trans st4).trans st5).onLst (.of nD), upd_same, rD5,
                Reps.app (Reps.le (fun a o e => st5.le a o (st4.le a o (st3.le a o e))) _ _ hacc) (Reps.cons r5 Reps.nil), by first | rfl | exact er, ?_⟩
              rw [← hl, ← hrest]
              simp
          · dsimp only
            rw [if_neg Bool.false_ne_true]
            subst e5
            simp only [compD, eo] at hrest
            exact ⟨R4, acc, accD, rest, ok4, st13.trans st4, hD4, rD4, Reps.le (fun a o e => st4.le a o (st3.le a o e)) _ _ hacc, hrest, hl⟩
      · refine .inl ⟨J2 (by omega), ?_⟩
        have : ds.drop i = [] := List.drop_eq_nil_of_le (by omega)
        rw [this] at hrest
        simp only [compD, Res.ok.injEq] at hrest
        subst hrest
        rw [List.append_nil] at hl
        subst hl
        exact w1 _ _ ok1 Step.refl pD acc _ _ ok2 st2 hD rD2 nD hacc
    · exfalso
      have w2 : Wp g W σ R1 H1 (if l.length ≤ MAXL then Res.ok l else .bad) (ownQ g Q) := w1
      rw [if_neg hz] at w2
      exact w2
theorem pd_comp (h : Here g S call gl k X) {elt tg iter : Expr} {ifs : List Expr} {scope : Scope} {own : List (Str × Nat)} {t : Tg} {fi : Env → Res (List D)} {fc : Env → Res Bool} {fe : Env → Res D} (hi : PI X tg iter (tI g W fi)) (bk : BlkOk X.N X.env.scope scope own)
    (hg : ∀ (s : Shared) (H : Hp) (C : Addr) (cl : List (Str × Addr)) (fp : List Addr), PG (X.blk s H scope (compEnvC scope cl C X.env) fp) tg (gT g t))
    (ht : ∀ (s : Shared) (H : Hp) (C : Addr) (cl : List (Str × Addr)) (fp : List Addr), PTs (X.blk s H scope (compEnvC scope cl C X.env) fp) ifs (tT g W0 fc))
    (he : ∀ (s : Shared) (H : Hp) (C : Addr) (cl : List (Str × Addr)) (fp : List Addr), PE (X.blk s H scope (compEnvC scope cl C X.env) fp) elt (tD g W0 fe))
    (hs : ∀ x, foldedSetIterable iter X.env x = pure x) (hin : ∀ j ∈ slotsT t, j ∈ own.map (·.2)) :
    ∀ σ H Q, tD g W (fun ρ => (fi ρ).bind fun ds => (compD (turnD t (own.map (·.2)) fc fe ρ) ds).bind fun l => if l.length ≤ MAXL then .ok (.lst l) else .bad) σ H Q → tLc (tI g W fi) (gT g t) (tT g W0 fc) (tD g W0 fe) (own.map (·.2)) σ H Q := by
  intro σ H Q q
  refine pd_compO h hi bk hg ht he hs hin σ H Q ?_
  obtain ⟨R, H0, ρ, ok, en, w⟩ := q
  refine ⟨R, H0, ρ, ok, en, ?_⟩
  dsimp only at w
  have e : ((fi ρ).bind fun ds => (compD (turnD t (own.map (·.2)) fc fe ρ) ds).bind fun l => if l.length ≤ MAXL then Res.ok (Ev.D.lst l) else .bad) = ((fi ρ).bind fun ds => (compD (turnD t (own.map (·.2)) fc fe ρ) ds).bind fun l => if l.length ≤ MAXL then Res.ok l else .bad).bind fun l => .ok (Ev.D.lst l) := by
    cases fi ρ with
    | bad => rfl
    | exc c => rfl
    | ok ds =>
      simp only [Res.bind_ok]
      cases compD (turnD t (own.map (·.2)) fc fe ρ) ds with
      | bad => rfl
      | exc c => rfl
      | ok l =>
        simp only [Res.bind_ok]
        split <;> rfl
  rw [e] at w
  refine (Wp.bind ok w).mono fun l R' H' ok' st' w1 p vs R2 H2 ok2 st2 hp rp np hr => ?_
  refine w1 _ _ (ok2.freeze hp) (st2.freeze (.of np) rp) _ ?_
  simp only [Rep]
  refine ⟨p, vs, rfl, upd_same, Reps.le (fun a o e => ?_) _ _ hr⟩
  rw [upd_ne (fun z => by rw [z, rp] at e; cases e)]
  exact e
end
/-! ### dicts written down, asked at once -/
theorem Tabs.onDk {T : List (Addr × Str)} {H : Hp} {p : Addr} {xs ys : List (Key × V)} (t : LamX.Tabs T H) (hp : H p = some (.dK xs)) : LamX.Tabs T (upd H p (.dK ys)) := fun q hq => by
  obtain ⟨ps, h1, h2, h3⟩ := t q hq
  refine ⟨ps, by rw [upd_ne (fun z => by rw [z, hp] at h1; cases h1)]; exact h1, h2, fun pos cv hc => ?_⟩
  obtain ⟨c, e1, e2⟩ := h3 pos cv hc
  refine ⟨c, e1, ?_⟩
  rw [upd_ne (fun z => by
    rw [z, hp] at e2
    unfold LamX.CodeO at e2
    cases e2)]
  exact e2
theorem Ok.onDk {g : Gx} {R H : Hp} {p : Addr} {xs ys : List (Key × V)} (ok : Ok g R H) (hp : H p = some (.dK xs)) (hr : R p = none) : Ok g R (upd H p (.dK ys)) :=
  ⟨fun a o e => by rw [upd_ne (fun z => by rw [z, hr] at e; cases e)]; exact ok.sub a o e, ok.tbl, Tabs.onDk ok.tabs hp⟩
theorem Step.onDk {R1 H1 R H : Hp} {p : Addr} {ys : List (Key × V)} (s : Step R1 H1 R H) (h1 : Nt H1 p) : Step R1 H1 R (upd H p (.dK ys)) :=
  ⟨s.le, fun a o e n => by rw [upd_ne (h1.ne e n)]; exact s.ext a o e n, s.new⟩
theorem Wp.from {α : Type} {g : Gx} {W : WX} {σ : L2.St} {R H R' H' : Hp} {r : Res α} {Q : α → Hp → Hp → Prop} (h : Wp g W σ R H r Q) (st : Step R H R' H') : Wp g W σ R' H' r Q := by
  cases r with
  | ok a => exact fun R2 H2 ok s => h R2 H2 ok (st.trans s)
  | exc c => exact fun R2 H2 ok s => h R2 H2 ok (st.trans s)
  | bad => exact h
/-- a dict's entries -/
def zipK : List (List Nat) → List V → List (Key × V)
  | k :: ks, v :: vs => (.inr (mkS k), v) :: zipK ks vs
  | _, _ => []
def zipV : List (List Nat) → List V → List (V × V)
  | k :: ks, v :: vs => (.str (mkS k), v) :: zipV ks vs
  | _, _ => []
theorem zipV_eq : ∀ (ks : List (List Nat)) (vs : List V), zipV ks vs = (zipK ks vs).map fun kv => (kV kv.1, kv.2)
  | [], vs => by simp [zipV, zipK]
  | k :: ks, [] => by simp [zipV, zipK]
  | k :: ks, v :: vs => by
    simp only [zipV, zipK, List.map_cons, zipV_eq ks vs]
    rfl
theorem zipK_len : ∀ (ks : List (List Nat)) (vs : List V), (zipK ks vs).length ≤ ks.length
  | [], vs => by simp [zipK]
  | k :: ks, [] => by simp [zipK]
  | k :: ks, v :: vs => by
    simp only [zipK, List.length_cons]
    have := zipK_len ks vs
    omega
theorem mkS_inj {a b : List Nat} (h : mkS a = mkS b) : a = b := by
  have := congrArg (fun z : Str => z.cps.toList) h
  simpa using this
theorem zipK_keys : ∀ (ks : List (List Nat)) (vs : List V) (k : Key), (∃ v, (k, v) ∈ zipK ks vs) → ∃ s ∈ ks, k = .inr (mkS s)
  | [], vs, k, h => by simp [zipK] at h
  | s :: ks, [], k, h => by simp [zipK] at h
  | s :: ks, v :: vs, k, ⟨u, h⟩ => by
    simp only [zipK, List.mem_cons, Prod.mk.injEq] at h
    rcases h with ⟨e, _⟩ | h
    · exact ⟨s, List.mem_cons_self, e⟩
    · obtain ⟨t, h1, h2⟩ := zipK_keys ks vs k ⟨u, h⟩
      exact ⟨t, List.mem_cons_of_mem _ h1, h2⟩
theorem merge_zip : ∀ (ks : List (List Nat)) (vs : List V) (acc : List (Key × V)), ks.Nodup → (∀ s ∈ ks, ∀ p ∈ acc, p.1 ≠ .inr (mkS s)) → mergeK acc (zipK ks vs) = acc ++ zipK ks vs
  | [], vs, acc, _, _ => by simp [zipK, mergeK]
  | k :: ks, [], acc, _, _ => by simp [zipK, mergeK]
  | k :: ks, v :: vs, acc, hn, ha => by
    have hk := List.nodup_cons.mp hn
    have e : putK acc (.inr (mkS k)) v = acc ++ [(.inr (mkS k), v)] := by
      unfold putK
      rw [if_neg]
      simp only [List.any_eq_true, decide_eq_true_eq, not_exists, not_and]
      exact fun p hp => ha k List.mem_cons_self p hp
    have ih := merge_zip ks vs (acc ++ [(.inr (mkS k), v)]) hk.2 (fun s hs p hp => by
      rcases List.mem_append.mp hp with hp | hp
      · exact ha s (List.mem_cons_of_mem _ hs) p hp
      · simp only [List.mem_singleton] at hp
        subst hp
        intro z
        have : k = s := mkS_inj (Sum.inr.inj z)
        exact hk.1 (this ▸ hs))
    unfold mergeK at ih ⊢
    simp only [zipK, List.foldl_cons, e, ih, List.append_assoc, List.singleton_append]
theorem val_zip {g : Gx} {R : Hp} : ∀ {ks : List (List Nat)} {ds : List D} {vs : List V} (s : List Nat), Reps g R ds vs → match lookL ks ds s with
    | some d => ∃ v, valV (zipK ks vs) (.inr (mkS s)) = some v ∧ Rep g R d v
    | none => valV (zipK ks vs) (.inr (mkS s)) = none
  | [], ds, vs, s, r => by simp [lookL, zipK, valV_nil]
  | k :: ks, [], vs, s, r => by
    simp only [Reps] at r
    subst r
    simp [lookL, zipK, valV_nil]
  | k :: ks, d :: ds, vs, s, r => by
    simp only [Reps] at r
    obtain ⟨v, us, rfl, h1, h2⟩ := r
    by_cases e : k = s
    · subst e
      simp only [lookL, if_pos, zipK]
      exact ⟨v, valV_pos rfl, h1⟩
    · have ih := val_zip (ks := ks) s h2
      have e2 : valV (zipK (k :: ks) (v :: us)) (.inr (mkS s)) = valV (zipK ks us) (.inr (mkS s)) := by
        show valV ((.inr (mkS k), v) :: zipK ks us) (.inr (mkS s)) = _
        unfold valV
        rw [List.find?_cons_of_neg (by simp only [decide_eq_true_eq]; exact fun z => e (mkS_inj (Sum.inr.inj z)))]
      simp only [lookL, if_neg e, e2]
      exact ih
/-- a list of pairs, one behind another -/
def PairsOk (g : Gx) (W : WX) (trs : List (TE × TE)) (ks : List (List Nat)) (f : Env → Res (List D)) : Prop := ∀ (σ : L2.St) (R H0 H : Hp) (ρ : Env) (Q : List (V × V) → Hp → Prop), Ok g R H → EnvR g H0 R H σ ρ →
  Wp g W σ R H (f ρ) (fun ds R' H' => ∀ vs, Reps g R' ds vs → Q (zipV ks vs) H') → tPairs trs σ H Q
section
variable {g : Gx} {S : Sx} {call : Cl} {gl : Nat → Option D} {k : Nat} {X : Cx} {W : WX} {pos : Pos}
theorem pp_nilD : ∃ trs, PPs X pos [] [] trs ∧ PairsOk g W trs [] fun _ => .ok [] := ⟨[], pps_nil, fun σ R H0 H ρ Q ok en w => w R H ok Step.refl [] Reps.nil⟩
theorem pp_consD {s : Str} {c : Nat} {p2 : Pos} {kk : List Nat} {ks : List (List Nat)} {es : List (Option Expr)} {e : Expr} {vs : List Expr} {trs : List (TE × TE)} {f : Env → Res D} {fs : Env → Res (List D)}
    (hk : PE X (.Constant (.str s) c p2) (tC (.str (mkS kk)))) (he : PE X e (tD g W f)) (hr : PPs X pos es vs trs) (ho : PairsOk g W trs ks fs) :
    ∃ trs, PPs X pos (some (.Constant (.str s) c p2) :: es) (e :: vs) trs ∧ PairsOk g W trs (kk :: ks) fun ρ => (f ρ).bind fun x => (fs ρ).bind fun xs => .ok (x :: xs) :=
  ⟨_, pps_cons hk he hr, fun σ R H0 H ρ Q ok en w => by
    show tPairs _ _ _ _
    refine ⟨R, H0, ρ, ok, en, (Wp.bind ok w).mono fun x R1 H1 ok1 st1 w1 v1 r1 => ?_⟩
    refine ho σ R1 H0 H1 ρ _ ok1 (en.step st1) ((Wp.bind ok1 w1).mono fun xs R2 H2 ok2 st2 w2 us r2 => ?_)
    exact w2 R2 H2 ok2 Step.refl (v1 :: us) (Reps.cons (Rep.le st2.le _ _ r1) r2)⟩
/-- a dict that is written down and asked -/
theorem disp_of {trs : List (TE × TE)} {ks : List (List Nat)} {fs : Env → Res (List D)} {F : Env → List D → Res D} (ho : PairsOk g W trs ks fs) (hn : ks.Nodup) (hl : ks.length ≤ 15) {σ : L2.St} {H : Hp} {Q : VK} (q : tD g W (fun ρ => (fs ρ).bind (F ρ)) σ H Q)
    {T : V → Hp → Prop} (h : ∀ R H0 H1 ρ ds (vs : List V) p, Ok g R H1 → EnvR g H0 R H1 σ ρ → Reps g R ds vs → H1 p = some (.dK (zipK ks vs)) → Wp g W σ R H1 (F ρ ds) (fun d R' H' => ∀ v, Rep g R' d v → Q v H') → T (.ref p) H1) : tDisp trs σ H T := by
  obtain ⟨R, H0, ρ, ok, en, w⟩ := q
  intro p np
  obtain ⟨okD, stD, rD⟩ := ok.layOwn (o := .dK []) np
  have w : Wp g W σ R H ((fs ρ).bind (F ρ)) (fun d R' H' => ∀ v, Rep g R' d v → Q v H') := w
  cases e : fs ρ with
  | bad => rw [e] at w; exact (show False from w).elim
  | exc c =>
    rw [e] at w
    refine ho σ R H0 _ ρ _ okD (en.step stD) ?_
    rw [e]
    exact fun R' H' o st => w R' H' o (stD.trans st)
  | ok ds =>
    rw [e] at w
    have w' : Wp g W σ R H (F ρ ds) (fun d R' H' => ∀ v, Rep g R' d v → Q v H') := w
    refine ho σ R H0 _ ρ _ okD (en.step stD) ?_
    rw [e]
    intro R1 H1 ok1 st1 vs r1
    have hp : H1 p = some (.dK []) := st1.ext _ _ upd_same (fun ps z => by cases z)
    have rp : R1 p = none := st1.new p _ upd_same (fun ps z => by cases z) rD
    have em : mergeK [] (zipK ks vs) = zipK ks vs := by
      have := merge_zip ks vs [] hn (fun _ _ p hp => by cases hp)
      simpa using this
    have stA : Step R H R1 (upd H1 p (.dK (zipK ks vs))) := (stD.trans st1).onDk (.of np)
    refine ⟨hp, zipK ks vs, zipV_eq ks vs, Nat.le_trans (zipK_len _ _) hl, ?_⟩
    rw [em]
    exact h R1 H0 _ ρ ds vs p (ok1.onDk hp rp) (en.step stA) r1 upd_same (w'.from stA)
theorem noSl_ok {i : Expr} (h : isSlice i = false) : NoSl i := fun o v => by
  cases i <;> first | rfl | cases h
/-- {..}[k] -/
theorem pd_dsub (h : Here g S call gl k X) {keys : List (Option Expr)} {values : List Expr} {trs : List (TE × TE)} {ks : List (List Nat)} {fs : Env → Res (List D)} {f : Env → Res D} {i : Expr} {p2 : Pos}
    (hp : PPs X p2 keys values trs) (ho : PairsOk g W trs ks fs) (hn : ks.Nodup) (hl : ks.length ≤ 15) (hall : keys.all (·.isSome) = true) (hlen : keys.length = values.length) (h0 : keys ≠ []) (h15 : keys.length ≤ 15) (hi : PE X i (tD g W f)) (hs : isSlice i = false) :
    PE X (.Subscript (.Dict keys values p2) i pos) (tD g W fun ρ => (fs ρ).bind fun ds => (f ρ).bind fun x => dlook ks ds x) := by
  have hu := h.room.units0
  have hu1 : X.A.units + 1 < cLine := by
    have := h.room.units
    omega
  refine PE.mono (pe_dget hu1 (pe_disp hp hall hlen h0 h15) hi (noSl_ok hs)) fun _ _ σ H Q _ q => ?_
  refine disp_of (F := fun ρ ds => (f ρ).bind fun x => dlook ks ds x) ho hn hl q fun R H0 H1 ρ ds vs p ok en rs hd w => ?_
  refine ⟨R, H0, ρ, ok, en, (Wp.bind ok w).mono fun x R2 H2 ok2 st2 w2 y r2 => ?_⟩
  have hd2 : H2 p = some (.dK (zipK ks vs)) := st2.ext _ _ hd (fun ps z => by cases z)
  cases x <;> first | exact (show False from w2).elim | skip
  rename_i s
  have ey := r2.str
  subst ey
  have hv := val_zip (ks := ks) s rs
  cases e : lookL ks ds s with
  | none =>
    simp only [dlook, e] at w2
    exact (show False from w2).elim
  | some d =>
    simp only [e] at hv
    obtain ⟨v, h1, h2⟩ := hv
    simp only [dlook, e] at w2
    exact ⟨p, v, rfl, by rw [← h1]; exact DGet.k (k := .inr (mkS s)) hd2, w2 R2 H2 ok2 Step.refl v (Rep.le st2.le _ _ h2)⟩
/-- {..}.get(k, d) -/
theorem pd_dgt (h : Here g S call gl k X) {keys : List (Option Expr)} {values : List Expr} {trs : List (TE × TE)} {ks : List (List Nat)} {fs : Env → Res (List D)} {f f2 : Env → Res D} {i j : Expr} {p2 apos : Pos}
    (hp : PPs X p2 keys values trs) (ho : PairsOk g W trs ks fs) (hn : ks.Nodup) (hl : ks.length ≤ 15) (hall : keys.all (·.isSome) = true) (hlen : keys.length = values.length) (h0 : keys ≠ []) (h15 : keys.length ≤ 15) (hi : PE X i (tD g W f)) (hj : PE X j (tD g W f2))
    (hpi : plainE i = true) (hpj : plainE j = true) (hline : (apos.endLine == pos.line) = true) :
    PE X (.Call (.Attribute (.Dict keys values p2) (strN "get") apos) [i, j] [] pos) (tD g W fun ρ => (fs ρ).bind fun ds => (f ρ).bind fun x => (f2 ρ).bind fun y => dlookD ks ds x y) := by
  have hu1 : X.A.units + 1 < cLine := by
    have := h.room.units
    omega
  have st1 : starEach [i, j] X.env = [(false, eval i X.env), (false, eval j X.env)] := by rw [star_plain hpi, star_plain hpj]; rfl
  have m : M2 X (.Dict keys values p2) (strN "get") apos i j pos := ⟨rfl, by
    refine few_ok hpi ?_ (by simp)
    rw [star_plain hpj]
    rfl, hline, by rw [st1]; rfl⟩
  refine PE.mono (pe_dget2 hu1 (pe_disp hp hall hlen h0 h15) hi hj m) fun _ _ σ H Q _ q => ?_
  refine disp_of (F := fun ρ ds => (f ρ).bind fun x => (f2 ρ).bind fun y => dlookD ks ds x y) ho hn hl q fun R H0 H1 ρ ds vs p ok en rs hd w => ?_
  refine ⟨p, rfl, .inl ⟨_, .inl hd⟩, R, H0, ρ, ok, en, (Wp.bind ok w).mono fun x R2 H2 ok2 st2 w2 y r2 => ?_⟩
  refine ⟨R2, H0, ρ, ok2, en.step st2, (Wp.bind ok2 w2).mono fun z R3 H3 ok3 st3 w3 u r3 => ?_⟩
  have hd3 : H3 p = some (.dK (zipK ks vs)) := st3.ext _ _ (st2.ext _ _ hd (fun ps z => by cases z)) (fun ps z => by cases z)
  cases x <;> first | exact (show False from w3).elim | skip
  rename_i s
  have ey := r2.str
  subst ey
  have hv := val_zip (ks := ks) s rs
  cases e : lookL ks ds s with
  | none =>
    simp only [e] at hv
    simp only [dlookD, e] at w3
    exact ⟨none, by rw [← hv]; exact DGet.k (k := .inr (mkS s)) hd3, w3 R3 H3 ok3 Step.refl u r3⟩
  | some d =>
    simp only [e] at hv
    obtain ⟨v, h1, h2⟩ := hv
    simp only [dlookD, e] at w3
    exact ⟨some v, by rw [← h1]; exact DGet.k (k := .inr (mkS s)) hd3, w3 R3 H3 ok3 Step.refl v (Rep.le (fun a o z => st3.le a o (st2.le a o z)) _ _ h2)⟩
/-- a dict of the module, asked -/
theorem pe_dname (h : Here g S call gl k X) {i : Nat} {x : Str} {l : List D} (hi : S.gN[i]? = some x) (hl : gl (1000 + i) = some (.lst l)) (hg : Gl X x) (hd : notDbg x = true) : ∃ a, PE X (.Name x pos) (tC (.ref a)) ∧ KDat g X.K X.w a l := by
  obtain ⟨a, h1, h2⟩ := h.dct i x l hi hl
  exact ⟨a, pe_glob hg h1 (by first | rfl | constructor) (notDbg_1 hd), h2⟩
theorem pd_kget (h : Here g S call gl k X) {i : Nat} {x : Str} (hi : S.gN[i]? = some x) (hg : Gl X x) (hd : notDbg x = true) {e : Expr} {p2 : Pos} {f : Env → Res D} (he : PE X e (tD g W f)) (hp : plainE e = true) :
    PE X (.Subscript (.Name x p2) e pos) (tD g W fun ρ => match gl (1000 + i) with
      | some (.lst l) => (f ρ).bind fun x => kgetD l x
      | _ => .bad) := by
  refine ⟨fun pins s σ H Q I q => ?_⟩
  obtain ⟨R, H0, ρ, ok, en, w⟩ := q
  cases ho : gl (1000 + i) with
  | none =>
    simp only [ho] at w
    exact (show False from w).elim
  | some o =>
    cases o <;> first | (simp only [ho] at w; exact (show False from w).elim) | skip
    rename_i l
    simp only [ho] at w
    obtain ⟨a, pa, kd⟩ := pe_dname h hi ho hg hd (pos := p2)
    obtain ⟨es, n, KD⟩ := kd.dict
    refine (pe_ix ix_kdict pa he (ix_plain hp)).run pins s σ H Q I ?_
    refine ⟨R, H0, ρ, ok, en, (Wp.bind ok w).mono fun x R2 H2 ok2 st2 w2 y r2 => ?_⟩
    cases x <;> first | exact (show False from w2).elim | skip
    rename_i s
    have ey := r2.str
    subst ey
    have hv := kd.get s
    cases e : lookK l s with
    | none =>
      simp only [kgetD, e] at w2
      exact (show False from w2).elim
    | some d =>
      simp only [e] at hv
      obtain ⟨u, v, h1, h2, h3⟩ := hv
      simp only [kgetD, e] at w2
      exact ⟨a, _, v, rfl, rfl, ⟨es, n, u, KD.at_, KD.lit, h1, h2⟩, w2 R2 H2 ok2 Step.refl v (Rep.le (fun a o z => by cases z) _ _ h3)⟩
theorem pd_kin0 (h : Here g S call gl k X) {neg : Bool} {op : CmpOp} (hop : (op = .In ∧ neg = false) ∨ (op = .NotIn ∧ neg = true)) {i : Nat} {x : Str} (hi : S.gN[i]? = some x) (hg : Gl X x) (hd : notDbg x = true) {e : Expr} {p2 : Pos} {f : Env → Res D} (he : PE X e (tD g W f)) :
    ∃ t : TE, PE X (.Compare e [op] [.Name x p2] pos) t ∧ PT X (.Compare e [op] [.Name x p2] pos) (tTest t) ∧ ∀ σ H Q, tD g W (fun ρ => match gl (1000 + i) with
      | some (.lst l) => (f ρ).bind fun x => kinD neg l x
      | _ => .bad) σ H Q → t σ H Q := by
  by_cases hl : ∃ l, gl (1000 + i) = some (.lst l)
  · obtain ⟨l, ho⟩ := hl
    simp only [ho]
    obtain ⟨a, pa, kd⟩ := pe_dname h hi ho hg hd (pos := p2)
    obtain ⟨es, n, KD⟩ := kd.dict
    have fin : ∀ (Q : VK) (y : V) (x : D) (R2 H2 : Hp), Ok g R2 H2 → Rep g R2 x y → ∀ σ, Wp g W σ R2 H2 (kinD neg l x) (fun d R' H' => ∀ v, Rep g R' d v → Q v H') → ∃ z r, y = .str z ∧ PySem.W.nsIn X.K a z = some r ∧ Q (.bl (r.isSome != neg)) H2 := by
      intro Q y x R2 H2 ok2 r2 σ w2
      cases x <;> first | exact (show False from w2).elim | skip
      rename_i s
      have hv := kd.get s
      refine ⟨mkS s, ?_⟩
      cases e : lookK l s with
      | none =>
        simp only [e] at hv
        simp only [kinD, e] at w2
        exact ⟨none, r2.str, hv, w2 R2 H2 ok2 Step.refl _ (by simp [Rep])⟩
      | some d =>
        simp only [e] at hv
        obtain ⟨u, v, h1, _, _⟩ := hv
        simp only [kinD, e] at w2
        exact ⟨some u, r2.str, h1, w2 R2 H2 ok2 Step.refl _ (by simp [Rep])⟩
    rcases hop with ⟨rfl, rfl⟩ | ⟨rfl, rfl⟩
    · refine ⟨_, pe_cmpR (op_in_kd KD) he pa rfl, pt_cmpR (op_in_kd KD) he pa rfl, fun σ H Q q => ?_⟩
      obtain ⟨R, H0, ρ, ok, en, w⟩ := q
      refine ⟨R, H0, ρ, ok, en, (Wp.bind ok w).mono fun x R2 H2 ok2 st2 w2 y r2 => ?_⟩
      obtain ⟨z, r, e1, e2, e3⟩ := fin Q y x R2 H2 ok2 r2 σ w2
      exact ⟨z, r, e1, rfl, e2, by simpa using e3⟩
    · refine ⟨_, pe_cmpR (op_notIn_kd KD) he pa rfl, pt_cmpR (op_notIn_kd KD) he pa rfl, fun σ H Q q => ?_⟩
      obtain ⟨R, H0, ρ, ok, en, w⟩ := q
      refine ⟨R, H0, ρ, ok, en, (Wp.bind ok w).mono fun x R2 H2 ok2 st2 w2 y r2 => ?_⟩
      obtain ⟨z, r, e1, e2, e3⟩ := fin Q y x R2 H2 ok2 r2 σ w2
      exact ⟨z, r, e1, rfl, e2, by simpa using e3⟩
  · refine ⟨fun _ _ _ => False, ⟨fun pins s σ H Q I q => q.elim⟩, ⟨fun pins s σ H Q I q => (show False from q).elim⟩, fun σ H Q q => ?_⟩
    obtain ⟨R, H0, ρ, ok, en, w⟩ := q
    have e : (match gl (1000 + i) with
      | some (.lst l) => (f ρ).bind fun x => kinD neg l x
      | _ => .bad) = (Res.bad : Res D) := by
      split
      · rename_i l e
        exact absurd ⟨l, e⟩ hl
      · rfl
    have w' : Wp g W σ R H (match gl (1000 + i) with
      | some (.lst l) => (f ρ).bind fun x => kinD neg l x
      | _ => .bad) (fun d R' H' => ∀ v, Rep g R' d v → Q v H') := w
    rw [e] at w'
    exact w'
end
end Ev
set_option Elab.async false
set_option linter.all false
set_option maxRecDepth 100000
set_option maxHeartbeats 2000000
/-! EvJ: a tuple turned; the theorem on expressions. -/
namespace Ev
open PySem PySem.Spec PyProof.Rows L2
section
variable {prog : Program} {w : World} {A : Around} {E : Value → Shared → Prop} {s : Shared}
theorem turn_adjust (n : Nat) : Builtin.Slice.sliceAdjust none none (-1) (n : Int) = ((n : Int) - 1, -1) := by
  unfold Builtin.Slice.sliceAdjust
  simp
theorem turn_places (n : Nat) : Builtin.Slice.slicePlaces ((n : Int) - 1) (-1) (-1) = n := by
  unfold Builtin.Slice.slicePlaces
  by_cases h : n = 0
  · subst h; simp
  · simp only [show ¬ ((-1 : Int) > 0) by omega, if_false]
    have e : ((n : Int) - 1 - -1 - 1) / - -1 = n - 1 := by
      rw [show (- -1 : Int) = 1 from rfl, Int.ediv_one]
      omega
    split <;> first | (rw [e]; omega) | omega
theorem turn_pick (xs : Array Value) (n : Nat) (hn : n = xs.size) : ((List.range n).filterMap fun (m : Nat) => xs[(((n : Int) - 1) + (m : Int) * (-1)).toNat]?).toArray = xs.toList.reverse.toArray := by
  have h1 : ((List.range n).filterMap fun (m : Nat) => xs[(((n : Int) - 1) + (m : Int) * (-1)).toNat]?) = xs.toList.reverse := by
    subst hn
    have e : ∀ k, k ≤ xs.size → ((List.range k).filterMap fun (m : Nat) => xs[(((xs.size : Int) - 1) + (m : Int) * (-1)).toNat]?) = xs.toList.reverse.take k := by
      intro k
      induction k with
      | zero => intro _; simp
      | succ k ih =>
        intro hk
        rw [List.range_succ, List.filterMap_append, ih (by omega)]
        have i1 : (((xs.size : Int) - 1) + (k : Int) * (-1)).toNat = xs.size - 1 - k := by omega
        have i2 : xs[xs.size - 1 - k]? = some xs[xs.size - 1 - k] := Array.getElem?_eq_getElem (by omega)
        rw [List.take_add_one, List.getElem?_reverse (by simp; omega)]
        simp only [List.filterMap_cons, List.filterMap_nil, i1, i2]
        congr 1
        simp only [Array.length_toList, Array.getElem?_toList, i2]
        rfl
    rw [e _ (Nat.le_refl _)]
    exact List.take_of_length_le (by simp)
  rw [h1]
theorem item_tuple_turned {t sl : Addr} {items : Array Value} {tk : Tok} {Q : Value → Shared → Prop} (ht : IsTup s.heap t items) (hs : s.heap.IsSliceOf sl .none .none (.int (-1) tk))
    (h : Q (.ref s.heap.objs.size) { s with heap := s.heap.push { cls := .type "tuple", data := .seq items.toList.reverse.toArray } }) (hsz : items.size ≤ sizeLine) : wpAny (model prog w) A (getItem (.ref t) (.ref sl)) Q E s := by
  have hfit : sizeOk (.seq items.toList.reverse.toArray) := by
    show items.toList.reverse.toArray.size ≤ sizeLine
    simpa using hsz
  obtain ⟨os, e1, e2, e3⟩ := id hs
  have hTy : s.TypeIs (.ref sl) "slice" := ⟨os, e1, e2⟩
  unfold getItem
  try with_reducible refine wpAny_holding ?_
  first | refine wpAny_bind (wpAny_pure ?_) | skip
  refine wpAny_bind (wpAny_sequenceKey ht.typeIs (by decide) (wpAny_bind (wpAny_callSpecial?_slot (name := Str.ofString "__getitem__") ht.typeIs
    PyProof.Rows.slot_tuple_getitem (wpAny_call_entry PyProof.Rows.slot_tuple_getitem ht.typeIs entry_tuple_getitem ?_ (args_tuple_getitem _ _)))))
  show wpAny _ _ (Builtin.Tuple.tupleItemsOf (.ref t) >>= _) _ _ s
  refine wpAny_bind (PyProof.Rows.tupleItemsOf_ ht (wpAny_bind (wpAny_typeOf hTy ?_)))
  rw [if_pos (by decide)]
  have applied : ∀ {A : Around} {Q2 : Int × Int × Nat → Shared → Prop}, Q2 ((items.size : Int) - 1, -1, items.size) s → wpAny (model prog w) A (Builtin.Slice.sliceApplied (.ref sl) (pure (items.size : Int))) Q2 E s := by
    intro A Q2 hq
    unfold Builtin.Slice.sliceApplied Builtin.Slice.sliceFields
    refine wpAny_bind (wpAny_bind (wpAny_field e1 e3 (x := .none) rfl (wpAny_bind (wpAny_field e1 e3 (x := .none) rfl (wpAny_bind (wpAny_field e1 e3 (x := .int (-1) tk) rfl (wpAny_pure ?_)))))))
    refine wpAny_bind (HT.slicePart_ (.int (-1) tk) ?_)
    show wpAny _ _ (if ((-1 : Int) == 0) = true then _ else _) _ _ s
    rw [if_neg (by decide)]
    refine wpAny_bind (HT.slicePart_ .none (wpAny_bind (HT.slicePart_ .none (wpAny_bind (wpAny_pure ?_)))))
    show wpAny _ _ (match Builtin.Slice.sliceAdjust none none (-1) (items.size : Int) with | (lo, hi) => pure (lo, (-1 : Int), Builtin.Slice.slicePlaces lo hi (-1))) _ _ s
    rw [turn_adjust]
    show wpAny _ _ (pure ((items.size : Int) - 1, (-1 : Int), Builtin.Slice.slicePlaces ((items.size : Int) - 1) (-1) (-1))) _ _ s
    rw [turn_places]
    exact wpAny_pure hq
  refine wpAny_bind (applied ?_)
  show wpAny _ _ (if ((items.size : Int) - 1 == 0 && (-1 : Int) == 1 && items.size == items.size) = true then _ else _) _ _ s
  rw [if_neg (by simp), turn_pick items items.size rfl]
  first
    | exact wpAny_bind (m := Builtin.Tuple.tupleExact _) (wpAny_newObj_type (wpAny_pure ⟨_, rfl, wpAny_pure h⟩) hfit)
    | exact wpAny_bind (m := Builtin.Tuple.tupleExact _) (wpAny_newObj_type (wpAny_bind (wpAny_pure (wpAny_pure ⟨_, rfl, wpAny_pure h⟩))) hfit)
    | exact wpAny_bind (wpAny_bind (m := Builtin.Tuple.tupleExact _) (wpAny_newObj_type (wpAny_pure (wpAny_pure ⟨_, rfl, wpAny_pure h⟩)) hfit))
    | exact wpAny_bind (wpAny_bind (m := Builtin.Tuple.tupleExact _) (wpAny_newObj_type (wpAny_pure ⟨_, rfl, wpAny_pure h⟩) hfit))
end
section
variable {g : Gx} {S : Sx} {call : Cl} {gl : Nat → Option D} {k : Nat} {X : Cx} {W : WX} {pos p p2 p3 : Pos}
/-- e[::-1] of a tuple or a list -/
theorem pd_rev (hK : g.K = X.K) {e : Expr} {f : Env → Res D} {j : Nat} {p1 : Pos} (he : PE X e (tD g W f)) : PE X (.Subscript e (.Slice none none (some (.UnaryOp .USub (.Constant (.int 1) j p1) p2)) p3) pos) (tD g W fun ρ => (f ρ).bind fun x => match x with
    | .tup l => .ok (.tup l.reverse)
    | .lst l => .ok (.lst l.reverse)
    | _ => .bad) := by
  refine ⟨fun pins s σ H Q I q => ?_⟩
  obtain ⟨R, H0, ρ, ok, en, w⟩ := q
  cases e1 : f ρ with
  | bad => simp only [e1] at w; exact (show False from w).elim
  | exc c =>
    simp only [e1] at w
    refine (pe_revL he).run pins s σ H Q I ⟨R, H0, ρ, ok, en, ?_⟩
    rw [e1]
    exact w
  | ok x =>
    simp only [e1] at w
    cases x <;> first | exact (show False from w).elim | skip
    · rename_i l
      have w : ∀ R' H', Ok g R' H' → Step R H R' H' → ∀ v, Rep g R' (.tup l.reverse) v → Q v H' := w
      have hq : tD g W f σ H fun v H1 => ∃ R1, Ok g R1 H1 ∧ Step R H R1 H1 ∧ Rep g R1 (.tup l) v := ⟨R, H0, ρ, ok, en, by
        rw [e1]
        exact fun R' H' o s v r => ⟨R', o, s, r⟩⟩
      refine Subscript_ (thn (he.run pins s σ H _ I hq) fun v s1 ⟨x, H1, I1, r1, R1, ok1, st1, rr⟩ => ?_)
      simp only [Rep] at rr
      obtain ⟨a, vs, rfl, hqa, hr⟩ := rr
      cases r1
      have hst : PO X (some (.UnaryOp .USub (.Constant (.int 1) j p1) p2)) (tPart (tUn (rU fun i => .int (-i)) (tC (.int 1)))) := po_some (pe_un un_neg pe_int)
      refine wpAny_Slice (thn (po_none.run pins s1 σ H1 (fun o H2 => o = none ∧ H2 = H1) I1 ⟨rfl, rfl⟩) fun vl s2 ⟨lo, H2, I2, pl, el, e2⟩ => ?_)
      subst el
      subst e2
      refine thn (po_none.run pins s2 σ H2 (fun o H3 => o = none ∧ H3 = H2) I2 ⟨rfl, rfl⟩) fun vu s3 ⟨hi, H3, I3, pu, eu, e3⟩ => ?_
      subst eu
      subst e3
      refine thn (hst.run pins s3 σ H3 (fun o H4 => o = some (-1) ∧ H4 = H3) I3 ⟨1, rfl, -1, rfl, rfl, rfl⟩) fun vz s4 ⟨o, H4, I4, pz, eo, e4⟩ => ?_
      subst eo
      subst e4
      cases pl
      cases pu
      cases pz with
      | int _ tk =>
        have I5 : Inv X pins σ H4 { s4 with heap := s4.heap.push { cls := .type "slice", data := .fields #[.none, .none, .int (-1) tk] } } := I4.kept (t' := s4.toks) fun b ob q => Heap.get?_push_of_some _ q
        obtain ⟨its, r, ht, hz⟩ := I5.tuple (hK ▸ SqT.le ok1.sub hqa)
        have hlen := r.length
        show wpAny (model X.prog X.w) X.A (subscriptTail e (.Slice none none (some (.UnaryOp .USub (.Constant (.int 1) j p1) p2)) p3) (.ref a) (.ref s4.heap.objs.size)) (EP X pins σ Q) X.xe _
        refine tail_any (ops := [.ref a, .ref s4.heap.objs.size]) ht.typeIs PyProof.Rows.slot_tuple_getitem.lookup ?_ (by with_unfolding_all rfl)
        refine item_tuple_turned ht (Heap.IsSliceOf.new _ _ _ _) ?_ (by rw [List.size_toArray]; omega)
        have np : H4 (s4.heap.push { cls := .type "slice", data := .fields #[.none, .none, .int (-1) tk] }).objs.size = none := I5.hok.fresh (Nat.le_refl _)
        obtain ⟨ok', st'⟩ := ok1.lay (o := .tup vs.reverse) np (fun ps z => by cases z)
        refine ⟨.ref _, _, I5.laid (t' := s4.toks) (o := .tup vs.reverse) (fun b ob q => Heap.get?_push_of_some _ q) (Nat.le_refl _) ?_, rfl, w _ _ ok' (st1.trans st') _ ?_⟩
        · exact ⟨by rw [List.length_reverse]; exact hz, _, r.reverse, ⟨_, Heap.get?_push_size _ rfl, rfl, 0, by simp⟩⟩
        · simp only [Rep]
          exact ⟨_, vs.reverse, rfl, SqT.of upd_same, Reps.rev (Reps.le st'.le _ _ hr)⟩
    · rename_i l
      refine (pe_revL he).run pins s σ H Q I ⟨R, H0, ρ, ok, en, ?_⟩
      rw [e1]
      intro R1 H1 ok1 st1 v r
      simp only [Rep] at r
      obtain ⟨a, vs, rfl, hq, hr⟩ := r
      refine ⟨a, vs, rfl, SqL.of (ok1.sub _ _ hq), fun p np => ?_⟩
      obtain ⟨ok', st'⟩ := ok1.lay (o := .lst vs.reverse) np (fun ps z => by cases z)
      have w : ∀ R' H', Ok g R' H' → Step R H R' H' → ∀ v, Rep g R' (.lst l.reverse) v → Q v H' := w
      refine w _ _ ok' (st1.trans st') _ ?_
      simp only [Rep]
      exact ⟨p, _, rfl, upd_same, Reps.rev (Reps.le st'.le _ _ hr)⟩
end
end Ev
set_option Elab.async false
set_option linter.all false
set_option maxRecDepth 100000
set_option maxHeartbeats 4000000
/-! EvK: THE THEOREM ON EXPRESSIONS: a text that a term says does what the term tells. -/
namespace Ev
open PySem PySem.Spec PyProof.Rows L2
section
variable {g : Gx} {S : Sx} {call : Cl} {gl : Nat → Option D} {k : Nat}
theorem bop_ok {X : Cx} (h : Here g S call gl k X) {o : BOp} {o' : Operator} (ho : bopB o o' = true) : OpR X (binaryOp o') (rK g (binD o)) := by
  cases o <;> cases o' <;> first | (cases ho; done) | skip
  · exact ok_add h.K
  · exact ok_sub
  · exact ok_mul h.K
  · exact ok_fdiv
  · exact ok_mod
  · exact ok_pow
theorem cop_ok {X : Cx} (h : Here g S call gl k X) {o : COp} {o' : CmpOp} (ho : copB o o' = true) : OpR X (compareOp o') (rK g (cmpD o)) := by
  have hu := h.room.units
  cases o <;> cases o' <;> first | (cases ho; done) | skip
  · exact ok_eq h.K hu
  · exact ok_ne h.K hu
  · exact ok_lt
  · exact ok_le
  · exact ok_gt
  · exact ok_ge
  · exact ok_is
  · exact ok_isNot
  · exact ok_in h.K (by have := h.room.un; omega)
  · exact ok_notIn h.K (by have := h.room.un; omega)
/-- what is shown of an expression -/
structure Says (g : Gx) (X : Cx) (W : WX) (e : Expr) (f : Env → Res D) : Prop where
  pe : PE X e (tD g W f)
  pt : PT X e (tT g W fun ρ => (f ρ).bind truth)
  pw : ∀ op vs p, e = .BoolOp op vs p → PW X e (tT g W fun ρ => (f ρ).bind truth)
theorem Says.val {X : Cx} {W : WX} {e : Expr} {f : Env → Res D} (h : PE X e (tD g W f)) (hx : ∀ whole, isTrue e X.env whole = (do let v ← whole; standAt e.pos; holding [v] (truthy v))) (hb : ∀ op vs p, e ≠ .BoolOp op vs p) : Says g X W e f :=
  ⟨h, pt_valD h hx, fun op vs p z => absurd z (hb op vs p)⟩
theorem PW.monoD {X : Cx} {e : Expr} {t t' : TT} (h : PW X e t) (m : ∀ (σ : L2.St) (H : Hp) (Q : Bool → Hp → Prop), t' σ H Q → t σ H Q) : PW X e t' :=
  ⟨fun wh pins s σ H Q I q => h.run wh pins s σ H Q I (m σ H Q q)⟩
/-- a block's own names from its check -/
theorem own_ok {X : Cx} {sc : Names} (h : Here g S call gl k X) (hs : ScOk X sc) {scope : Scope} {own : List Nat} (hk : scope.kind = .function) (ho : ownB S sc scope.names own = true) : ∃ ow : List (Str × Nat), ow.map (·.2) = own ∧ BlkOk X.N X.env.scope scope ow := by
  unfold ownB at ho
  simp only [Bool.and_eq_true, List.all_eq_true, decide_eq_true_eq] at ho
  obtain ⟨⟨h1, h2⟩, h3⟩ := ho
  rw [h.N] at h2 h3
  have ex : ∀ l : List Nat, (∀ i ∈ l, (X.N[i]?).isSome = true) → ∃ ow : List (Str × Nat), ow.map (·.2) = l ∧ (∀ q ∈ ow, X.N[q.2]? = some q.1) ∧ ∀ i ∈ l, ∀ x, X.N[i]? = some x → x ∈ ow.map (·.1) := by
    intro l
    induction l with
    | nil => intro _; exact ⟨[], rfl, fun q hq => absurd hq (by simp), fun i hi => absurd hi (by simp)⟩
    | cons i r ih =>
      intro hl
      obtain ⟨ow, e1, e2, e3⟩ := ih fun j hj => hl j (List.mem_cons_of_mem _ hj)
      obtain ⟨x, hx⟩ := Option.isSome_iff_exists.mp (hl i List.mem_cons_self)
      refine ⟨(x, i) :: ow, by simp [e1], fun q hq => ?_, fun j hj y hy => ?_⟩
      · rcases List.mem_cons.mp hq with rfl | hq
        · exact hx
        · exact e2 q hq
      · rcases List.mem_cons.mp hj with rfl | hj
        · rw [hx] at hy; cases hy; simp
        · exact List.mem_cons_of_mem _ (e3 j hj y hy)
  obtain ⟨ow, e1, e2, e3⟩ := ex own h2
  refine ⟨ow, e1, hk, h1, e2, fun y hy e => ?_, fun y hy e => ?_⟩
  · have z := h3 y hy
    rw [e] at z
    exact hs.clf _ z
  · have z := h3 y hy
    have z2 : (own.any (fun i => decide (X.N[i]? = some y.1)) || !(X.N.any fun z => decide (z = y.1))) = true := by
      rcases e with e | e <;> (rw [e] at z; exact z)
    rw [Bool.or_eq_true] at z2
    rcases z2 with z2 | z2
    · obtain ⟨i, hi, hx⟩ := List.any_eq_true.mp z2
      exact .inl (e3 i hi _ (of_decide_eq_true hx))
    · right
      intro hm
      have : (X.N.any fun z => decide (z = y.1)) = true := List.any_eq_true.mpr ⟨_, hm, decide_eq_true rfl⟩
      rw [this] at z2
      cases z2
theorem chki_fold {env : PySem.Env} {l : Itr_} {sc : Names} {e : Expr} (h : chki S l sc e = true) : ∀ x, foldedSetIterable e env x = pure x := by
  cases l with
  | of a => simp only [chki] at h; exact fold_plain (chk_plain h) env
  | range a =>
    simp only [chki] at h
    split at h
    · exact fun _ => rfl
    · cases h
  | range2 a b =>
    simp only [chki] at h
    split at h
    · exact fun _ => rfl
    · cases h
  | zip a b =>
    simp only [chki] at h
    split at h
    · exact fun _ => rfl
    · cases h
theorem keys_ok : ∀ {ks : List (List Nat)} {keys : List (Option Expr)}, keysB ks keys = true → keys.all (·.isSome) = true ∧ ks.length = keys.length
  | [], [], _ => ⟨rfl, rfl⟩
  | [], _ :: _, h => by cases h
  | k :: ks, [], h => by cases h
  | k :: ks, none :: r, h => by cases h
  | k :: ks, some e :: r, h => by
    have h' : ∃ b, (b && keysB ks r) = true := by
      cases e <;> first | (cases h; done) | skip
      rename_i c _ _
      cases c <;> first | (cases h; done) | skip
      exact ⟨_, h⟩
    obtain ⟨b, hb⟩ := h'
    simp only [Bool.and_eq_true] at hb
    obtain ⟨e1, e2⟩ := keys_ok hb.2
    exact ⟨by simp only [List.all_cons, Option.isSome_some, e1, Bool.and_self], by simp only [List.length_cons, e2]⟩
/-! ### a lambda told of; lists of the def's own -/
theorem lamNB_ok {X : Cx} {sc : Names} (hs : ScOk X sc) {scope : Scope} (h : lamNB sc scope = true) : LamX.LamS X.env.scope scope := by
  unfold lamNB at h
  simp only [Bool.and_eq_true, Bool.or_eq_true, Bool.not_eq_true', decide_eq_true_eq, decide_eq_false_iff_not, List.all_eq_true] at h
  obtain ⟨⟨⟨h1, h2⟩, h3⟩, h4⟩ := h
  refine ⟨h1, h2, h3, fun y hy => (h4 y hy).1, fun y hy e => ?_⟩
  rcases (h4 y hy).2 with z | z
  · exact absurd e z
  · exact hs.clf _ z
theorem here_lam {X : Cx} (h : Here g S call gl k X) {A : Around} {outer : List PySem.Env} {s : Shared} {H : Hp} {E : XK} {scope : Scope} {f c' : Addr} (hr : Room (k - 2) (A.deeper (LamX.lamEnv X scope s.heap.objs.size f c'))) :
    Here g { S with lam := false } call.low gl (k - 2) (LamX.lamCx X A outer s H E scope f c') :=
  ⟨h.K, h.mg, h.N, h.fN, rfl, h.nd, hr, fun i x hi => by
    obtain ⟨f, fd, ps, h1, h2, h3, h4⟩ := h.fns i x hi
    exact ⟨f, fd, ps, h1, fun j hj => h2 j (by omega), h3, h4⟩, h.gls, h.blt, h.dct, by show call.k - 2 = k - 2; rw [h.kk], fun z => by cases z⟩
theorem sc_lam {X : Cx} {A : Around} {outer : List PySem.Env} {s : Shared} {H : Hp} {E : XK} {scope : Scope} {f c' : Addr} (L : LamX.LamS X.env.scope scope) : ScOk (LamX.lamCx X A outer s H E scope f c') scope.names := by
  have no : ∀ x, scope.names.lookup x = some .local ∨ scope.names.lookup x = some .cell → False := fun x z => by
    rcases z with z | z
    · exact (L.own _ (PySem.mem_of_lookup z)).1 rfl
    · exact (L.own _ (PySem.mem_of_lookup z)).2 rfl
  refine ⟨fun y hy => ?_, fun y hy => ?_, fun y hy => ?_, fun y hy => ?_⟩
  · unfold visB at hy
    split at hy <;> first | (cases hy; done) | skip
    · exact .inl (by assumption)
    · exact .inr (.inl (by assumption))
    · exact .inr (.inr (by assumption))
  · unfold glbB at hy
    split at hy <;> first | (cases hy; done) | assumption
  · unfold locB at hy
    split at hy <;> first | (cases hy; done) | skip
    · rename_i e; exact (no y (.inl e)).elim
    · rename_i e; exact (no y (.inr e)).elim
  · unfold clfB at hy
    split at hy <;> first | (cases hy; done) | skip
    · exact .inl (by assumption)
    · exact .inr (by assumption)
theorem pd_told {X : Cx} {W : WX} (h : Here g S call gl k X) (hl : S.lam = true) (hk : 2 ≤ call.k) (hg : Gl X (strN "_law_told")) {scope : Scope} {body : Expr} {p lpos pos : Pos} (L : LamX.LamS X.env.scope scope) {f : Env → Res D}
    (hb : ∀ (A : Around) (outer : List PySem.Env) (s : Shared) (H : Hp) (E : XK) (f' c' : Addr), Room (k - 2) (A.deeper (LamX.lamEnv X scope s.heap.objs.size f' c')) → PE (LamX.lamCx X A outer s H E scope f' c') body (tD g (fun c d _ H => E c d H) f)) :
    PE X (.Call (.Name (strN "_law_told") p) [.Lambda ⟨[], [], none, [], [], none, []⟩ body scope lpos] [] pos) (tD g W fun ρ => toldD (f ρ)) := by
  obtain ⟨⟨c, P, hc, TB, hT, hu⟩, fa, base, cl, x, pg, bg, sg, dV, kV, doc, pm, cdv, ct, oc, an, od, osl, m1, m2, m3, m4, m5, TS, TM, x1, x2, GV, CS⟩ := h.lam hl
  obtain ⟨k', rfl⟩ : ∃ j, k = j + 2 := ⟨k - 2, by have := h.kk; omega⟩
  rw [h.mg] at m1
  rw [h.K] at m2 m3 m4 m5
  have PEL := LamX.pe_lamcall (X := X) (params := ⟨[], [], none, [], [], none, []⟩) (T := g.T) (TT := TT5 g.K base cl) (x := strN "_law_told") (a := x) (k := k') (t := fun E => tD g (fun c d _ H => E c d H) f) (p := p) (lpos := lpos) (pos := pos) hg m1 m2 m3 m4 m5 TS.S rfl (.inl (TS.lc _ (by simp))) (GV X h.K.symm h.mg.symm _) TB hc hT hu h.room L rfl (fun _ _ _ _ _ => rfl)
    (fun A outer s H E f' c' hr => hb A outer s H E f' c' hr) (by decide) x1 x2
  refine PE.mono PEL fun pins s σ H Q I q => ?_
  obtain ⟨R, H0, ρ, ok, en, w⟩ := q
  refine ⟨ok.tabs, fun H1 eN tabs => ?_⟩
  have ok1 : Ok g R H1 := ⟨fun a o e => eN a o (ok.sub a o e) (fun ps z => by subst z; exact ok.tbl a ps e), ok.tbl, tabs⟩
  have st1 : Step R H R H1 := ⟨fun _ _ e => e, eN, fun _ _ _ _ n => n⟩
  refine ⟨R, H0, ρ, ok1, en.step st1, ?_⟩
  replace w : Wp g W σ R H (toldD (f ρ)) (fun d R' H' => ∀ v, Rep g R' d v → Q v H') := w
  cases ef : f ρ with
  | bad => rw [ef] at w; exact (show False from w).elim
  | ok d =>
    rw [ef] at w
    intro R' H' ok' st' v r p np
    obtain ⟨ok2, st2⟩ := ok'.lay (o := .tup [.str "told", v]) np (fun ps z => by cases z)
    refine w _ _ ok2 ((st1.trans st').trans st2) _ ?_
    simp only [Rep]
    refine ⟨p, _, rfl, SqT.of upd_same, Reps.cons (by simp only [Rep]; rfl) (Reps.cons (Rep.le st2.le _ _ r) Reps.nil)⟩
  | exc c =>
    rw [ef] at w
    by_cases hc5 : c < 5
    · have w : Wp g W σ R H (if c < 5 then Res.ok (.tup [.str [114, 101, 102, 117, 115, 101, 100], .int c]) else .bad) (fun d R' H' => ∀ v, Rep g R' d v → Q v H') := w
      rw [if_pos hc5] at w
      obtain ⟨C, e1, e2⟩ := CS c hc5
      intro R' H' ok' st'
      refine ⟨rfl, C, c, e1, e2, fun l p1 p2 n1 n2 n3 n4 n5 n6 => ?_⟩
      obtain ⟨okA, stA, rA⟩ := ok'.layOwn (o := .lst (kinds c)) n1
      have n5' : (upd H' l (.lst (kinds c))) p1 = none := by rw [upd_ne (Ne.symm n2)]; exact n5
      obtain ⟨okB, stB, rB⟩ := okA.layOwn (o := .tup [.str "refused", .int (-1)]) n5'
      have n6' : (upd (upd H' l (.lst (kinds c))) p1 (.tup [.str "refused", .int (-1)])) p2 = none := by rw [upd_ne (Ne.symm n4), upd_ne (Ne.symm n3)]; exact n6
      obtain ⟨okC, stC⟩ := okB.lay (o := .tup [.str "refused", .int c]) n6' (fun ps z => by cases z)
      refine w _ _ okC ((((st1.trans st').trans stA).trans stB).trans stC) _ ?_
      simp only [Rep]
      exact ⟨p2, _, rfl, SqT.of upd_same, Reps.cons (by simp only [Rep]; rfl) (Reps.cons (by simp only [Rep]) Reps.nil)⟩
    · have w : Wp g W σ R H (if c < 5 then Res.ok (.tup [.str [114, 101, 102, 117, 115, 101, 100], .int c]) else .bad) (fun d R' H' => ∀ v, Rep g R' d v → Q v H') := w
      rw [if_neg hc5] at w
      exact (show False from w).elim
/-- a place of a list of one's own -/
theorem pd_oidx {X : Cx} {W : WX} (h : Here g S call gl k X) {i : Nat} {x : Str} {p pos : Pos} {e : Expr} {f : Env → Res D} (hi : X.N[i]? = some x) (hv : L2.Vis X.env.scope x) (hd : notDbg x = true) (he : PE X e (tD g W f)) (hp : PlainIx e) :
    PE X (.Subscript (.Name x p) e pos) (tD g W fun ρ => match getV ρ i with
      | .own l => (f ρ).bind fun d => idxD (.lst l) d
      | _ => .bad) := PE.mono (pe_ix ix_list (pe_var (i := i) hi hv (notDbg_1 hd) (notDbg_2 hd)) he hp) fun pins s σ H Q I q => by
  obtain ⟨R, H0, ρ, ok, en, w⟩ := q
  cases ev : getV ρ i with
  | un => simp only [ev] at w; exact (show False from w).elim
  | pu l => simp only [ev] at w; exact (show False from w).elim
  | own l =>
    simp only [ev] at w
    obtain ⟨a, vs, e1, e2, e3, e4, e5⟩ := en.own i l ev
    refine ⟨_, e1, R, H0, ρ, ok, en, (Wp.bind ok w).mono fun d R1 H1 ok1 st1 w1 v1 r1 => ?_⟩
    have e2' := st1.ext _ _ e2 (fun ps z => by cases z)
    have rl := Reps.le st1.le _ _ e5
    cases d <;> first | exact (show False from w1).elim | skip
    rename_i j
    simp only [Rep] at r1
    subst r1
    simp only [idxD] at w1
    cases ea : atD l j with
    | none => rw [ea] at w1; exact (show False from w1).elim
    | some d =>
      rw [ea] at w1
      unfold atD at ea
      cases ep : place l.length j with
      | none => rw [ep] at ea; cases ea
      | some n =>
        rw [ep] at ea
        obtain ⟨v, h1, h2⟩ := rl.get ea
        have hl := rl.length
        have hix : ixN vs.length j = some n := by rw [← hl]; exact ep
        refine ⟨a, vs, j, v, rfl, rfl, SqL.of e2', ?_, w1 R1 H1 ok1 Step.refl _ h2⟩
        unfold atI
        rw [hix]
        exact h1
theorem pd_olen {X : Cx} {W : WX} (h : Here g S call gl k X) {i : Nat} {x : Str} {p p2 pos : Pos} (hg : Gl X (strN "len")) (hm : X.mg (strN "len") = none) (hi : X.N[i]? = some x) (hv : L2.Vis X.env.scope x) (hd : notDbg x = true) :
    PE X (.Call (.Name (strN "len") p2) [.Name x p] [] pos) (tD g W fun ρ => match getV ρ i with
      | .own l => .ok (.int l.length)
      | _ => .bad) := PE.mono (pe_callB call_len_seq hg hm PySem.boot_len (pa_cons (pe_var (i := i) hi hv (notDbg_1 hd) (notDbg_2 hd)) pa_nil) (by decide) (by decide)) fun pins s σ H Q I q => by
  obtain ⟨R, H0, ρ, ok, en, w⟩ := q
  cases ev : getV ρ i with
  | un => simp only [ev] at w; exact (show False from w).elim
  | pu l => simp only [ev] at w; exact (show False from w).elim
  | own l =>
    simp only [ev] at w
    obtain ⟨a, vs, e1, e2, e3, e4, e5⟩ := en.own i l ev
    refine ⟨_, e1, a, vs, rfl, .inl (SqL.of e2), ?_⟩
    exact w R H ok Step.refl _ (by simp only [Rep]; rw [e5.length])
mutual
theorem soundE {S : Sx} {call : Cl} {k : Nat} : ∀ (a : Ex) (X : Cx) (sc : Names) (e : Expr) (W : WX), Here g S call gl k X → ScOk X sc → Takes X W → chk S a sc e = true → Says g X W e (den call gl a)
  | .lit d, X, sc, e, W, h, hs, tk, hc => by
    have hd : den call gl (.lit d) = fun _ => .ok d := funext fun ρ => by first | (simp only [den]; done) | (simp only [den]; rfl)
    rw [hd]
    simp only [chk] at hc
    split at hc
    · exact .val (pd_lit hc) (fun _ => rfl) (fun _ _ _ z => by cases z)
    · cases hc
  | .var i, X, sc, e, W, h, hs, tk, hc => by
    have hd : den call gl (.var i) = fun ρ => match getV ρ i with
      | .pu d => .ok d
      | _ => .bad := funext fun ρ => by first | (simp only [den]; done) | (simp only [den]; rfl)
    rw [hd]
    simp only [chk] at hc
    split at hc
    · simp only [Bool.and_eq_true, decide_eq_true_eq] at hc
      exact .val (pd_var h (by rw [← h.N]; exact hc.1.1) (hs.vis _ hc.1.2) hc.2) (fun _ => rfl) (fun _ _ _ z => by cases z)
    · cases hc
  | .glob i, X, sc, e, W, h, hs, tk, hc => by
    have hd : den call gl (.glob i) = fun _ => match gl i with
      | some d => .ok d
      | none => .bad := funext fun ρ => by first | (simp only [den]; done) | (simp only [den]; rfl)
    rw [hd]
    simp only [chk] at hc
    split at hc
    · simp only [Bool.and_eq_true, decide_eq_true_eq] at hc
      exact .val (pd_glob h hc.1.1 (hs.glb _ hc.1.2) hc.2) (fun _ => rfl) (fun _ _ _ z => by cases z)
    · cases hc
  | .bin o a b, X, sc, e, W, h, hs, tk, hc => by
    have hd : den call gl (.bin o a b) = fun ρ => (den call gl a ρ).bind fun x => (den call gl b ρ).bind fun y => binD o x y := funext fun ρ => by first | (simp only [den]; done) | (simp only [den]; rfl)
    rw [hd]
    simp only [chk] at hc
    split at hc
    · simp only [Bool.and_eq_true] at hc
      exact .val (pd_bin (bop_ok h hc.1.1) (binD_noexc o) (soundE a X sc _ W h hs tk hc.1.2).pe (soundE b X sc _ W h hs tk hc.2).pe) (fun _ => rfl) (fun _ _ _ z => by cases z)
    · cases hc
  | .neg a, X, sc, e, W, h, hs, tk, hc => by
    have hd : den call gl (.neg a) = fun ρ => (den call gl a ρ).bind fun x => match x with
      | .int i => .ok (.int (-i))
      | _ => .bad := funext fun ρ => by first | (simp only [den]; done) | (simp only [den]; rfl)
    rw [hd]
    simp only [chk] at hc
    split at hc
    · exact .val (pd_neg (soundE a X sc _ W h hs tk hc).pe) (fun _ => rfl) (fun _ _ _ z => by cases z)
    · cases hc
  | .cmp o a b, X, sc, e, W, h, hs, tk, hc => by
    have hd : den call gl (.cmp o a b) = fun ρ => (den call gl a ρ).bind fun x => (den call gl b ρ).bind fun y => cmpD o x y := funext fun ρ => by first | (simp only [den]; done) | (simp only [den]; rfl)
    rw [hd]
    simp only [chk] at hc
    split at hc
    · simp only [Bool.and_eq_true] at hc
      have hm := fun op => mark_plain (chk_plain hc.2) op
      have ha := (soundE a X sc _ W h hs tk hc.1.2).pe
      have hb := (soundE b X sc _ W h hs tk hc.2).pe
      exact ⟨pd_cmp (cop_ok h hc.1.1) (cmpD_noexc o) (hm _) ha hb, pt_cmpD (cop_ok h hc.1.1) (cmpD_noexc o) (hm _) ha hb, fun _ _ _ z => by cases z⟩
    · cases hc
  | .chain o o2 a b c, X, sc, e, W, h, hs, tk, hc => by
    have hd : den call gl (.chain o o2 a b c) = fun ρ => (den call gl a ρ).bind fun x => (den call gl b ρ).bind fun y => (cmpD o x y).bind fun k => (truth k).bind fun t =>
      if t = true then (den call gl c ρ).bind fun z => cmpD o2 y z else .ok (.bl false) := funext fun ρ => by first | (simp only [den]; done) | (simp only [den]; rfl)
    rw [hd]
    simp only [chk] at hc
    split at hc
    · simp only [Bool.and_eq_true] at hc
      have ha := (soundE a X sc _ W h hs tk hc.1.1.2).pe
      have hb := (soundE b X sc _ W h hs tk hc.1.2).pe
      have hc2 := (soundE c X sc _ W h hs tk hc.2).pe
      have hm : ∀ (p q : CmpOp) (x y : Expr), behindInMarks q y = false → lastMarks [p, q] [x, y] = false := fun _ _ _ _ z => z
      have hm2 := fun p q x => hm p q x _ (mark_plain (chk_plain hc.2) q)
      exact ⟨pd_chain (cop_ok h hc.1.1.1.1) (cmpD_noexc o) (cop_ok h hc.1.1.1.2) (cmpD_noexc o2) (hm2 _ _ _) ha hb hc2, pt_chainD (cop_ok h hc.1.1.1.1) (cmpD_noexc o) (cop_ok h hc.1.1.1.2) (cmpD_noexc o2) (hm2 _ _ _) ha hb hc2, fun _ _ _ z => by cases z⟩
    · cases hc
  | .and a b, X, sc, e, W, h, hs, tk, hc => by
    have hd : den call gl (.and a b) = fun ρ => (den call gl a ρ).bind fun x => (truth x).bind fun t => if t = true then (den call gl b ρ).bind fun y => (truth y).bind fun u => .ok (.bl u) else .ok (.bl false) := funext fun ρ => by first | (simp only [den]; done) | (simp only [den]; rfl)
    rw [hd]
    simp only [chk] at hc
    split at hc
    · simp only [Bool.and_eq_true] at hc
      have ha := soundE a X sc _ W h hs tk hc.1
      have hb := soundE b X sc _ W h hs tk hc.2
      rename_i pos
      have pw := PW.monoD (pw_and (pos := pos) ha.pt (pw_and1 hb.pt)) fun σ H Q q => tT_and (fun _ _ _ q => q) (fun _ _ _ q => q) q
      exact ⟨pd_and ha.pe (pe_one hb.pe), pw.pt, fun _ _ _ _ => pw⟩
    · simp only [Bool.and_eq_true] at hc
      have ha := soundE a X sc _ W h hs tk hc.1
      have hb := soundE b X sc _ W h hs tk hc.2
      rename_i pos
      have pw := PW.monoD (pw_and (pos := pos) ha.pt (hb.pw _ _ _ rfl)) fun σ H Q q => tT_and (fun _ _ _ q => q) (fun _ _ _ q => q) q
      exact ⟨pd_and ha.pe hb.pe, pw.pt, fun _ _ _ _ => pw⟩
    · cases hc
  | .or a b, X, sc, e, W, h, hs, tk, hc => by
    have hd : den call gl (.or a b) = fun ρ => (den call gl a ρ).bind fun x => (truth x).bind fun t => if t = true then .ok (.bl true) else (den call gl b ρ).bind fun y => (truth y).bind fun u => .ok (.bl u) := funext fun ρ => by first | (simp only [den]; done) | (simp only [den]; rfl)
    rw [hd]
    simp only [chk] at hc
    split at hc
    · simp only [Bool.and_eq_true] at hc
      have ha := soundE a X sc _ W h hs tk hc.1
      have hb := soundE b X sc _ W h hs tk hc.2
      rename_i pos
      have pw := PW.monoD (pw_or (pos := pos) ha.pt (pw_or1 hb.pt)) fun σ H Q q => tT_or (fun _ _ _ q => q) (fun _ _ _ q => q) q
      exact ⟨pd_or ha.pe (pe_one hb.pe), pw.pt, fun _ _ _ _ => pw⟩
    · simp only [Bool.and_eq_true] at hc
      have ha := soundE a X sc _ W h hs tk hc.1
      have hb := soundE b X sc _ W h hs tk hc.2
      rename_i pos
      have pw := PW.monoD (pw_or (pos := pos) ha.pt (hb.pw _ _ _ rfl)) fun σ H Q q => tT_or (fun _ _ _ q => q) (fun _ _ _ q => q) q
      exact ⟨pd_or ha.pe hb.pe, pw.pt, fun _ _ _ _ => pw⟩
    · cases hc
  | .not a, X, sc, e, W, h, hs, tk, hc => by
    have hd : den call gl (.not a) = fun ρ => (den call gl a ρ).bind fun x => (truth x).bind fun t => .ok (.bl (!t)) := funext fun ρ => by first | (simp only [den]; done) | (simp only [den]; rfl)
    rw [hd]
    simp only [chk] at hc
    split at hc
    · have ha := soundE a X sc _ W h hs tk hc
      exact ⟨pd_not ha.pe, pt_notD ha.pt, fun _ _ _ z => by cases z⟩
    · cases hc
  | .tup l, X, sc, e, W, h, hs, tk, hc => by
    have hd : den call gl (.tup l) = fun ρ => (dens call gl l ρ).bind fun ds => if ds.length ≤ MAXL then .ok (.tup ds) else .bad := funext fun ρ => by first | (simp only [den]; done) | (simp only [den]; rfl)
    rw [hd]
    simp only [chk] at hc
    split at hc
    · exact .val (pd_tup (soundL l X sc _ W h hs tk hc)) (fun _ => rfl) (fun _ _ _ z => by cases z)
    · cases hc
  | .lst l, X, sc, e, W, h, hs, tk, hc => by
    have hd : den call gl (.lst l) = fun ρ => (dens call gl l ρ).bind fun ds => if ds.length ≤ MAXL then .ok (.lst ds) else .bad := funext fun ρ => by first | (simp only [den]; done) | (simp only [den]; rfl)
    rw [hd]
    simp only [chk] at hc
    split at hc
    · exact .val (pd_lst (soundL l X sc _ W h hs tk hc)) (fun _ => rfl) (fun _ _ _ z => by cases z)
    · cases hc
  | .idx a b, X, sc, e, W, h, hs, tk, hc => by
    have hd : den call gl (.idx a b) = fun ρ => (den call gl a ρ).bind fun x => (den call gl b ρ).bind fun y => idxD x y := funext fun ρ => by first | (simp only [den]; done) | (simp only [den]; rfl)
    rw [hd]
    simp only [chk] at hc
    split at hc
    · simp only [Bool.and_eq_true] at hc
      have ha := (soundE a X sc _ W h hs tk hc.1.1).pe
      have hb := (soundE b X sc _ W h hs tk hc.2).pe
      exact .val (PE.mono (pe_ix (ok_idx h.K) ha hb (ix_plain (chk_plain hc.2))) fun _ _ _ _ _ _ q => tOp_of idxD_noexc q) (fun _ => rfl) (fun _ _ _ z => by cases z)
    · cases hc
  | .slice a lo hi, X, sc, e, W, h, hs, tk, hc => by
    have hd : den call gl (.slice a lo hi) = fun ρ => (den call gl a ρ).bind fun x => (deno call gl lo ρ).bind fun l => (deno call gl hi ρ).bind fun h => sliceD x l h := funext fun ρ => by first | (simp only [den]; done) | (simp only [den]; rfl)
    rw [hd]
    simp only [chk] at hc
    split at hc
    · simp only [Bool.and_eq_true] at hc
      exact .val (pd_slice h.K (soundE a X sc _ W h hs tk hc.1.1).pe (soundO lo X sc _ W h hs tk hc.1.2) (soundO hi X sc _ W h hs tk hc.2)) (fun _ => rfl) (fun _ _ _ z => by cases z)
    · cases hc
  | .rev a, X, sc, e, W, h, hs, tk, hc => by
    have hd : den call gl (.rev a) = fun ρ => (den call gl a ρ).bind fun x => match x with
      | .tup l => .ok (.tup l.reverse)
      | .lst l => .ok (.lst l.reverse)
      | _ => .bad := funext fun ρ => by first | (simp only [den]; done) | (simp only [den]; rfl)
    rw [hd]
    simp only [chk] at hc
    split at hc
    · exact .val (pd_rev h.K (soundE a X sc _ W h hs tk hc).pe) (fun _ => rfl) (fun _ _ _ z => by cases z)
    · cases hc
  | .blt f l, X, sc, e, W, h, hs, tk, hc => by
    have hd : den call gl (.blt f l) = fun ρ => (dens call gl l ρ).bind fun ds => bltD f ds := funext fun ρ => by first | (simp only [den]; done) | (simp only [den]; rfl)
    rw [hd]
    simp only [chk] at hc
    split at hc
    · simp only [Bool.and_eq_true, decide_eq_true_eq] at hc
      obtain ⟨⟨⟨hx, h1⟩, h2⟩, h3⟩ := hc
      subst hx
      obtain ⟨a, r, rfl⟩ : ∃ a r, l = .cons a r := by
        cases l with
        | nil => simp [chks] at h3
        | cons a r => exact ⟨a, r, rfl⟩
      have h4 := h3
      simp only [chks, Bool.and_eq_true] at h4
      exact .val (pd_blt h (soundL (.cons a r) X sc _ W h hs tk h3) (chk_plain h4.1) (chks_star h4.2) (hs.glb _ h1) (h.blt _ h2)) (fun _ => rfl) (fun _ _ _ z => by cases z)
    · cases hc
  | .isi a t, X, sc, e, W, h, hs, tk, hc => by
    have hd : den call gl (.isi a t) = fun ρ => (den call gl a ρ).bind fun x => if isFn x = true then .bad else .ok (.bl (isTy t x)) := funext fun ρ => by first | (simp only [den]; done) | (simp only [den]; rfl)
    rw [hd]
    simp only [chk] at hc
    split at hc
    · simp only [Bool.and_eq_true, decide_eq_true_eq] at hc
      obtain ⟨⟨⟨⟨⟨⟨hx, h1⟩, h2⟩, hy⟩, h3⟩, h4⟩, h5⟩ := hc
      subst hx
      subst hy
      exact .val (pd_isi h (soundE a X sc _ W h hs tk h5).pe (chk_plain h5) (hs.glb _ h1) (h.blt _ h2) (hs.glb _ h3) (h.blt _ h4)) (fun _ => rfl) (fun _ _ _ z => by cases z)
    · cases hc
  | .meth m a l, X, sc, e, W, h, hs, tk, hc => by
    have hd : den call gl (.meth m a l) = fun ρ => (den call gl a ρ).bind fun x => if mthTy m x = true then (dens call gl l ρ).bind fun ds => mthD m x ds else .bad := funext fun ρ => by first | (simp only [den]; done) | (simp only [den]; rfl)
    rw [hd]
    simp only [chk] at hc
    split at hc
    · simp only [Bool.and_eq_true, decide_eq_true_eq, Bool.not_eq_true'] at hc
      obtain ⟨⟨⟨⟨⟨hx, h0⟩, h1⟩, h2⟩, h3⟩, h4⟩ := hc
      subst hx
      obtain ⟨b, r, rfl⟩ : ∃ b r, l = .cons b r := by
        cases l with
        | nil => simp [chks] at h4
        | cons b r => exact ⟨b, r, rfl⟩
      have h5 := h4
      simp only [chks, Bool.and_eq_true] at h5
      exact .val (pd_meth h h3 (soundE a X sc _ W h hs tk h3).pe (soundL (.cons b r) X sc _ W h hs tk h4) (chk_plain h5.1) (chks_star h5.2) h2 h1 h0) (fun _ => rfl) (fun _ _ _ z => by cases z)
    · cases hc
  | .dsub ks vs b, X, sc, e, W, h, hs, tk, hc => by
    have hd : den call gl (.dsub ks vs b) = fun ρ => (dens call gl vs ρ).bind fun ds => (den call gl b ρ).bind fun x => dlook ks ds x := funext fun ρ => by first | (simp only [den]; done) | (simp only [den]; rfl)
    rw [hd]
    simp only [chk] at hc
    split at hc
    · simp only [Bool.and_eq_true, decide_eq_true_eq, Bool.not_eq_true'] at hc
      obtain ⟨⟨⟨⟨⟨h1, h2⟩, h3⟩, h4⟩, h5⟩, h6⟩ := hc
      obtain ⟨trs, p1, p2⟩ := soundP ks vs X sc _ _ _ W h hs tk h1 h3.2.2 h4
      obtain ⟨q1, q2⟩ := keys_ok h1
      exact .val (pd_dsub h p1 p2 h2 h3.2.1 q1 (by rw [← q2]; exact h3.2.2) (fun z => by rw [z] at q2; simp only [List.length_nil] at q2; omega) (by rw [← q2]; exact h3.2.1) (soundE b X sc _ W h hs tk h6).pe h5) (fun _ => rfl) (fun _ _ _ z => by cases z)
    · cases hc
  | .dgt ks vs b d, X, sc, e, W, h, hs, tk, hc => by
    have hd : den call gl (.dgt ks vs b d) = fun ρ => (dens call gl vs ρ).bind fun ds => (den call gl b ρ).bind fun x => (den call gl d ρ).bind fun y => dlookD ks ds x y := funext fun ρ => by first | (simp only [den]; done) | (simp only [den]; rfl)
    rw [hd]
    simp only [chk] at hc
    split at hc
    · simp only [Bool.and_eq_true, decide_eq_true_eq] at hc
      obtain ⟨⟨⟨⟨⟨⟨⟨hx, hl⟩, h1⟩, h2⟩, h3⟩, h4⟩, h5⟩, h6⟩ := hc
      subst hx
      obtain ⟨trs, p1, p2⟩ := soundP ks vs X sc _ _ _ W h hs tk h1 h3.2.2 h4
      obtain ⟨q1, q2⟩ := keys_ok h1
      exact .val (pd_dgt h p1 p2 h2 h3.2.1 q1 (by rw [← q2]; exact h3.2.2) (fun z => by rw [z] at q2; simp only [List.length_nil] at q2; omega) (by rw [← q2]; exact h3.2.1) (soundE b X sc _ W h hs tk h5).pe (soundE d X sc _ W h hs tk h6).pe (chk_plain h5) (chk_plain h6) hl) (fun _ => rfl) (fun _ _ _ z => by cases z)
    · cases hc
  | .kin neg i a, X, sc, e, W, h, hs, tk, hc => by
    have hd : den call gl (.kin neg i a) = fun ρ => match gl (1000 + i) with
      | some (.lst l) => (den call gl a ρ).bind fun x => kinD neg l x
      | _ => .bad := funext fun ρ => by first | (simp only [den]; done) | (simp only [den]; rfl)
    rw [hd]
    simp only [chk] at hc
    split at hc
    · simp only [Bool.and_eq_true, decide_eq_true_eq] at hc
      obtain ⟨⟨⟨⟨h1, h2⟩, h3⟩, h4⟩, h5⟩ := hc
      obtain ⟨t, q1, q2, q3⟩ := pd_kin0 h (W := W) (neg := neg) (kinOp_ok h4) h1 (hs.glb _ h2) h3 (soundE a X sc _ W h hs tk h5).pe
      exact ⟨PE.mono q1 fun _ _ σ H Q _ q => q3 σ H Q q, PT.mono q2 fun _ _ σ H Q _ q => tTest_of q3 q, fun _ _ _ z => by cases z⟩
    · cases hc
  | .kget i a, X, sc, e, W, h, hs, tk, hc => by
    have hd : den call gl (.kget i a) = fun ρ => match gl (1000 + i) with
      | some (.lst l) => (den call gl a ρ).bind fun x => kgetD l x
      | _ => .bad := funext fun ρ => by first | (simp only [den]; done) | (simp only [den]; rfl)
    rw [hd]
    simp only [chk] at hc
    split at hc
    · simp only [Bool.and_eq_true, decide_eq_true_eq] at hc
      obtain ⟨⟨⟨⟨h1, h2⟩, h3⟩, h4⟩, h5⟩ := hc
      exact .val (pd_kget h h1 (hs.glb _ h2) h3 (soundE a X sc _ W h hs tk h5).pe (chk_plain h5)) (fun _ => rfl) (fun _ _ _ z => by cases z)
    · cases hc
  | .call i l, X, sc, e, W, h, hs, tk, hc => by
    have hd : den call gl (.call i l) = fun ρ => (dens call gl l ρ).bind fun ds => call.f call.k i ds := funext fun ρ => by first | (simp only [den]; done) | (simp only [den]; rfl)
    rw [hd]
    simp only [chk] at hc
    split at hc
    · simp only [Bool.and_eq_true, decide_eq_true_eq] at hc
      obtain ⟨⟨⟨hx, h1⟩, h2⟩, h3⟩ := hc
      obtain ⟨a, r, rfl⟩ : ∃ a r, l = .cons a r := by
        cases l with
        | nil => simp [chks] at h3
        | cons a r => exact ⟨a, r, rfl⟩
      have h4 := h3
      simp only [chks, Bool.and_eq_true] at h4
      exact .val (pd_call h tk (by rw [← h.fN]; exact hx) (hs.glb _ h1) h2 (soundL (.cons a r) X sc _ W h hs tk h3) (chk_plain h4.1) (chks_star h4.2)) (fun _ => rfl) (fun _ _ _ z => by cases z)
    · cases hc
  | .callv i l, X, sc, e, W, h, hs, tk, hc => by
    have hd : den call gl (.callv i l) = fun ρ => match getV ρ i with
      | .pu (.fn f) => (dens call gl l ρ).bind fun ds => call.f call.k f ds
      | _ => .bad := funext fun ρ => by first | (simp only [den]; done) | (simp only [den]; rfl)
    rw [hd]
    simp only [chk] at hc
    split at hc
    · simp only [Bool.and_eq_true, decide_eq_true_eq] at hc
      obtain ⟨⟨⟨hx, h1⟩, h2⟩, h3⟩ := hc
      obtain ⟨a, r, rfl⟩ : ∃ a r, l = .cons a r := by
        cases l with
        | nil => simp [chks] at h3
        | cons a r => exact ⟨a, r, rfl⟩
      have h4 := h3
      simp only [chks, Bool.and_eq_true] at h4
      exact .val (pd_callv h tk (by rw [← h.N]; exact hx) (hs.vis _ h1) h2 (soundL (.cons a r) X sc _ W h hs tk h3) (chk_plain h4.1) (chks_star h4.2)) (fun _ => rfl) (fun _ _ _ z => by cases z)
    · cases hc
  | .comp own t it c a, X, sc, e, W, h, hs, tk, hc => by
    have hd : den call gl (.comp own t it c a) = fun ρ => (deni call gl it ρ).bind fun ds => (compD (turnD t own (denc call gl c) (den call gl a) ρ) ds).bind fun l => if l.length ≤ MAXL then .ok (.lst l) else .bad := funext fun ρ => by
      simp only [den]
      rfl
    rw [hd]
    simp only [chk] at hc
    split at hc
    · rename_i elt tg iter ifs scope pos
      simp only [Bool.and_eq_true] at hc
      obtain ⟨⟨⟨⟨⟨⟨hk, ho⟩, hin⟩, h1⟩, ⟨h2, hz⟩⟩, h3⟩, h4⟩ := hc
      have hk' : scope.kind = .function := by
        split at hk
        · assumption
        · cases hk
      obtain ⟨ow, e1, bk⟩ := own_ok h hs hk' ho
      subst e1
      have hi := soundI it X sc iter W tg h hs tk h2 hz
      have sin : ∀ j ∈ slotsT t, j ∈ ow.map (·.2) := by
        intro j hj
        cases t with
        | name i =>
          simp only [slotsT, List.mem_singleton] at hj
          subst hj
          simp only [tgIn] at hin
          obtain ⟨x, hx, e⟩ := List.any_eq_true.mp hin
          have := beq_iff_eq.mp e
          subst this
          exact hx
        | tup is =>
          simp only [tgIn] at hin
          obtain ⟨x, hx, e⟩ := List.any_eq_true.mp (List.all_eq_true.mp hin j hj)
          have := beq_iff_eq.mp e
          subst this
          exact hx
      have hg : ∀ (s : Shared) (H : Hp) (C : Addr) (cl : List (Str × Addr)) (fp : List Addr), PG (X.blk s H scope (compEnvC scope cl C X.env) fp) tg (gT g t) := fun s H C cl fp =>
        pg_of (X := X.blk s H scope (compEnvC scope cl C X.env) fp) h.K h.calm h.N h.nd (ScOk.blk s H scope cl C fp) h1
      have ht : ∀ (s : Shared) (H : Hp) (C : Addr) (cl : List (Str × Addr)) (fp : List Addr), PTs (X.blk s H scope (compEnvC scope cl C X.env) fp) ifs (tT g W0 (denc call gl c)) := fun s H C cl fp =>
        soundC c (X.blk s H scope (compEnvC scope cl C X.env) fp) scope.names ifs W0 (h.blk s H scope _ fp) (ScOk.blk s H scope cl C fp) takes_0 h3
      have he : ∀ (s : Shared) (H : Hp) (C : Addr) (cl : List (Str × Addr)) (fp : List Addr), PE (X.blk s H scope (compEnvC scope cl C X.env) fp) elt (tD g W0 (den call gl a)) := fun s H C cl fp =>
        (soundE a (X.blk s H scope (compEnvC scope cl C X.env) fp) scope.names elt W0 (h.blk s H scope _ fp) (ScOk.blk s H scope cl C fp) takes_0 h4).pe
      have hf := chki_fold (S := S) (env := X.env) h2
      exact .val (PE.mono (pe_lc h.calm h.nd hi bk hg ht he hf) fun _ _ σ H Q _ q => pd_comp h hi bk hg ht he hf sin σ H Q q) (fun _ => rfl) (fun _ _ _ z => by cases z)
    · cases hc
  | .told a, X, sc, e, W, h, hs, tk, hc => by
    have hd : den call gl (.told a) = fun ρ => if 2 ≤ call.k then toldD (den call.low gl a ρ) else .bad := funext fun ρ => by simp only [den]
    rw [hd]
    simp only [chk] at hc
    split at hc
    · rename_i x p params body scope lpos pos
      simp only [Bool.and_eq_true, decide_eq_true_eq] at hc
      obtain ⟨⟨⟨⟨⟨h1, hx⟩, h2⟩, h3⟩, h4⟩, h5⟩ := hc
      subst hx
      have hp := noArgs_ok h3
      subst hp
      by_cases hk : 2 ≤ call.k
      · refine .val (PE.mono (pd_told (W := W) h h1 hk (hs.glb _ h2) (lamNB_ok hs h4) (fun A outer s H E f c' hr => (soundE (S := { S with lam := false }) (call := call.low) (k := k - 2) a _ scope.names body (fun c d _ H => E c d H) (here_lam h hr) (sc_lam (lamNB_ok hs h4)) (takes_of rfl rfl rfl rfl) h5).pe)) fun _ _ σ H Q _ q => ?_) (fun _ => rfl) (fun _ _ _ z => by cases z)
        simpa only [if_pos hk] using q
      · refine .val ⟨fun pins s σ H Q I q => ?_⟩ (fun _ => rfl) (fun _ _ _ z => by cases z)
        obtain ⟨R, H0, ρ, ok, en, w⟩ := q
        simp only [if_neg hk] at w
        exact (show False from w).elim
    · cases hc
  | .oidx i a, X, sc, e, W, h, hs, tk, hc => by
    have hd : den call gl (.oidx i a) = fun ρ => match getV ρ i with
      | .own l => (den call gl a ρ).bind fun x => idxD (.lst l) x
      | _ => .bad := funext fun ρ => by first | (simp only [den]; done) | (simp only [den]; rfl)
    rw [hd]
    simp only [chk] at hc
    split at hc
    · simp only [Bool.and_eq_true, decide_eq_true_eq] at hc
      obtain ⟨⟨⟨⟨h1, h2⟩, h3⟩, h4⟩, h5⟩ := hc
      exact .val (pd_oidx h (by rw [← h.N]; exact h1) (hs.vis _ h2) h3 (soundE a X sc _ W h hs tk h5).pe (ix_plain (chk_plain h5))) (fun _ => rfl) (fun _ _ _ z => by cases z)
    · cases hc
  | .olen i, X, sc, e, W, h, hs, tk, hc => by
    have hd : den call gl (.olen i) = fun ρ => match getV ρ i with
      | .own l => .ok (.int l.length)
      | _ => .bad := funext fun ρ => by first | (simp only [den]; done) | (simp only [den]; rfl)
    rw [hd]
    simp only [chk] at hc
    split at hc
    · simp only [Bool.and_eq_true, decide_eq_true_eq] at hc
      obtain ⟨⟨⟨⟨⟨hx, h1⟩, h2⟩, h3⟩, h4⟩, h5⟩ := hc
      subst hx
      exact .val (pd_olen h (hs.glb _ h1) (h.blt _ h2) (by rw [← h.N]; exact h3) (hs.vis _ h4) h5) (fun _ => rfl) (fun _ _ _ z => by cases z)
    · cases hc
termination_by a => sizeOf a
theorem soundP {S : Sx} {call : Cl} {k : Nat} : ∀ (ks : List (List Nat)) (l : Exs) (X : Cx) (sc : Names) (keys : List (Option Expr)) (es : List Expr) (pos : Pos) (W : WX), Here g S call gl k X → ScOk X sc → Takes X W → keysB ks keys = true → ks.length = es.length → chks S l sc es = true → ∃ trs, PPs X pos keys es trs ∧ PairsOk g W trs ks (dens call gl l)
  | ks, .nil, X, sc, keys, es, pos, W, h, hs, tk, hk, hl, hc => by
    have hd : dens call gl .nil = fun ρ => .ok [] := funext fun ρ => by simp only [dens]
    rw [hd]
    simp only [chks, List.isEmpty_iff] at hc
    subst hc
    have : ks = [] := List.length_eq_zero_iff.mp hl
    subst this
    cases keys with
    | nil => exact pp_nilD
    | cons => cases hk
  | ks, .cons a r, X, sc, keys, es, pos, W, h, hs, tk, hk, hl, hc => by
    have hd : dens call gl (.cons a r) = fun ρ => (den call gl a ρ).bind fun x => (dens call gl r ρ).bind fun xs => .ok (x :: xs) := funext fun ρ => by simp only [dens]
    rw [hd]
    cases es with
    | nil => simp [chks] at hc
    | cons e es =>
      simp only [chks, Bool.and_eq_true] at hc
      match ks, keys, hk, hl with
      | kk :: ks, some (.Constant (.str s) c p2) :: keys, hk, hl =>
        simp only [keysB, Bool.and_eq_true] at hk
        obtain ⟨trs, p1, p3⟩ := soundP ks r X sc keys es pos W h hs tk hk.2 (by simpa using hl) hc.2
        have es : s = mkS kk := by
          have := eq_of_beq hk.1
          rw [← this]
        have hcst : PE X (.Constant (.str s) c p2) (tC (.str (mkS kk))) := by
          rw [es]
          exact pe_str
        exact pp_consD hcst (soundE a X sc _ W h hs tk hc.1).pe p1 p3
termination_by _ l => sizeOf l
theorem soundL {S : Sx} {call : Cl} {k : Nat} : ∀ (l : Exs) (X : Cx) (sc : Names) (es : List Expr) (W : WX), Here g S call gl k X → ScOk X sc → Takes X W → chks S l sc es = true → PA X es (tA g W (dens call gl l))
  | .nil, X, sc, es, W, h, hs, tk, hc => by
    have hd : dens call gl .nil = fun _ => .ok [] := funext fun ρ => by first | (simp only [dens]; done) | (simp only [dens]; rfl)
    rw [hd]
    cases es with
    | nil => exact pa_nilD
    | cons e es => simp [chks] at hc
  | .cons a r, X, sc, es, W, h, hs, tk, hc => by
    have hd : dens call gl (.cons a r) = fun ρ => (den call gl a ρ).bind fun x => (dens call gl r ρ).bind fun xs => .ok (x :: xs) := funext fun ρ => by first | (simp only [dens]; done) | (simp only [dens]; rfl)
    rw [hd]
    cases es with
    | nil => simp [chks] at hc
    | cons e es =>
      simp only [chks, Bool.and_eq_true] at hc
      exact pa_consD (soundE a X sc e W h hs tk hc.1).pe (soundL r X sc es W h hs tk hc.2) (chk_plain hc.1)
termination_by a => sizeOf a
theorem soundO {S : Sx} {call : Cl} {k : Nat} : ∀ (l : Exo) (X : Cx) (sc : Names) (e : Option Expr) (W : WX), Here g S call gl k X → ScOk X sc → Takes X W → chko S l sc e = true → PO X e (tO g W (deno call gl l))
  | .no, X, sc, e, W, h, hs, tk, hc => by
    have hd : deno call gl .no = fun _ => .ok none := funext fun ρ => by first | (simp only [deno]; done) | (simp only [deno]; rfl)
    rw [hd]
    cases e with
    | none => exact po_noD
    | some e => simp [chko] at hc
  | .yes a, X, sc, e, W, h, hs, tk, hc => by
    have hd : deno call gl (.yes a) = fun ρ => (den call gl a ρ).bind partD := funext fun ρ => by first | (simp only [deno]; done) | (simp only [deno]; rfl)
    rw [hd]
    cases e with
    | none => simp [chko] at hc
    | some e =>
      simp only [chko] at hc
      exact po_yesD (soundE a X sc e W h hs tk hc).pe
termination_by a => sizeOf a
theorem soundC {S : Sx} {call : Cl} {k : Nat} : ∀ (l : Exo) (X : Cx) (sc : Names) (es : List Expr) (W : WX), Here g S call gl k X → ScOk X sc → Takes X W → chkc S l sc es = true → PTs X es (tT g W (denc call gl l))
  | .no, X, sc, es, W, h, hs, tk, hc => by
    have hd : denc call gl .no = fun _ => .ok true := funext fun ρ => by first | (simp only [denc]; done) | (simp only [denc]; rfl)
    rw [hd]
    cases es with
    | nil => exact ⟨fun pins s σ H Q I q => by
        obtain ⟨R, H0, ρ, ok, en, w⟩ := q
        exact pts_nil.run pins s σ H Q I (w R H ok Step.refl)⟩
    | cons e es => simp [chkc] at hc
  | .yes a, X, sc, es, W, h, hs, tk, hc => by
    have hd : denc call gl (.yes a) = fun ρ => (den call gl a ρ).bind truth := funext fun ρ => by first | (simp only [denc]; done) | (simp only [denc]; rfl)
    rw [hd]
    simp only [chkc] at hc
    split at hc
    · exact pts_one (soundE a X sc _ W h hs tk hc).pt
    · cases hc
termination_by a => sizeOf a
theorem soundI {S : Sx} {call : Cl} {k : Nat} : ∀ (l : Itr_) (X : Cx) (sc : Names) (e : Expr) (W : WX) (tg : Expr), Here g S call gl k X → ScOk X sc → Takes X W → chki S l sc e = true → zipOk l tg = true → PI X tg e (tI g W (deni call gl l))
  | .of a, X, sc, e, W, tg, h, hs, tk, hc, _ => by
    have hd : deni call gl (.of a) = fun ρ => (den call gl a ρ).bind fun x => match x with
      | .tup l => .ok l
      | .lst l => .ok l
      | .scr l => .ok (l.map .int)
      | .str l => .ok (signs l)
      | _ => .bad := funext fun ρ => by first | (simp only [deni]; done) | (simp only [deni]; rfl)
    rw [hd]
    simp only [chki] at hc
    exact pi_of h.K (soundE a X sc e W h hs tk hc).pe
  | .range a, X, sc, e, W, tg, h, hs, tk, hc, _ => by
    have hd : deni call gl (.range a) = fun ρ => (den call gl a ρ).bind fun x => match x with
      | .int j => if -(2 ^ 62) ≤ j ∧ j < 2 ^ 62 then .ok (upFrom 0 j.toNat) else .bad
      | _ => .bad := funext fun ρ => by first | (simp only [deni]; done) | (simp only [deni]; rfl)
    rw [hd]
    simp only [chki] at hc
    split at hc
    · simp only [Bool.and_eq_true, decide_eq_true_eq] at hc
      obtain ⟨⟨⟨hx, h1⟩, h2⟩, h3⟩ := hc
      subst hx
      exact pi_rng (hs.glb _ h1) (h.blt _ h2) (soundE a X sc _ W h hs tk h3).pe (chk_plain h3)
    · cases hc
  | .range2 a b, X, sc, e, W, tg, h, hs, tk, hc, _ => by
    have hd : deni call gl (.range2 a b) = fun ρ => (den call gl a ρ).bind fun x => (den call gl b ρ).bind fun y => match x, y with
      | .int i, .int j => if -(2 ^ 62) ≤ i ∧ i < 2 ^ 62 ∧ -(2 ^ 62) ≤ j ∧ j < 2 ^ 62 then .ok (upFrom i (j - i).toNat) else .bad
      | _, _ => .bad := funext fun ρ => by first | (simp only [deni]; done) | (simp only [deni]; rfl)
    rw [hd]
    simp only [chki] at hc
    split at hc
    · simp only [Bool.and_eq_true, decide_eq_true_eq] at hc
      obtain ⟨⟨⟨⟨hx, h1⟩, h2⟩, h3⟩, h4⟩ := hc
      subst hx
      exact pi_rng2 (hs.glb _ h1) (h.blt _ h2) (soundE a X sc _ W h hs tk h3).pe (soundE b X sc _ W h hs tk h4).pe (chk_plain h3) (chk_plain h4)
    · cases hc
  | .zip a b, X, sc, e, W, tg, h, hs, tk, hc, hz => by
    have hd : deni call gl (.zip a b) = fun ρ => (den call gl a ρ).bind fun x => (den call gl b ρ).bind fun y => match x, y with
      | .lst l, .lst m => .ok (zipD l m)
      | _, _ => .bad := funext fun ρ => by first | (simp only [deni]; done) | (simp only [deni]; rfl)
    rw [hd]
    cases tg <;> first | (cases hz; done) | skip
    simp only [chki] at hc
    split at hc
    · simp only [Bool.and_eq_true, decide_eq_true_eq] at hc
      obtain ⟨⟨⟨⟨hx, h1⟩, h2⟩, h3⟩, h4⟩ := hc
      subst hx
      exact pi_zipD h.K (hs.glb _ h1) (h.blt _ h2) (soundE a X sc _ W h hs tk h3).pe (soundE b X sc _ W h hs tk h4).pe (chk_plain h3) (chk_plain h4)
    · cases hc
termination_by a => sizeOf a
end
/-- the parts of a comprehension -/
theorem comp_parts {X : Cx} {sc : Names} {W : WX} (h : Here g S call gl k X) (hs : ScOk X sc) (tk : Takes X W) {own : List Nat} {t : Tg} {it : Itr_} {c : Exo} {a : Ex} {elt tg iter : Expr} {ifs : List Expr} {scope : Scope} {pos : Pos}
    (hc : chk S (.comp own t it c a) sc (.ListComp elt [⟨tg, iter, ifs, 0⟩] scope pos) = true) : ∃ ow : List (Str × Nat), ow.map (·.2) = own ∧ BlkOk X.N X.env.scope scope ow ∧ PI X tg iter (tI g W (deni call gl it)) ∧
      (∀ (s : Shared) (H : Hp) (C : Addr) (cl : List (Str × Addr)) (fp : List Addr), PG (X.blk s H scope (compEnvC scope cl C X.env) fp) tg (gT g t)) ∧
      (∀ (s : Shared) (H : Hp) (C : Addr) (cl : List (Str × Addr)) (fp : List Addr), PTs (X.blk s H scope (compEnvC scope cl C X.env) fp) ifs (tT g W0 (denc call gl c))) ∧
      (∀ (s : Shared) (H : Hp) (C : Addr) (cl : List (Str × Addr)) (fp : List Addr), PE (X.blk s H scope (compEnvC scope cl C X.env) fp) elt (tD g W0 (den call gl a))) ∧ (∀ x, foldedSetIterable iter X.env x = pure x) ∧ ∀ j ∈ slotsT t, j ∈ own := by
  simp only [chk, Bool.and_eq_true] at hc
  obtain ⟨⟨⟨⟨⟨⟨hk, ho⟩, hin⟩, h1⟩, ⟨h2, hz⟩⟩, h3⟩, h4⟩ := hc
  have hk' : scope.kind = .function := by
    split at hk
    · assumption
    · cases hk
  obtain ⟨ow, e1, bk⟩ := own_ok h hs hk' ho
  refine ⟨ow, e1, bk, soundI it X sc iter W tg h hs tk h2 hz, fun s H C cl fp => ?_, fun s H C cl fp => ?_, fun s H C cl fp => ?_, chki_fold h2, fun j hj => ?_⟩
  · exact pg_of (X := X.blk s H scope (compEnvC scope cl C X.env) fp) h.K h.calm h.N h.nd (ScOk.blk s H scope cl C fp) h1
  · exact soundC c (X.blk s H scope (compEnvC scope cl C X.env) fp) scope.names ifs W0 (h.blk s H scope _ fp) (ScOk.blk s H scope cl C fp) takes_0 h3
  · exact (soundE a (X.blk s H scope (compEnvC scope cl C X.env) fp) scope.names elt W0 (h.blk s H scope _ fp) (ScOk.blk s H scope cl C fp) takes_0 h4).pe
  · cases t with
    | name i =>
      simp only [slotsT, List.mem_singleton] at hj
      subst hj
      simp only [tgIn] at hin
      obtain ⟨x, hx, e⟩ := List.any_eq_true.mp hin
      have := beq_iff_eq.mp e
      subst this
      exact hx
    | tup is =>
      simp only [tgIn] at hin
      obtain ⟨x, hx, e⟩ := List.any_eq_true.mp (List.all_eq_true.mp hin j hj)
      have := beq_iff_eq.mp e
      subst this
      exact hx
end
end Ev
set_option Elab.async false
set_option linter.all false
set_option maxRecDepth 100000
set_option maxHeartbeats 4000000
/-! EvV: what wants a token: replace of written texts, and what holds it. -/
namespace Ev
open PySem PySem.Spec PyProof.Rows L2
theorem PET.mono {X : Cx} {e : Expr} {t t' : TE} (h : PET X e t) (m : ∀ (σ : L2.St) (H : Hp) (Q : VK), t' σ H Q → t σ H Q) : PET X e t' :=
  fun pins s σ H Q h0 I q => h pins s σ H Q h0 I (m σ H Q q)
theorem PAT.mono {X : Cx} {e : List Expr} {t t' : TA} (h : PAT X e t) (m : ∀ (σ : L2.St) (H : Hp) (Q : List V → Hp → Prop), t' σ H Q → t σ H Q) : PAT X e t' :=
  fun pos pins s σ H Q h0 I q => h pos pins s σ H Q h0 I (m σ H Q q)
theorem PSsT.mono {X : Cx} {e : List Stmt} {t t' : TS} (h : PSsT X e t) (m : ∀ D σ H, t' D σ H → t D σ H) : PSsT X e t' :=
  fun pins s σ H D h0 I q => h pins s σ H D h0 I (m D σ H q)
theorem PST.mono {X : Cx} {e : Stmt} {t t' : TS} (h : PST X e t) (m : ∀ D σ H, t' D σ H → t D σ H) : PST X e t' :=
  fun pins s σ H D h0 I q => h pins s σ H D h0 I (m D σ H q)
section
variable {X : Cx} {x : Str} {T : String} {r : List V → Hp → VK → Prop} {e : Expr} {es : List Expr} {t : TA} {p pos : Pos}
theorem pet_callTy (hc : CallR X (.type T) r) (hg : Gl X x) (hm : X.mg x = none) (hv : bootBuiltins x = some (.type T)) (ha : PAT X (e :: es) t) (hn : x ≠ "__name__" := by decide) (hdb : (x == ("__debug__" : Str)) = false := by decide)
    (he : starEach (e :: es) X.env = (false, eval e X.env) :: starEach es X.env := by rfl) (hpl : (backTo pos (starEach es X.env)).any (·.1) = false := by rfl) : PET X (.Call (.Name x p) (e :: es) [] pos) (tCB r t) := by
  intro pins s σ H Q h0 I h
  refine wpAny_Call_Name_kw (ld_blt I hg hm hv ?_ hn hdb)
  exact PyProof.Rows.callWith_type1 (thn (ha pos pins s σ H _ h0 I h) fun us s1 ⟨vs, H1, I1, r1, q1⟩ => hc pins s1 σ H1 vs us Q I1 r1 q1) he hpl
theorem pet_callS {k : Nat} {f : Addr} {fd : FuncData} {ps : List Str} {sp : Sp} {E : L2.St → XK} (F : FnOk X.prog X.w X.K X.mg X.base (L2.CX X.prog X.w) k f fd ps sp) (hr : Room k X.A) (hg : Gl X x) (hm : X.mg x = some (.ref f)) (hk : PySem.W.keepIn X.K (.ref f) = true) (hb : Binds X.K fd ps []) (hx : ∀ σ, PassesAt (L2.CX X.prog X.w) X σ (E σ))
    (ha : PAT X (e :: es) t) (hdb : (x == ("__debug__" : Str)) = false := by decide) (he : starEach (e :: es) X.env = (false, eval e X.env) :: starEach es X.env := by rfl) (hpl : (backTo pos (starEach es X.env)).any (·.1) = false := by rfl) :
    PET X (.Call (.Name x p) (e :: es) [] pos) (tCallS sp E t) := by
  intro pins s σ H Q h0 I h
  refine wpAny_Call_Name_kw (ld_glob I hg hm ?_ hdb)
  refine PySem.W.callWith_K (h₀ := X.base) I.ok.mod.kin hk (thn (ha pos pins s σ H _ h0 I h) fun us s1 ⟨vs, H1, I1, r, q⟩ => ⟨I1.kIn, ?_⟩) he hpl
  exact run_fnS F hr hb (hx σ) I1 r q
theorem pst_asg {tg e : Expr} {te : TE} {g : TG} (he : PET X e te) (hg : PG X tg g) (hs : swapsWithSole [tg] e pos.line X.env = pure false) (hw : swappedStores [tg] e X.env = pure none)
    (h1 : (assignEach [tg] X.env).map (·.2) = [assign tg X.env]) : PST X (.Assign [tg] e pos) (tAsg te g) := by
  intro pins s σ H D h0 I h
  refine wpAny_Assign_stores (thn (he pins s σ H _ h0 I h) fun v s1 ⟨x, H1, I1, r1, q1⟩ => ?_) hs hw
  rw [h1]
  exact thn (hg.run pins s1 σ H1 x v _ I1 r1 q1) fun _ s2 q => q
end
/-! replace at the first place alone -/
section
open Builtin Builtin.Str
theorem gives_rep1 (x y z : Str) (t u v w : Tok)
    (hf : ((occurrences x y 0 x.length 1).isEmpty || (y.length == 0 && z.length == 0)) = false →
      (u == 0 || v == 0) = false ∧ (u == v) = false ∧ (y == z) = false ∧ tooLong (x.length + (occurrences x y 0 x.length 1).length * z.length) = false) :
    Gives («str.replace» ⟨[.str x t, .str y u, .str z v, .int 1 w], []⟩) (if ((occurrences x y 0 x.length 1).isEmpty || (y.length == 0 && z.length == 0)) = true then .val (.str x t) else .str (glued z (partsBetween x (occurrences x y 0 x.length 1) y.length))) := by
  show Gives (do let limit ← countLimit "str.replace" (some (.int 1 w)) (x.length + 1); _) _
  rw [countLimit_int "str.replace" 1 w (x.length + 1) (by decide)]
  show Gives (if ((occurrences x y 0 x.length 1).isEmpty || (y.length == 0 && z.length == 0)) = true then (do rule "str.replace.nothing"; ret (.str x t)) else
          (do let same ← isSame (.str y u) (.str z v)
              if same = true then (do rule "str.replace.old-is-new"; ret (.str x t)) else
              if tooLong (x.length + (occurrences x y 0 x.length 1).length * z.length) = true then unsupported "str.replace:memory" else
              retStr (glued z (partsBetween x (occurrences x y 0 x.length 1) y.length)))) _
  cases hc : ((occurrences x y 0 x.length 1).isEmpty || (y.length == 0 && z.length == 0))
  · obtain ⟨h0, huv, hyz, hl⟩ := hf hc
    rw [isSame_str_other y z u v h0 huv hyz, hl]
    exact .of_eq rfl
  · exact .rule (.of_eq rfl)
theorem fits_rep1 {x z : Str} (y : Str) (hb : x.length + (x.length + 1) * z.length ≤ 16777216) :
    (glued z (partsBetween x (occurrences x y 0 x.length 1) y.length)).length ≤ sizeLine := by
  have h1 := StrLaws.occ_length_le_len x y 0 x.length 1
  have hy : (glued y (partsBetween x (occurrences x y 0 x.length 1) y.length)).length = x.length := by rw [StrLaws.glued_between_self]
  rw [size_glued, length_partsBetween, Nat.add_sub_cancel] at hy
  rw [size_glued, length_partsBetween, Nat.add_sub_cancel, sizeLine_eq]
  have h2 : (occurrences x y 0 x.length 1).length * z.length ≤ (x.length + 1) * z.length := Nat.mul_le_mul_right _ (by omega)
  omega
theorem call_rep1 {prog : Program} {w : World} {A : Around} {E : Value → Shared → Prop} {s : Shared} {x y z : Str} {t u v i : Tok} {Q : Value → Shared → Prop} (hu : u ≠ 0) (hv : v ≠ 0) (huv : u ≠ v) (hyz : (y == z) = false) (hb : x.length + (x.length + 1) * z.length ≤ 16777216)
    (hq : ∀ t' k, Q (.str (rep1 x y z) t') { s with toks := k }) : wpAny (model prog w) A (call (.builtin "str.replace") [.str x t, .str y u, .str z v, .int 1 i]) Q E s := by
  have hl : tooLong (x.length + (occurrences x y 0 x.length 1).length * z.length) = false := by
    have h1 := StrLaws.occ_length_le_len x y 0 x.length 1
    have h2 : (occurrences x y 0 x.length 1).length * z.length ≤ (x.length + 1) * z.length := Nat.mul_le_mul_right _ (by omega)
    unfold tooLong sizeLine
    exact decide_eq_false (by omega)
  refine call_gives F.slot_str_replace (typeIs_str _ _ _) F.entry_str_replace (F.args_str_replace_4 _ _ _ _)
    (gives_rep1 x y z t u v i fun _ => ⟨by simp [hu, hv], by simp [huv], hyz, hl⟩) ?_
  have hq' := hq
  unfold rep1 at hq'
  cases hc : ((occurrences x y 0 x.length 1).isEmpty || (y.length == 0 && z.length == 0))
  · rw [hc] at hq'
    simp only [Bool.false_eq_true, if_false] at hq' ⊢
    exact ⟨fits_rep1 y hb, hq' _ _⟩
  · rw [hc] at hq'
    simp only [if_true] at hq' ⊢
    exact hq' t s.toks
end
def tRep1 (to : TE) (y z : Str) : TE := fun σ H Q => to σ H fun v H1 => ∃ x, v = .str x ∧ x.length + (x.length + 1) * z.length ≤ 16777216 ∧ Q (.str (rep1 x y z)) H1
theorem pet_rep1 {X : Cx} {o : Expr} {to : TE} {y z : Str} {j k l : Nat} {c0 c1 c2 apos pos : Pos} (ho : PET X o to) (hyz : (y == z) = false)
    (hst : starEach [.Constant (.str y) j c0, .Constant (.str z) k c1, .Constant (.int 1) l c2] X.env = [(false, eval (.Constant (.str y) j c0) X.env), (false, eval (.Constant (.str z) k c1) X.env), (false, eval (.Constant (.int 1) l c2) X.env)])
    (hbase : attributeBase o "replace" X.env (eval o X.env) = eval o X.env) (hline : (apos.endLine == pos.line) = true) :
    PET X (.Call (.Attribute o "replace" apos) [.Constant (.str y) j c0, .Constant (.str z) k c1, .Constant (.int 1) l c2] [] pos) (tRep1 to y z) := by
  intro pins s σ H Q h0 I h
  refine wpAny_Call_method_lateS hbase (by rw [hst]; rfl) hline ?_
  rw [hst]
  refine wpAny_mono (PySem.wpAny_toks (ho pins s σ H _ h0 I h)) (fun v s1 q => ?_) fun _ _ z => z.2
  obtain ⟨hk, v', H1, I1, r1, x, e1, hb, q⟩ := q
  subst e1
  obtain ⟨tx, e2⟩ := r1
  subst e2
  refine ⟨"str", _, PySem.F.plainAttrs_str, PySem.F.slot_str_replace, PySem.F.type_str_replace, typeIs_str _ _ _, (fun _ e => nomatch e), Calls.callWith_builtin rfl (Calls.evalArgs_plain (Calls.spliced_cons ?_))⟩
  refine Calls.Constant_str (k := j) (pos := c0) (Calls.spliced_cons (Calls.Constant_str (k := k) (pos := c1) (Calls.spliced_cons (wpAny_Constant_int (k := l) (pos := c2) (Calls.spliced_nil ?_)))))
  exact call_rep1 (by show s1.toks ≠ 0; omega) (by show s1.toks + 1 ≠ 0; omega) (by show s1.toks ≠ s1.toks + 1; omega) hyz hb fun t' k => ⟨.str (rep1 x y z), H1, I1.tok k, ⟨t', rfl⟩, q⟩
/-! what gives a token -/
def PEg (X : Cx) (e : Expr) (t : TE) : Prop :=
  ∀ (pins : List (Addr × Obj)) (s : Shared) (σ : L2.St) (H : Hp) (Q : VK), Inv X pins σ H s → t σ H Q → wpAny (model X.prog X.w) X.A (eval e X.env) (fun v s1 => 1 ≤ s1.toks ∧ EP X pins σ Q v s1) X.xe s
def PSg (X : Cx) (st : Stmt) (t : TS) : Prop :=
  ∀ (pins : List (Addr × Obj)) (s : Shared) (σ : L2.St) (H : Hp) (D : Ends), Inv X pins σ H s → t D σ H → wpAny (model X.prog X.w) X.A (exec st X.env) (fun f s1 => 1 ≤ s1.toks ∧ SP X pins D f s1) X.xe s
section
variable {X : Cx} {a b o : Expr} {ta tb to : TE} {t : TA} {r : R2} {pos cpos apos c0 : Pos} {j : Nat} {c : Str}
theorem peg_bm {T id : String} {name : Str} {r : V → List V → Hp → VK → Prop} (pa : PlainAttrs T) (slot : Slot T name id) (hty : typeOf (.builtin id) = pure (.type "method_descriptor")) (hm : MtR X id r) (ho : PE X o to) (ht : ∀ σ H (Q : List V → Hp → Prop), t σ H Q → Q [V.str c] H)
    (hbase : attributeBase o name X.env (eval o X.env) = eval o X.env)
    (hfew : ((backTo cpos (starEach [.Constant (.str c) j c0] X.env)).all (fun x => !x.1) && (backToKw cpos (keywordEach [] X.env)).all (fun x => x.1.isSome)
      && decide ([Expr.Constant (.str c) j c0].length + ([] : List Keyword).length + (if ([] : List Keyword).isEmpty then 0 else 1) < 30)) = true)
    (hline : (apos.endLine == cpos.line) = true) :
    PEg X (.Call (.Attribute o name apos) [.Constant (.str c) j c0] [] cpos) (tBM X.K T r to t) := by
  intro pins s σ H Q I h
  refine wpAny_Call_method_late hbase hfew hline rfl (thn (ho.run pins s σ H _ I h) fun v s1 ⟨x, H1, I1, r1, ty, q1⟩ => ?_)
  obtain ⟨h1, h2⟩ := tyV_is I1 r1 ty
  refine ⟨T, id, pa, slot, hty, h1, h2, ?_⟩
  refine Calls.callWith_builtin rfl (Calls.evalArgs_plain (Calls.spliced_cons (Calls.Constant_str (k := j) (pos := c0) (Calls.spliced_nil ?_))))
  have q2 := ht σ H1 _ q1
  refine wpAny_mono (PySem.wpAny_toks (hm pins { s1 with toks := s1.toks + 1 } σ H1 x [V.str c] v [.str c s1.toks] Q (I1.tok _) r1 (.cons ⟨_, rfl⟩ .nil) q2)) (fun u s2 q => ?_) fun _ _ z => z.2
  have hk : s1.toks + 1 ≤ s2.toks := q.1
  exact ⟨by omega, q.2⟩
theorem peg_ix (hr : IxR X r) (ha : PEg X a ta) (hb : PE X b tb) (hs : PlainIx b) : PEg X (.Subscript a b pos) (tOp r ta tb) := by
  intro pins s σ H Q I h
  refine Subscript_ (wpAny_mono (ha pins s σ H _ I h) (fun v s1 q => ?_) fun _ _ z => z)
  obtain ⟨hk, x, H1, I1, r1, q1⟩ := q
  refine wpAny_mono (PySem.wpAny_toks_of hk (hb.run pins s1 σ H1 _ I1 q1)) (fun u s2 q => ?_) fun _ _ z => z.2
  obtain ⟨hk2, y, H2, I2, r2, q2⟩ := q
  exact wpAny_mono (PySem.wpAny_toks_of hk2 (hr a b pins s2 σ H2 x y v u Q I2 r1 r2 q2 (hs _ _))) (fun _ _ z => z) fun _ _ z => z.2
theorem psg_asg {tg e : Expr} {te : TE} {g : TG} (he : PEg X e te) (hg : PG X tg g) (hs : swapsWithSole [tg] e pos.line X.env = pure false) (hw : swappedStores [tg] e X.env = pure none)
    (h1 : (assignEach [tg] X.env).map (·.2) = [assign tg X.env]) : PSg X (.Assign [tg] e pos) (tAsg te g) := by
  intro pins s σ H D I h
  refine wpAny_Assign_stores (wpAny_mono (he pins s σ H _ I h) (fun v s1 q => ?_) fun _ _ z => z) hs hw
  obtain ⟨hk, x, H1, I1, r1, q1⟩ := q
  rw [h1]
  exact wpAny_mono (PySem.wpAny_toks_of hk (hg.run pins s1 σ H1 x v _ I1 r1 q1)) (fun _ s2 q => ⟨q.1, q.2⟩) fun _ _ z => z.2
theorem pss_g {st : Stmt} {rest : List Stmt} {t u : TS} (h1 : PSg X st t) (h2 : PSsT X rest u) : PSs X (st :: rest) (tSeq t u) := by
  refine ⟨fun pins s σ H D I h => ?_⟩
  refine wpAny_execs_cons (thn (h1 pins s σ H { D with nx := u D } I h) fun f s1 q => ?_)
  obtain ⟨hk, q⟩ := q
  cases f with
  | next =>
    obtain ⟨σ', H', I', q⟩ := q
    exact h2 pins s1 σ' H' D hk I' q
  | ret v => exact q
  | brk => exact q
  | cont => exact q
end
theorem PEg.mono {X : Cx} {e : Expr} {t t' : TE} (h : PEg X e t) (m : ∀ (σ : L2.St) (H : Hp) (Q : VK), t' σ H Q → t σ H Q) : PEg X e t' :=
  fun pins s σ H Q I q => h pins s σ H Q I (m σ H Q q)
theorem PSg.mono {X : Cx} {e : Stmt} {t t' : TS} (h : PSg X e t) (m : ∀ D σ H, t' D σ H → t D σ H) : PSg X e t' :=
  fun pins s σ H D I q => h pins s σ H D I (m D σ H q)
/-- a test behind which a token is out -/
def PTt (X : Cx) (e : Expr) (t : TT) : Prop :=
  ∀ (pins : List (Addr × Obj)) (s : Shared) (σ : L2.St) (H : Hp) (Q : Bool → Hp → Prop), Inv X pins σ H s → t σ H Q → wpAny (model X.prog X.w) X.A (isTrue e X.env (eval e X.env)) (fun d s1 => 1 ≤ s1.toks ∧ TP X pins σ Q d s1) X.xe s
theorem PTt.mono {X : Cx} {e : Expr} {t t' : TT} (h : PTt X e t) (m : ∀ (σ : L2.St) (H : Hp) (Q : Bool → Hp → Prop), t' σ H Q → t σ H Q) : PTt X e t' :=
  fun pins s σ H Q I q => h pins s σ H Q I (m σ H Q q)
section
variable {X : Cx} {a b : Expr} {op : CmpOp} {r : R2} {ta tb : TE} {j : Nat} {pos p0 : Pos} {c : Str}
theorem pt_cmpT (ho : OpR X (compareOp op) r) (ha : PE X a ta) (hb : ∀ σ H (Q : VK), tb σ H Q → Q (.str c) H) : PTt X (.Compare a [op] [.Constant (.str c) j p0] pos) (tTest (tOp r ta tb)) := by
  intro pins s σ H Q I h
  refine wpAny_isTrue_Compare1 (thn (ha.run pins s σ H _ I h) fun v s1 ⟨x, H1, I1, r1, q1⟩ => Calls.Constant_str ?_) (by cases op <;> rfl)
  have q2 := hb σ H1 _ q1
  refine wpAny_mono (PySem.wpAny_toks (ho pins { s1 with toks := s1.toks + 1 } σ H1 x (.str c) v _ _ (I1.tok _) r1 ⟨s1.toks, rfl⟩ q2)) (fun c s3 q => ?_) fun _ _ z => z.2
  obtain ⟨hk, z, H3, I3, r3, k, e, q3⟩ := q
  have hk : s1.toks + 1 ≤ s3.toks := hk
  subst e
  cases r3
  exact wpAny_truthy_bool ⟨by omega, H3, I3, q3⟩
theorem ps_ifT {cc : Expr} {x y : List Stmt} {tc : TT} {t u : TS} (hc : PTt X cc tc) (ha : PSsT X x t) (hb : PSs X y u) : PS X (.If cc x y pos) (tIfS tc t u) := by
  refine ⟨fun pins s σ H D I h => ?_⟩
  refine wpAny_If (thn (hc pins s σ H _ I h) fun d s1 ⟨h1, H1, I1, q1⟩ => ?_)
  cases d with
  | true => exact ha pins s1 σ H1 D h1 I1 q1
  | false => exact hb.run pins s1 σ H1 D I1 q1
end
/-! ### the check of what wants a token -/
def baseB : Expr → Bool
  | .Name .. => true
  | .Subscript .. => true
  | .Call (.Attribute ..) .. => true
  | _ => false
theorem base_B {o : Expr} (h : baseB o = true) (name : Str) (env : PySem.Env) (w : Sem Value) : attributeBase o name env w = w := by
  cases o <;> first | rfl | (cases h; done) | skip
  rename_i f _ _ _
  cases f <;> first | rfl | cases h
mutual
def chkX (S : Sx) : Ex → Names → Expr → Bool
  | .blt f l, sc, e => chk S (.blt f l) sc e || match f, e with
    | .int, .Call (.Name x _) (y :: ys) [] _ => decide (x = strN "int") && glbB sc x && S.bN.contains x && (plainE y && ys.all plainE) && chkXs S l sc (y :: ys)
    | _, _ => false
  | .call i l, sc, e => chk S (.call i l) sc e || match e with
    | .Call (.Name x _) (y :: ys) [] _ => decide (S.fN[i]? = some x) && glbB sc x && notDbg x && (plainE y && ys.all plainE) && chkXs S l sc (y :: ys)
    | _ => false
  | .meth m a l, sc, e => chk S (.meth m a l) sc e || match m, l, e with
    | .replace, .cons (.lit (.str y)) (.cons (.lit (.str z)) .nil), .Call (.Attribute o nm apos) [.Constant (.str y') _ _, .Constant (.str z') _ _] [] cpos =>
      decide (nm = strN "replace") && (apos.endLine == cpos.line) && (y'.cps.toList == y) && (z'.cps.toList == z) && !(y' == z') && (baseB o && chkX S a sc o)
    | .replace, .cons (.lit (.str y)) (.cons (.lit (.str z)) (.cons (.lit (.int k)) .nil)), .Call (.Attribute o nm apos) [.Constant (.str y') _ _, .Constant (.str z') _ _, .Constant (.int k') _ _] [] cpos =>
      decide (nm = strN "replace") && (apos.endLine == cpos.line) && (y'.cps.toList == y) && (z'.cps.toList == z) && !(y' == z') && (decide (k = 1) && decide (k' = 1)) && (baseB o && chkX S a sc o)
    | _, _, _ => false
  | a, sc, e => chk S a sc e
def chkXs (S : Sx) : Exs → Names → List Expr → Bool
  | .nil, _, es => es.isEmpty
  | .cons a r, sc, es => match es with
    | e :: es => chkX S a sc e && chkXs S r sc es
    | [] => false
end
section
variable {g : Gx} {S : Sx} {call : Cl} {gl : Nat → Option D} {k : Nat} {W : WX} {X : Cx}
theorem pat_nilD : PAT X [] (tA g W fun _ => .ok []) := PAT.mono pat_nil fun σ H Q q => by
  obtain ⟨R, H0, ρ, ok, en, w⟩ := q
  exact w R H ok Step.refl [] Reps.nil
theorem pat_consD {e : Expr} {es : List Expr} {f : Env → Res D} {h : Env → Res (List D)} (he : PET X e (tD g W f)) (hs : PAT X es (tA g W h)) (hp : plainE e = true) :
    PAT X (e :: es) (tA g W fun ρ => (f ρ).bind fun x => (h ρ).bind fun xs => .ok (x :: xs)) := PAT.mono (pat_cons he hs (star_plain hp _ _)) fun σ H Q q => by
  obtain ⟨R, H0, ρ, ok, en, w⟩ := q
  refine ⟨R, H0, ρ, ok, en, (Wp.bind ok w).mono fun x R1 H1 ok1 st1 w1 v1 r1 => ⟨R1, H0, ρ, ok1, en.step st1, (Wp.bind ok1 w1).mono fun xs R2 H2 ok2 st2 w2 vs r2 => ?_⟩⟩
  exact w2 R2 H2 ok2 Step.refl (v1 :: vs) (Reps.cons (Rep.le st2.le _ _ r1) r2)
theorem stars_plain {env : PySem.Env} {pos : Pos} : ∀ {es : List Expr}, es.all plainE = true → (backTo pos (starEach es env)).any (·.1) = false
  | [], _ => rfl
  | e :: es, h => by
    simp only [List.all_cons, Bool.and_eq_true] at h
    have ih := stars_plain (env := env) (pos := pos) h.2
    rw [star_plain h.1]
    exact ih
theorem mkS_of {x : Str} {l : List Nat} (h : (x.cps.toList == l) = true) : x = mkS l := by
  rw [← eq_of_beq h]
theorem pet_repD {o : Expr} {f : Env → Res D} {y z : Str} {j0 j1 : Nat} {c0 c1 apos pos : Pos} (ho : PET X o (tD g W f)) (hb : attributeBase o "replace" X.env (eval o X.env) = eval o X.env) (hl : (apos.endLine == pos.line) = true) (hyz : (y == z) = false) :
    PET X (.Call (.Attribute o "replace" apos) [.Constant (.str y) j0 c0, .Constant (.str z) j1 c1] [] pos) (tD g W fun ρ => (f ρ).bind fun d => if mthTy .replace d = true then mthD .replace d [.str y.cps.toList, .str z.cps.toList] else .bad) :=
  PET.mono (CwR.pet_replT ho hyz rfl hb hl) fun σ H Q q => by
    obtain ⟨R, H0, ρ, ok, en, w⟩ := q
    refine ⟨R, H0, ρ, ok, en, (Wp.bind ok w).mono fun d R1 H1 ok1 st1 w1 v r => ?_⟩
    cases d <;> first | exact (show False from w1).elim | skip
    rename_i s
    have ey : mkS y.cps.toList = y := by cases y; simp [mkS]
    have ez : mkS z.cps.toList = z := by cases z; simp [mkS]
    have w2 : Wp g W σ R1 H1 (if y.cps.toList ≠ [] ∧ s.length + (s.length + 1) * z.cps.toList.length ≤ MAXL then Res.ok (D.str (Txt.replace (mkS s) (mkS y.cps.toList) (mkS z.cps.toList)).cps.toList) else .bad) _ := w1
    by_cases c : y.cps.toList ≠ [] ∧ s.length + (s.length + 1) * z.cps.toList.length ≤ MAXL
    · rw [if_pos c, ey, ez] at w2
      refine ⟨mkS s, r.str, ?_, ?_⟩
      · have e1 : (mkS s).length = s.length := by simp [mkS, Str.length]
        have e2 : z.cps.toList.length = z.length := by simp [Str.length]
        rw [e1, ← e2]
        exact c.2
      · exact w2 R1 H1 ok1 Step.refl _ (by simp [Rep])
    · rw [if_neg c] at w2
      exact (show False from w2).elim
theorem pet_repD1 {o : Expr} {f : Env → Res D} {y z : Str} {j0 j1 j2 : Nat} {c0 c1 c2 apos pos : Pos} (ho : PET X o (tD g W f)) (hb : attributeBase o "replace" X.env (eval o X.env) = eval o X.env) (hl : (apos.endLine == pos.line) = true) (hyz : (y == z) = false) :
    PET X (.Call (.Attribute o "replace" apos) [.Constant (.str y) j0 c0, .Constant (.str z) j1 c1, .Constant (.int 1) j2 c2] [] pos) (tD g W fun ρ => (f ρ).bind fun d => if mthTy .replace d = true then mthD .replace d [.str y.cps.toList, .str z.cps.toList, .int 1] else .bad) :=
  PET.mono (pet_rep1 ho hyz rfl hb hl) fun σ H Q q => by
    obtain ⟨R, H0, ρ, ok, en, w⟩ := q
    refine ⟨R, H0, ρ, ok, en, (Wp.bind ok w).mono fun d R1 H1 ok1 st1 w1 v r => ?_⟩
    cases d <;> first | exact (show False from w1).elim | skip
    rename_i s
    have ey : mkS y.cps.toList = y := by cases y; simp [mkS]
    have ez : mkS z.cps.toList = z := by cases z; simp [mkS]
    have w2 : Wp g W σ R1 H1 (if (1 : Int) = 1 ∧ y.cps.toList ≠ [] ∧ s.length + (s.length + 1) * z.cps.toList.length ≤ MAXL then Res.ok (D.str (rep1 (mkS s) (mkS y.cps.toList) (mkS z.cps.toList)).cps.toList) else .bad) _ := w1
    by_cases c : (1 : Int) = 1 ∧ y.cps.toList ≠ [] ∧ s.length + (s.length + 1) * z.cps.toList.length ≤ MAXL
    · rw [if_pos c, ey, ez] at w2
      refine ⟨mkS s, r.str, ?_, ?_⟩
      · have e1 : (mkS s).length = s.length := by simp [mkS, Str.length]
        have e2 : z.cps.toList.length = z.length := by simp [Str.length]
        rw [e1, ← e2]
        exact c.2.2
      · exact w2 R1 H1 ok1 Step.refl _ (by simp [Rep])
    · rw [if_neg c] at w2
      exact (show False from w2).elim
mutual
theorem soundX : ∀ (a : Ex) (X : Cx) (sc : Names) (e : Expr) (W : WX), Here g S call gl k X → ScOk X sc → Takes X W → chkX S a sc e = true → PET X e (tD g W (den call gl a))
  | .blt f l, X, sc, e, W, h, hs, tk, hc => by
    simp only [chkX, Bool.or_eq_true] at hc
    rcases hc with hc | hc
    · exact CwR.PET.of (soundE _ X sc _ W h hs tk hc).pe
    · have hd : den call gl (.blt f l) = fun ρ => (dens call gl l ρ).bind fun ds => bltD f ds := funext fun ρ => by first | (simp only [den]; done) | (simp only [den]; rfl)
      rw [hd]
      split at hc
      · simp only [Bool.and_eq_true, decide_eq_true_eq] at hc
        obtain ⟨⟨⟨⟨hx, h1⟩, h2⟩, h3, h3'⟩, h4⟩ := hc
        subst hx
        exact PET.mono (pet_callTy cb_int (hs.glb _ h1) (h.blt _ h2) (by decide +kernel) (soundXs l X sc _ W h hs tk h4 (by simp only [List.all_cons, h3, h3', Bool.and_self])) (by decide +kernel) (by decide +kernel) (star_plain h3 _ _) (stars_plain h3')) fun σ H Q q => tCB_of (bltD_noexc _) q
      · cases hc
  | .call i l, X, sc, e, W, h, hs, tk, hc => by
    simp only [chkX, Bool.or_eq_true] at hc
    rcases hc with hc | hc
    · exact CwR.PET.of (soundE _ X sc _ W h hs tk hc).pe
    · have hd : den call gl (.call i l) = fun ρ => (dens call gl l ρ).bind fun ds => call.f call.k i ds := funext fun ρ => by first | (simp only [den]; done) | (simp only [den]; rfl)
      rw [hd]
      split at hc
      · simp only [Bool.and_eq_true, decide_eq_true_eq] at hc
        obtain ⟨⟨⟨⟨hx, h1⟩, h2⟩, h3, h3'⟩, h4⟩ := hc
        rw [h.fN] at hx
        obtain ⟨fa, fd, ps, k1, k2', k3, k4⟩ := h.fns i _ hx
        have k2 := k2' k (Nat.le_refl _)
        rw [← h.kk] at k2
        exact PET.mono (pet_callS k2 (by rw [h.kk]; exact h.room) (hs.glb _ h1) k1 k3 k4 (fun σ => passAt tk σ) (soundXs l X sc _ W h hs tk h4 (by simp only [List.all_cons, h3, h3', Bool.and_self])) (notDbg_1 h2) (star_plain h3 _ _) (stars_plain h3')) fun σ H Q q => tCallS_of q
      · cases hc
  | .meth m a l, X, sc, e, W, h, hs, tk, hc => by
    simp only [chkX, Bool.or_eq_true] at hc
    rcases hc with hc | hc
    · exact CwR.PET.of (soundE _ X sc _ W h hs tk hc).pe
    · split at hc
      · rename_i y z o nm apos y' j0 c0 z' j1 c1 cpos
        simp only [Bool.and_eq_true, decide_eq_true_eq, Bool.not_eq_true'] at hc
        obtain ⟨⟨⟨⟨⟨hx, h1⟩, h2⟩, h3⟩, h4⟩, h5, h6⟩ := hc
        subst hx
        have ey := eq_of_beq h2
        have ez := eq_of_beq h3
        subst ey ez
        have hd : den call gl (.meth .replace a (.cons (.lit (.str y'.cps.toList)) (.cons (.lit (.str z'.cps.toList)) .nil))) = fun ρ => (den call gl a ρ).bind fun d => if mthTy .replace d = true then mthD .replace d [.str y'.cps.toList, .str z'.cps.toList] else .bad := funext fun ρ => by
          simp only [den, dens, Res.bind_ok]
        rw [hd]
        exact pet_repD (soundX a X sc _ W h hs tk h6) (base_B h5 _ _ _) h1 h4
      · rename_i y z k o nm apos y' j0 c0 z' j1 c1 k' j2 c2 cpos
        simp only [Bool.and_eq_true, decide_eq_true_eq, Bool.not_eq_true'] at hc
        obtain ⟨⟨⟨⟨⟨⟨hx, h1⟩, h2⟩, h3⟩, h4⟩, hk, hk'⟩, h5, h6⟩ := hc
        subst hx hk hk'
        have ey := eq_of_beq h2
        have ez := eq_of_beq h3
        subst ey ez
        have hd : den call gl (.meth .replace a (.cons (.lit (.str y'.cps.toList)) (.cons (.lit (.str z'.cps.toList)) (.cons (.lit (.int 1)) .nil)))) = fun ρ => (den call gl a ρ).bind fun d => if mthTy .replace d = true then mthD .replace d [.str y'.cps.toList, .str z'.cps.toList, .int 1] else .bad := funext fun ρ => by
          simp only [den, dens, Res.bind_ok]
        rw [hd]
        exact pet_repD1 (soundX a X sc _ W h hs tk h6) (base_B h5 _ _ _) h1 h4
      · cases hc
  | .lit d, X, sc, e, W, h, hs, tk, hc => CwR.PET.of (soundE _ X sc _ W h hs tk (by simpa only [chkX] using hc)).pe
  | .var d, X, sc, e, W, h, hs, tk, hc => CwR.PET.of (soundE _ X sc _ W h hs tk (by simpa only [chkX] using hc)).pe
  | .glob d, X, sc, e, W, h, hs, tk, hc => CwR.PET.of (soundE _ X sc _ W h hs tk (by simpa only [chkX] using hc)).pe
  | .bin .., X, sc, e, W, h, hs, tk, hc => CwR.PET.of (soundE _ X sc _ W h hs tk (by simpa only [chkX] using hc)).pe
  | .neg .., X, sc, e, W, h, hs, tk, hc => CwR.PET.of (soundE _ X sc _ W h hs tk (by simpa only [chkX] using hc)).pe
  | .cmp .., X, sc, e, W, h, hs, tk, hc => CwR.PET.of (soundE _ X sc _ W h hs tk (by simpa only [chkX] using hc)).pe
  | .chain .., X, sc, e, W, h, hs, tk, hc => CwR.PET.of (soundE _ X sc _ W h hs tk (by simpa only [chkX] using hc)).pe
  | .and .., X, sc, e, W, h, hs, tk, hc => CwR.PET.of (soundE _ X sc _ W h hs tk (by simpa only [chkX] using hc)).pe
  | .or .., X, sc, e, W, h, hs, tk, hc => CwR.PET.of (soundE _ X sc _ W h hs tk (by simpa only [chkX] using hc)).pe
  | .not .., X, sc, e, W, h, hs, tk, hc => CwR.PET.of (soundE _ X sc _ W h hs tk (by simpa only [chkX] using hc)).pe
  | .tup .., X, sc, e, W, h, hs, tk, hc => CwR.PET.of (soundE _ X sc _ W h hs tk (by simpa only [chkX] using hc)).pe
  | .lst .., X, sc, e, W, h, hs, tk, hc => CwR.PET.of (soundE _ X sc _ W h hs tk (by simpa only [chkX] using hc)).pe
  | .idx .., X, sc, e, W, h, hs, tk, hc => CwR.PET.of (soundE _ X sc _ W h hs tk (by simpa only [chkX] using hc)).pe
  | .slice .., X, sc, e, W, h, hs, tk, hc => CwR.PET.of (soundE _ X sc _ W h hs tk (by simpa only [chkX] using hc)).pe
  | .rev .., X, sc, e, W, h, hs, tk, hc => CwR.PET.of (soundE _ X sc _ W h hs tk (by simpa only [chkX] using hc)).pe
  | .isi .., X, sc, e, W, h, hs, tk, hc => CwR.PET.of (soundE _ X sc _ W h hs tk (by simpa only [chkX] using hc)).pe
  | .callv .., X, sc, e, W, h, hs, tk, hc => CwR.PET.of (soundE _ X sc _ W h hs tk (by simpa only [chkX] using hc)).pe
  | .comp .., X, sc, e, W, h, hs, tk, hc => CwR.PET.of (soundE _ X sc _ W h hs tk (by simpa only [chkX] using hc)).pe
  | .dsub .., X, sc, e, W, h, hs, tk, hc => CwR.PET.of (soundE _ X sc _ W h hs tk (by simpa only [chkX] using hc)).pe
  | .dgt .., X, sc, e, W, h, hs, tk, hc => CwR.PET.of (soundE _ X sc _ W h hs tk (by simpa only [chkX] using hc)).pe
  | .kin .., X, sc, e, W, h, hs, tk, hc => CwR.PET.of (soundE _ X sc _ W h hs tk (by simpa only [chkX] using hc)).pe
  | .kget .., X, sc, e, W, h, hs, tk, hc => CwR.PET.of (soundE _ X sc _ W h hs tk (by simpa only [chkX] using hc)).pe
  | .told .., X, sc, e, W, h, hs, tk, hc => CwR.PET.of (soundE _ X sc _ W h hs tk (by simpa only [chkX] using hc)).pe
  | .oidx .., X, sc, e, W, h, hs, tk, hc => CwR.PET.of (soundE _ X sc _ W h hs tk (by simpa only [chkX] using hc)).pe
  | .olen .., X, sc, e, W, h, hs, tk, hc => CwR.PET.of (soundE _ X sc _ W h hs tk (by simpa only [chkX] using hc)).pe
termination_by a => sizeOf a
theorem soundXs : ∀ (l : Exs) (X : Cx) (sc : Names) (es : List Expr) (W : WX), Here g S call gl k X → ScOk X sc → Takes X W → chkXs S l sc es = true → (es.all plainE = true) → PAT X es (tA g W (dens call gl l))
  | .nil, X, sc, es, W, h, hs, tk, hc, hp => by
    have hd : dens call gl .nil = fun _ => .ok [] := funext fun ρ => by first | (simp only [dens]; done) | (simp only [dens]; rfl)
    rw [hd]
    cases es with
    | nil => exact pat_nilD
    | cons e es => simp [chkXs] at hc
  | .cons a r, X, sc, es, W, h, hs, tk, hc, hp => by
    have hd : dens call gl (.cons a r) = fun ρ => (den call gl a ρ).bind fun x => (dens call gl r ρ).bind fun xs => .ok (x :: xs) := funext fun ρ => by first | (simp only [dens]; done) | (simp only [dens]; rfl)
    rw [hd]
    cases es with
    | nil => simp [chkXs] at hc
    | cons e es =>
      simp only [chkXs, Bool.and_eq_true] at hc
      simp only [List.all_cons, Bool.and_eq_true] at hp
      exact pat_consD (soundX a X sc e W h hs tk hc.1) (soundXs r X sc es W h hs tk hc.2 hp.2) hp.1
termination_by a => sizeOf a
end
end
end Ev
set_option Elab.async false
set_option linter.all false
set_option maxRecDepth 100000
set_option maxHeartbeats 4000000
/-! EvL: THE THEOREM ON STATEMENTS; defs. -/
namespace Ev
open PySem PySem.Spec PyProof.Rows L2
/-- what is asked of a statement's outcome -/
def OutP (g : Gx) (W : WX) (R0 H0 : Hp) (D : Ends) (r : Res Out) : Prop :=
  match r with
  | .ok (.nx ρ') => ∀ R' H' σ', Ok g R' H' → Step R0 H0 R' H' → EnvR g H0 R' H' σ' ρ' → D.nx σ' H'
  | .ok (.rt d) => ∀ R' H' v, Ok g R' H' → Step R0 H0 R' H' → Rep g R' d v → D.rt v H'
  | .exc c => ∀ R' H' σ', Ok g R' H' → Step R0 H0 R' H' → W (g.cv c) none σ' H'
  | .bad => False
def tS (g : Gx) (W : WX) (R0 H0 : Hp) (f : Env → Res Out) : TS := fun D σ H => ∃ R ρ, Ok g R H ∧ Step R0 H0 R H ∧ EnvR g H0 R H σ ρ ∧ OutP g W R0 H0 D (f ρ)
section
variable {g : Gx} {W : WX} {R0 H0 R H : Hp} {σ : L2.St} {D : Ends} {α : Type}
theorem OutP.bind {r : Res α} {k : α → Res Out} (st : Step R0 H0 R H) (h : OutP g W R0 H0 D (r.bind k)) : Wp g W σ R H r fun a R' H' => Step R0 H0 R' H' ∧ OutP g W R0 H0 D (k a) := by
  cases r with
  | ok a => exact fun R' H' o s => ⟨st.trans s, h⟩
  | exc c => exact fun R' H' o s => h R' H' σ o (st.trans s)
  | bad => exact h
theorem PS.mono {X : Cx} {e : Stmt} {t t' : TS} (h : PS X e t) (m : ∀ D σ H, t' D σ H → t D σ H) : PS X e t' :=
  ⟨fun pins s σ H D I q => h.run pins s σ H D I (m D σ H q)⟩
theorem PSs.mono {X : Cx} {e : List Stmt} {t t' : TS} (h : PSs X e t) (m : ∀ D σ H, t' D σ H → t D σ H) : PSs X e t' :=
  ⟨fun pins s σ H D I q => h.run pins s σ H D I (m D σ H q)⟩
end
section
variable {g : Gx} {S : Sx} {call : Cl} {gl : Nat → Option D} {k : Nat} {X : Cx} {W : WX} {R0 H0 : Hp} {pos p p2 : Pos}
/-- the store of a value's data -/
theorem tAsg_of {te : TE} {t : Tg} {f : Env → Res D} (hte : ∀ σ H Q, tD g W f σ H Q → te σ H Q) {E : Ends} {σ : L2.St} {H : Hp} (q : tS g W R0 H0 (fun ρ => (f ρ).bind fun d => (storeT t d ρ).bind fun ρ' => .ok (.nx ρ')) E σ H) : tAsg te (gT g t) E σ H := by
  obtain ⟨R, ρ, ok, st, en, o⟩ := q
  refine hte _ _ _ ⟨R, H0, ρ, ok, en, (OutP.bind st o).mono fun d R1 H1 ok1 st1 ⟨st2, o2⟩ v r => ?_⟩
  cases e : storeT t d ρ with
  | ok ρ' =>
    rw [e] at o2
    exact ⟨R1, H0, ρ, d, ρ', ok1, en.step st1, r, e, fun σ' en' _ _ => o2 R1 H1 σ' ok1 st2 en'⟩
  | exc c =>
    exfalso
    cases t <;> cases d <;> simp only [storeT] at e <;> first | (cases e; done) | (split at e <;> cases e)
  | bad => rw [e] at o2; exact (show False from o2).elim
theorem gName_of {te : TE} {i : Nat} {f : Env → Res D} (hte : ∀ σ H Q, tD g W f σ H Q → te σ H Q) {E : Ends} {σ : L2.St} {H : Hp} (q : tS g W R0 H0 (fun ρ => (f ρ).bind fun d => (storeT (.name i) d ρ).bind fun ρ' => .ok (.nx ρ')) E σ H) : tAsg te (gName i) E σ H := by
  obtain ⟨R, ρ, ok, st, en, o⟩ := q
  refine hte _ _ _ ⟨R, H0, ρ, ok, en, (OutP.bind st o).mono fun d R1 H1 ok1 st1 ⟨st2, o2⟩ v r => ?_⟩
  exact (show OutP g W R0 H0 E (.ok (.nx (setV ρ i (.pu d)))) from o2) R1 H1 _ ok1 st2 ((en.step st1).set i r)
theorem ps_retD {e : Expr} {f : Env → Res D} (he : PE X e (tD g W f)) : PS X (.Return (some e) pos) (tS g W R0 H0 fun ρ => (f ρ).bind fun d => .ok (.rt d)) := PS.mono (ps_ret he) fun E σ H q => by
  obtain ⟨R, ρ, ok, st, en, o⟩ := q
  exact ⟨R, H0, ρ, ok, en, (OutP.bind st o).mono fun d R1 H1 ok1 st1 ⟨st2, o2⟩ v r => o2 R1 H1 v ok1 st2 r⟩
theorem ps_expD {e : Expr} {f : Env → Res D} (he : PE X e (tD g W f)) (hs : swapsWith e none pos.line X.env = pure false) : PS X (.Expr e pos) (tS g W R0 H0 fun ρ => (f ρ).bind fun _ => .ok (.nx ρ)) := PS.mono (ps_expr he hs) fun E σ H q => by
  obtain ⟨R, ρ, ok, st, en, o⟩ := q
  exact ⟨R, H0, ρ, ok, en, (OutP.bind st o).mono fun d R1 H1 ok1 st1 ⟨st2, o2⟩ v r => o2 R1 H1 σ ok1 st2 (en.step st1)⟩
theorem ps_ifD {c : Expr} {a b : List Stmt} {fc : Env → Res D} {fa fb : Env → Res Out} (hc : PT X c (tT g W fun ρ => (fc ρ).bind truth)) (ha : PSs X a (tS g W R0 H0 fa)) (hb : PSs X b (tS g W R0 H0 fb)) :
    PS X (.If c a b pos) (tS g W R0 H0 fun ρ => (fc ρ).bind fun d => (truth d).bind fun t => if t = true then fa ρ else fb ρ) := PS.mono (ps_if hc ha hb) fun E σ H q => by
  obtain ⟨R, ρ, ok, st, en, o⟩ := q
  refine ⟨R, H0, ρ, ok, en, ?_⟩
  show Wp g W σ R H ((fc ρ).bind truth) _
  dsimp only at o
  have o' : OutP g W R0 H0 E (((fc ρ).bind truth).bind fun t => if t = true then fa ρ else fb ρ) := by
    cases e : fc ρ with
    | ok d => rw [e] at o; exact o
    | exc c => rw [e] at o; exact o
    | bad => rw [e] at o; exact o
  refine (OutP.bind st o').mono fun t R1 H1 ok1 st1 ⟨st2, o2⟩ => ?_
  cases t with
  | true => exact ⟨R1, ρ, ok1, st2, en.step st1, o2⟩
  | false => exact ⟨R1, ρ, ok1, st2, en.step st1, o2⟩
theorem pss_nilD : PSs X [] (tS g W R0 H0 fun ρ => .ok (.nx ρ)) := PSs.mono pss_nil fun E σ H q => by
  obtain ⟨R, ρ, ok, st, en, o⟩ := q
  exact o R H σ ok st en
theorem pss_consD {a : Stmt} {r : List Stmt} {fa fr : Env → Res Out} (ha : PS X a (tS g W R0 H0 fa)) (hr : PSs X r (tS g W R0 H0 fr)) : PSs X (a :: r) (tS g W R0 H0 fun ρ => (fa ρ).bind fun o => match o with
    | .nx ρ' => fr ρ'
    | .rt d => .ok (.rt d)) := PSs.mono (pss_cons ha hr) fun E σ H q => by
  obtain ⟨R, ρ, ok, st, en, o⟩ := q
  refine ⟨R, ρ, ok, st, en, ?_⟩
  dsimp only at o
  cases e : fa ρ with
  | bad => rw [e] at o; exact o
  | exc c => rw [e] at o; exact o
  | ok u =>
    rw [e] at o
    cases u with
    | nx ρ' => exact fun R' H' σ' ok' st' en' => ⟨R', ρ', ok', st', en', o⟩
    | rt d => exact o
theorem ps_ifTD {c : Expr} {a b : List Stmt} {fc : Env → Res D} {fa fb : Env → Res Out} (hc : PTt X c (tT g W fun ρ => (fc ρ).bind truth)) (ha : PSsT X a (tS g W R0 H0 fa)) (hb : PSs X b (tS g W R0 H0 fb)) :
    PS X (.If c a b pos) (tS g W R0 H0 fun ρ => (fc ρ).bind fun d => (truth d).bind fun t => if t = true then fa ρ else fb ρ) := PS.mono (ps_ifT hc ha hb) fun E σ H q => by
  obtain ⟨R, ρ, ok, st, en, o⟩ := q
  refine ⟨R, H0, ρ, ok, en, ?_⟩
  show Wp g W σ R H ((fc ρ).bind truth) _
  dsimp only at o
  have o' : OutP g W R0 H0 E (((fc ρ).bind truth).bind fun t => if t = true then fa ρ else fb ρ) := by
    cases e : fc ρ with
    | ok d => rw [e] at o; exact o
    | exc c => rw [e] at o; exact o
    | bad => rw [e] at o; exact o
  refine (OutP.bind st o').mono fun t R1 H1 ok1 st1 ⟨st2, o2⟩ => ?_
  cases t with
  | true => exact ⟨R1, ρ, ok1, st2, en.step st1, o2⟩
  | false => exact ⟨R1, ρ, ok1, st2, en.step st1, o2⟩
theorem pss_consG {a : Stmt} {r : List Stmt} {fa fr : Env → Res Out} (ha : PSg X a (tS g W R0 H0 fa)) (hr : PSsT X r (tS g W R0 H0 fr)) : PSs X (a :: r) (tS g W R0 H0 fun ρ => (fa ρ).bind fun o => match o with
    | .nx ρ' => fr ρ'
    | .rt d => .ok (.rt d)) := PSs.mono (pss_g ha hr) fun E σ H q => by
  obtain ⟨R, ρ, ok, st, en, o⟩ := q
  refine ⟨R, ρ, ok, st, en, ?_⟩
  dsimp only at o
  cases e : fa ρ with
  | bad => rw [e] at o; exact o
  | exc c => rw [e] at o; exact o
  | ok u =>
    rw [e] at o
    cases u with
    | nx ρ' => exact fun R' H' σ' ok' st' en' => ⟨R', ρ', ok', st', en', o⟩
    | rt d => exact o
theorem psst_nilD : PSsT X [] (tS g W R0 H0 fun ρ => .ok (.nx ρ)) := PSsT.of pss_nilD
theorem psst_consD {a : Stmt} {r : List Stmt} {fa fr : Env → Res Out} (ha : PST X a (tS g W R0 H0 fa)) (hr : PSsT X r (tS g W R0 H0 fr)) : PSsT X (a :: r) (tS g W R0 H0 fun ρ => (fa ρ).bind fun o => match o with
    | .nx ρ' => fr ρ'
    | .rt d => .ok (.rt d)) := PSsT.mono (psst_cons ha hr) fun E σ H q => by
  obtain ⟨R, ρ, ok, st, en, o⟩ := q
  refine ⟨R, ρ, ok, st, en, ?_⟩
  dsimp only at o
  cases e : fa ρ with
  | bad => rw [e] at o; exact o
  | exc c => rw [e] at o; exact o
  | ok u =>
    rw [e] at o
    cases u with
    | nx ρ' => exact fun R' H' σ' ok' st' en' => ⟨R', ρ', ok', st', en', o⟩
    | rt d => exact o
theorem ps_passD : PS X (.Pass pos) (tS g W R0 H0 fun ρ => .ok (.nx ρ)) := PS.mono ps_pass fun E σ H q => by
  obtain ⟨R, ρ, ok, st, en, o⟩ := q
  exact o R H σ ok st en
/-! ### loops -/
theorem whileN_step {c : Env → Res Bool} {b : Env → Res Out} : ∀ {n : Nat} {ρ : Env} {r : Res Out}, whileN c b n ρ = some r → ∃ m, n = m + 1
  | 0, _, _, h => by cases h
  | n + 1, _, _, _ => ⟨n, rfl⟩
theorem whileD_some {c : Env → Res Bool} {b : Env → Res Out} {ρ : Env} (h : whileD c b ρ ≠ .bad) : ∃ n, whileN c b n ρ = some (whileD c b ρ) := by
  unfold whileD at h ⊢
  split
  · rename_i hh
    exact Classical.choose_spec hh
  · rename_i hh
    rw [dif_neg hh] at h
    exact absurd rfl h
theorem whileN_mono {c : Env → Res Bool} {b : Env → Res Out} : ∀ {n m : Nat} {ρ : Env} {r : Res Out}, n ≤ m → whileN c b n ρ = some r → whileN c b m ρ = some r
  | 0, _, _, _, _, h => by cases h
  | n + 1, 0, _, _, hl, _ => by omega
  | n + 1, m + 1, ρ, r, hl, h => by
    unfold whileN at h ⊢
    cases e : c ρ with
    | bad => rw [e] at h; exact h
    | exc k => rw [e] at h; exact h
    | ok t =>
      rw [e] at h
      cases t with
      | false => exact h
      | true =>
        dsimp only at h ⊢
        cases e2 : b ρ with
        | bad => rw [e2] at h; exact h
        | exc k => rw [e2] at h; exact h
        | ok o =>
          rw [e2] at h
          cases o with
          | rt d => exact h
          | nx ρ' => exact whileN_mono (by omega) h
theorem whileD_of {c : Env → Res Bool} {b : Env → Res Out} {ρ : Env} {n : Nat} {r : Res Out} (h : whileN c b n ρ = some r) : whileD c b ρ = r := by
  have hh : ∃ r n, whileN c b n ρ = some r := ⟨r, n, h⟩
  unfold whileD
  rw [dif_pos hh]
  obtain ⟨m, hm⟩ := Classical.choose_spec hh
  have h1 := whileN_mono (Nat.le_max_left n m) h
  have h2 := whileN_mono (Nat.le_max_right n m) hm
  rw [h1] at h2
  exact (Option.some.inj h2).symm
theorem ps_whileD {c : Expr} {body : List Stmt} {fc : Env → Res D} {fb : Env → Res Out} (hp : PassesOwn (model X.prog X.w) X.A X.env X.xe) (hc : PT X c (tT g W fun ρ => (fc ρ).bind truth)) (hb : PSs X body (tS g W R0 H0 fb)) :
    PS X (.While c body [] pos) (tS g W R0 H0 fun ρ => whileD (fun ρ => (fc ρ).bind truth) fb ρ) := PS.mono (ps_while hp hc hb) fun E σ H q => by
  obtain ⟨R, ρ, ok, st, en, o⟩ := q
  dsimp only at o
  have nb : whileD (fun ρ => (fc ρ).bind truth) fb ρ ≠ .bad := fun z => by rw [z] at o; exact o
  obtain ⟨n, hn⟩ := whileD_some nb
  refine ⟨fun m σ H => ∃ R ρ2, Ok g R H ∧ Step R0 H0 R H ∧ EnvR g H0 R H σ ρ2 ∧ whileN (fun ρ => (fc ρ).bind truth) fb m ρ2 = some (whileD (fun ρ => (fc ρ).bind truth) fb ρ), ⟨n, R, ρ, ok, st, en, hn⟩, ?_⟩
  generalize whileD (fun ρ => (fc ρ).bind truth) fb ρ = r at o nb
  rintro m σ2 H2 ⟨R2, ρ2, ok2, st2, en2, hw⟩
  obtain ⟨m', rfl⟩ := whileN_step hw
  unfold whileN at hw
  refine ⟨R2, H0, ρ2, ok2, en2, ?_⟩
  dsimp only at hw ⊢
  cases e : (fc ρ2).bind truth with
  | bad => rw [e] at hw; cases hw; exact o
  | exc k =>
    rw [e] at hw
    cases hw
    exact fun R' H' o' s => o R' H' _ o' (st2.trans s)
  | ok t =>
    rw [e] at hw
    intro R3 H3 ok3 st3
    cases t with
    | false =>
      cases hw
      rw [if_neg Bool.false_ne_true]
      exact o R3 H3 _ ok3 (st2.trans st3) (en2.step st3)
    | true =>
      rw [if_pos rfl]
      refine ⟨fun σ' H' => ∃ R ρ2, Ok g R H' ∧ Step R0 H0 R H' ∧ EnvR g H0 R H' σ' ρ2 ∧ whileN (fun ρ => (fc ρ).bind truth) fb m' ρ2 = some r, fun σ' H' hN => ⟨m', by omega, hN⟩, R3, ρ2, ok3, st2.trans st3, en2.step st3, ?_⟩
      dsimp only at hw
      cases e2 : fb ρ2 with
      | bad => rw [e2] at hw; cases hw; exact o
      | exc k => rw [e2] at hw; cases hw; exact o
      | ok u =>
        rw [e2] at hw
        cases u with
        | rt d => cases hw; exact o
        | nx ρ3 => exact fun R' H' σ' ok' st' en' => ⟨R', ρ3, ok', st', en', hw⟩
theorem ps_forD {tg iter : Expr} {body : List Stmt} {t : Tg} {fi : Env → Res (List D)} {fb : Env → Res Out} (hp : PassesOwn (model X.prog X.w) X.A X.env X.xe) (hcalm : X.calm = true) (hi : PI X tg iter (tI g W fi)) (hg : PG X tg (gT g t)) (hb : ∀ R0, PSs X body (tS g W R0 H0 fb))
    (hs : ∀ x, foldedSetIterable iter X.env x = pure x) : PS X (.For tg iter body [] pos) (tS g W R0 H0 fun ρ => (fi ρ).bind fun ds => forD t fb ds ρ) := by
  have hb2 : PSs X body (fun D σ H => ∃ Rx, tS g W Rx H0 fb D σ H) := ⟨fun pins s σ H D I ⟨Rx, q⟩ => (hb Rx).run pins s σ H D I q⟩
  refine PS.mono (ps_for hp hcalm hi hg hb2 hs) fun E σ H q => ?_
  obtain ⟨R, ρ, ok, st, en, o⟩ := q
  refine ⟨R, H0, ρ, ok, en, (OutP.bind st o).mono fun ds R1 H1 ok1 st1 ⟨st2, o2⟩ J hJ => ?_⟩
  have tr : ∀ {R' H'}, Step R1 H0 R' H' → Step R0 H0 R' H' := fun {R' H'} z => ⟨fun a o e => z.le a o (st2.le a o e), z.ext, fun a o h t n => z.new a o h t (st2.new a o h t n)⟩
  have st3 : Step R1 H0 R1 H1 := ⟨fun _ _ e => e, st2.ext, fun _ _ _ _ n => n⟩
  refine ⟨fun i m σ H => i + m = ds.length ∧ ∃ R ρ, Ok g R H ∧ Step R1 H0 R H ∧ EnvR g H0 R H σ ρ ∧ OutP g W R0 H0 E (forD t fb (ds.drop i) ρ), ⟨ds.length, by omega, R1, ρ, ok1, st3, en.step st1, o2⟩, ?_⟩
  rintro i m σ2 H2 ⟨him, R2, ρ2, ok2, s2, en2, o3⟩
  obtain ⟨J1, J2⟩ := hJ R2 H2 ok2 s2.le i
  by_cases hi2 : i < ds.length
  · obtain ⟨Jgo, Jy⟩ := J1 ds[i] (List.getElem?_eq_getElem hi2)
    rw [List.drop_eq_getElem_cons hi2] at o3
    simp only [forD] at o3
    refine .inr ⟨Jgo, fun σ' H' => ∃ R ρ, Ok g R H' ∧ Step R1 H0 R H' ∧ EnvR g H0 R H' σ' ρ ∧ OutP g W R0 H0 E (forD t fb (ds.drop (i + 1)) ρ), fun σ' H' hN => ⟨m - 1, by omega, by omega, hN⟩, fun x H3 y => ?_⟩
    obtain ⟨R3, ok3, st4, r3⟩ := Jy x H3 y
    cases es : storeT t ds[i] ρ2 with
    | bad => rw [es] at o3; exact (show False from o3).elim
    | exc c =>
      exfalso
      generalize ds[i] = d at es
      cases t <;> cases d <;> simp only [storeT] at es <;> first | (cases es; done) | (split at es <;> cases es)
    | ok ρ3 =>
      rw [es] at o3
      refine ⟨R3, H0, ρ2, ds[i], ρ3, ok3, en2.step st4, r3, es, fun σ' en' _ _ => ?_⟩
      refine ⟨R1, R3, ρ3, ok3, s2.trans st4, en', ?_⟩
      simp only [Res.bind_ok] at o3
      cases eb : fb ρ3 with
      | bad => rw [eb] at o3; exact o3
      | exc c => rw [eb] at o3; exact fun R' H' σ' o s => o3 R' H' σ' o (tr s)
      | ok u =>
        rw [eb] at o3
        cases u with
        | rt d => exact fun R' H' v o s r => o3 R' H' v o (tr s) r
        | nx ρ4 => exact fun R' H' σ' ok' st' en' => ⟨R', ρ4, ok', st', en', o3⟩
  · refine .inl ⟨J2 (by omega), ?_⟩
    rw [List.drop_eq_nil_of_le (by omega)] at o3
    exact o3 R2 H2 σ2 ok2 (tr s2) en2
end
/-! ### the check of statements -/
def notComp : Ex → Bool
  | .comp .. => false
  | _ => true
def tupT : Tg → Bool
  | .tup _ => true
  | _ => false
def notTupE : Ex → Bool
  | .tup _ => false
  | _ => true
def tupOk : Tg → Ex → Bool
  | .name _, _ => true
  | .tup _, a => notTupE a
/-- the parts of a handler's tuple -/
def itB (S : Sx) (sc : Names) : List (Sum Nat D) → List Expr → Bool
  | [], [] => true
  | .inl i :: r, .Name y _ :: es => decide (S.N[i]? = some y) && visB sc y && notDbg y && itB S sc r es
  | .inr d :: r, .Constant c _ _ :: es => litB c d && itB S sc r es
  | _, _ => false
def handsB (S : Sx) (cN : List Str) (sc : Names) : List (Nat × List (Sum Nat D)) → List ExceptHandler → Bool
  | [], [] => true
  | (c, l) :: r, .ExceptHandler (some (.Name x _)) none [.Return (some (.Tuple es _ _)) _] _ :: hds => decide (cN[c]? = some x) && glbB sc x && notDbg x && itB S sc l es && handsB S cN sc r hds
  | _, _ => false
/-- a test against a written text -/
def litIn : Ex → Expr → Bool
  | .cmp _ _ (.lit (.str _)), .Compare _ [_] [.Constant (.str _) _ _] _ => true
  | _, _ => false
/-- a statement that gives a token -/
def giveT : Sm → Stmt → Bool
  | .set _ (.idx (.meth .split _ (.cons (.lit (.str _)) .nil)) _), .Assign [_] (.Subscript (.Call (.Attribute _ _ _) [.Constant (.str _) _ _] [] _) _ _) _ => true
  | _, _ => false
/-- a statement that wants a token -/
def setTk (S : Sx) : Sm → Names → Stmt → Bool
  | .set (.name i) a, sc, .Assign [.Name x _] (.Call f es [] p) _ => decide (S.N[i]? = some x) && locB sc x && chkX S a sc (.Call f es [] p)
  | _, _, _ => false
mutual
def chkS (S : Sx) (cN : List Str) : Sm → Names → Stmt → Bool
  | .set t a, sc, s => match s with
    | .Assign [tg] v pos => (notComp a || tupT t) && tupOk t a && chkT S sc t tg && chk S a sc v
    | _ => false
  | .setc i a, sc, s => match s with
    | .Assign [.Name y py] (.ListComp elt gens scope pos) _ => decide (S.N[i]? = some y) && chk S a sc (.ListComp elt gens scope pos) && locB sc y &&
        (if decide (sc.lookup y = some .local) && (py.line == pos.line) && !(scope.names.any fun (n, k) => n == y && (k == .local || k == .cell)) then true
         else decide (sc.lookup y = some .cell) || !(py.line == pos.line))
    | _ => false
  | .ret a, sc, s => match s with
    | .Return (some e) _ => chk S a sc e
    | _ => false
  | .exp a, sc, s => match s with
    | .Expr e _ => notComp a && chk S a sc e
    | _ => false
  | .iff c a b, sc, s => match s with
    | .If e x y _ => chk S c sc e && (chkSs S cN a sc x || (litIn c e && chkSsT S cN a sc x)) && chkSs S cN b sc y
    | _ => false
  | .while_ c b, sc, s => match s with
    | .While e x [] _ => chk S c sc e && chkSs S cN b sc x
    | _ => false
  | .for_ t it b, sc, s => match s with
    | .For tg e x [] _ => chkT S sc t tg && (chki S it sc e && zipOk it tg) && chkSs S cN b sc x
    | _ => false
  | .raise c, sc, s => match s with
    | .Raise (some (.Call (.Name x _) [.Constant (.str _) _ _] [] _)) none _ => decide (cN[c]? = some x) && glbB sc x && notDbg x
    | _ => false
  | .pass, _, s => match s with
    | .Pass _ => true
    | _ => false
  | .trys t e n hs, sc, s => match s with
    | .Try [.Assign [tg] v _] (h0 :: hds) [] [] _ => notComp e && tupOk t e && chkT S sc t tg && chk S e sc v && decide (n ≤ cN.length) && handsB S cN sc hs (h0 :: hds)
    | _ => false
  | .ownD i l, sc, s => match s with
    | .Assign [.Name y _] (.List es _) _ => decide (S.N[i]? = some y) && locB sc y && chks S l sc es
    | _ => false
  | .ownC i own t it c a, sc, s => match s with
    | .Assign [.Name y py] (.ListComp elt gens scope pos) _ => decide (S.N[i]? = some y) && chk S (.comp own t it c a) sc (.ListComp elt gens scope pos) && locB sc y &&
        (if decide (sc.lookup y = some .local) && (py.line == pos.line) && !(scope.names.any fun (n, k) => n == y && (k == .local || k == .cell)) then true
         else decide (sc.lookup y = some .cell) || !(py.line == pos.line))
    | _ => false
  | .ownL i a, sc, s => match s with
    | .Assign [.Name y _] (.Call (.Name x _) [e] [] _) _ => decide (x = strN "list") && glbB sc x && S.bN.contains x && decide (S.N[i]? = some y) && locB sc y && chk S a sc e
    | _ => false
  | .app i a, sc, s => match s with
    | .Expr (.Call (.Attribute (.Name y _) name apos) [e] [] cpos) _ => decide (name = strN "append") && (apos.endLine == cpos.line) && decide (S.N[i]? = some y) && visB sc y && notDbg y && chk S a sc e
    | _ => false
  | .sto i b a, sc, s => match s with
    | .Assign [.Subscript (.Name y _) ix _] e _ => notComp a && !isSlice ix && decide (S.N[i]? = some y) && visB sc y && notDbg y && chk S b sc ix && chk S a sc e
    | _ => false
  | .frz _, _, _ => false
  | .stuck, _, _ => true
def chkSsT (S : Sx) (cN : List Str) : Sms → Names → List Stmt → Bool
  | .nil, _, ss => ss.isEmpty
  | .cons a r, sc, ss => match ss with
    | s :: ss => (chkS S cN a sc s || setTk S a sc s) && chkSsT S cN r sc ss
    | [] => false
def chkSs (S : Sx) (cN : List Str) : Sms → Names → List Stmt → Bool
  | .nil, _, ss => ss.isEmpty
  | .cons a r, sc, ss => match a with
    | .frz _ => chkSs S cN r sc ss
    | a => (match ss with
      | s :: ss => chkS S cN a sc s && (chkSs S cN r sc ss || (giveT a s && chkSsT S cN r sc ss))
      | [] => false)
end
/-- an own error's class -/
structure ExcF (g : Gx) (X : Cx) (c : Nat) (x : Str) : Prop where
  ex : ∃ C, g.cv c = .ref C ∧ X.mg x = some (.ref C) ∧ PySem.W.excIn X.K C [.type "ValueError", .type "Exception", .type "BaseException", .type "object"] "ValueError.__new__" = true ∧ PySem.W.keepIn X.K (.ref C) = true ∧ Raises X (.ref C)
/-- a def's own frame -/
def FunX (X : Cx) : Prop := X.env.scope.kind = .function ∧ X.stack = X.env :: X.outer ∧ X.env.frame = some X.env.locals
/-- the own errors' classes -/
def ExsF (g : Gx) (X : Cx) (cN : List Str) : Prop := (∀ c x, cN[c]? = some x → ExcF g X c x) ∧ ∀ c c' x x', cN[c]? = some x → cN[c']? = some x' → PySem.W.exmOne X.K (g.cv c) (g.cv c') = some (decide (c = c'))
/-! ### lists of the def's own -/
section
variable {g : Gx} {R H : Hp} {H0 : Hp} {σ : L2.St} {ρ : Env}
/-- a list that nobody else holds becomes the slot's -/
theorem EnvR.setOwn {p : Addr} {vs : List V} {ds : List D} (e : EnvR g H0 R H σ ρ) (i : Nat) (hp : H p = some (.lst vs)) (hr : R p = none) (h0 : Nt H0 p) (r : Reps g R ds vs) (hn : ∀ j, j ≠ i → ∀ es, getV ρ j = .own es → σ[j]? ≠ some (some (.ref p))) :
    EnvR g H0 R H (σ.set i (some (.ref p))) (setV ρ i (.own ds)) := by
  have no : ∀ {m : Nat} {x : SV}, (∀ es, x ≠ .own es) → x ≠ .un → getV (setV ρ i (.own ds)) m = x → i ≠ m ∧ getV ρ m = x := fun {m x} hx hx2 h => by
    rw [getV_set] at h
    by_cases hij : i = m
    · rw [if_pos hij] at h
      split at h
      · exact absurd h.symm (hx _)
      · exact absurd h.symm hx2
    · rw [if_neg hij] at h
      exact ⟨hij, h⟩
  have yes : ∀ {m : Nat} {zs : List D}, getV (setV ρ i (.own ds)) m = .own zs → (i = m ∧ zs = ds ∧ i < ρ.length) ∨ (i ≠ m ∧ getV ρ m = .own zs) := fun {m zs} h => by
    rw [getV_set] at h
    by_cases hij : i = m
    · rw [if_pos hij] at h
      split at h
      · rename_i hl
        cases h
        exact .inl ⟨hij, rfl, hl⟩
      · cases h
    · rw [if_neg hij] at h
      exact .inr ⟨hij, h⟩
  refine ⟨by rw [setV_length, List.length_set]; exact e.len, fun j d h => ?_, fun j zs h => ?_, fun j k zs es a hjk h1 h2 h3 => ?_⟩
  · obtain ⟨n, h⟩ := no (fun es z => by cases z) (by intro z; cases z) h
    rw [List.getElem?_set_ne n]
    exact e.pu j d h
  · rcases yes h with ⟨rfl, rfl, hl⟩ | ⟨n, h⟩
    · exact ⟨p, vs, by rw [List.getElem?_set_self (by rw [← e.len]; exact hl)], hp, hr, h0, r⟩
    · rw [List.getElem?_set_ne n]
      exact e.own j zs h
  · rcases yes h1 with ⟨rfl, rfl, hl⟩ | ⟨n1, g1⟩
    · rcases yes h2 with ⟨rfl, _⟩ | ⟨n2, g2⟩
      · exact absurd rfl hjk
      · rw [List.getElem?_set_self (by rw [← e.len]; exact hl)] at h3
        cases h3
        rw [List.getElem?_set_ne n2]
        exact hn k (Ne.symm n2) es g2
    · rcases yes h2 with ⟨rfl, rfl, hl⟩ | ⟨n2, g2⟩
      · rw [List.getElem?_set_ne n1] at h3
        rw [List.getElem?_set_self (by rw [← e.len]; exact hl)]
        intro z
        cases z
        exact hn j (Ne.symm n1) zs g1 h3
      · rw [List.getElem?_set_ne n1] at h3
        rw [List.getElem?_set_ne n2]
        exact e.two j k zs es a hjk g1 g2 h3
/-- the slot's list is written -/
theorem EnvR.write {p : Addr} {i : Nat} {us vs : List V} {ds es : List D} (e : EnvR g H0 R H σ ρ) (hv : getV ρ i = .own es) (hσ : σ[i]? = some (some (.ref p))) (hp : H p = some (.lst us)) (hr : R p = none) (h0 : Nt H0 p) (r : Reps g R ds vs) :
    EnvR g H0 R (upd H p (.lst vs)) σ (setV ρ i (.own ds)) := by
  have hil : i < ρ.length := by
    rw [e.len]
    exact (List.getElem?_eq_some_iff.mp hσ).1
  have yes : ∀ {m : Nat} {zs : List D}, getV (setV ρ i (.own ds)) m = .own zs → (i = m ∧ zs = ds) ∨ (i ≠ m ∧ getV ρ m = .own zs) := fun {m zs} h => by
    rw [getV_set] at h
    by_cases hij : i = m
    · rw [if_pos hij, if_pos hil] at h
      cases h
      exact .inl ⟨hij, rfl⟩
    · rw [if_neg hij] at h
      exact .inr ⟨hij, h⟩
  refine ⟨by rw [setV_length]; exact e.len, fun j d h => ?_, fun j zs h => ?_, fun j k zs ws a hjk h1 h2 h3 => ?_⟩
  · rw [getV_set] at h
    by_cases hij : i = j
    · rw [if_pos hij, if_pos hil] at h; cases h
    · rw [if_neg hij] at h
      exact e.pu j d h
  · rcases yes h with ⟨rfl, rfl⟩ | ⟨n, h⟩
    · exact ⟨p, vs, hσ, upd_same, hr, h0, r⟩
    · obtain ⟨a, ws, q1, q2, q3, q4, q5⟩ := e.own j zs h
      have : a ≠ p := fun z => by
        subst z
        exact e.two i j es zs a n hv h hσ q1
      exact ⟨a, ws, q1, by rw [upd_ne this]; exact q2, q3, q4, q5⟩
  · rcases yes h1 with ⟨rfl, rfl⟩ | ⟨n1, g1⟩
    · rcases yes h2 with ⟨rfl, _⟩ | ⟨n2, g2⟩
      · exact absurd rfl hjk
      · exact e.two i k es ws a n2 hv g2 h3
    · rcases yes h2 with ⟨rfl, rfl⟩ | ⟨n2, g2⟩
      · exact e.two j i zs es a hjk g1 hv h3
      · exact e.two j k zs ws a hjk g1 g2 h3
/-- the slot's list becomes frozen -/
theorem EnvR.frozen {p : Addr} {i : Nat} {us : List V} {es : List D} (e : EnvR g H0 R H σ ρ) (hv : getV ρ i = .own es) (hσ : σ[i]? = some (some (.ref p))) (hp : H p = some (.lst us)) (hr : R p = none) (r : Reps g R es us) :
    EnvR g H0 (upd R p (.lst us)) H σ (setV ρ i (.pu (.lst es))) := by
  have hil : i < ρ.length := by
    rw [e.len]
    exact (List.getElem?_eq_some_iff.mp hσ).1
  have le : ∀ a o, R a = some o → upd R p (.lst us) a = some o := fun a o q => by
    rw [upd_ne (fun z => by rw [z, hr] at q; cases q)]; exact q
  have yes : ∀ {m : Nat} {zs : List D}, getV (setV ρ i (.pu (.lst es))) m = .own zs → i ≠ m ∧ getV ρ m = .own zs := fun {m zs} h => by
    rw [getV_set] at h
    by_cases hij : i = m
    · rw [if_pos hij, if_pos hil] at h; cases h
    · rw [if_neg hij] at h
      exact ⟨hij, h⟩
  refine ⟨by rw [setV_length]; exact e.len, fun j d h => ?_, fun j zs h => ?_, fun j k zs ws a hjk h1 h2 h3 => ?_⟩
  · rw [getV_set] at h
    by_cases hij : i = j
    · subst hij
      rw [if_pos rfl, if_pos hil] at h
      cases h
      refine ⟨_, hσ, ?_⟩
      simp only [Rep]
      exact ⟨p, us, rfl, upd_same, Reps.le le _ _ r⟩
    · rw [if_neg hij] at h
      obtain ⟨v, q1, q2⟩ := e.pu j d h
      exact ⟨v, q1, Rep.le le _ _ q2⟩
  · obtain ⟨n, h⟩ := yes h
    obtain ⟨a, ws, q1, q2, q3, q4, q5⟩ := e.own j zs h
    have : a ≠ p := fun z => by
      subst z
      exact e.two i j es zs a n hv h hσ q1
    exact ⟨a, ws, q1, q2, by rw [upd_ne this]; exact q3, q4, Reps.le le _ _ q5⟩
  · obtain ⟨n1, g1⟩ := yes h1
    obtain ⟨n2, g2⟩ := yes h2
    exact e.two j k zs ws a hjk g1 g2 h3
end
section
variable {g : Gx} {S : Sx} {cN : List Str} {call : Cl} {gl : Nat → Option D} {k : Nat}
theorem swap_none {a : Ex} {sc : Names} {e : Expr} (h : chk S a sc e = true) (hn : notComp a = true) (t : Option Expr) (l : Nat) (env : PySem.Env) : swapsWith e t l env = pure false := by
  cases e <;> first | rfl | skip
  all_goals (cases a <;> first | (cases hn; done) | (simp [chk] at h; done) | skip)
theorem swap_sole {a : Ex} {sc : Names} {e : Expr} (h : chk S a sc e = true) (hn : notComp a = true) (t : Expr) (l : Nat) (env : PySem.Env) : swapsWithSole [t] e l env = pure false := swap_none h hn _ _ _
theorem swap_sole2 {t : Tg} {tg : Expr} {a : Ex} {sc : Names} {e : Expr} (ht : chkT S sc t tg = true) (h : chk S a sc e = true) (hn : (notComp a || tupT t) = true) (l : Nat) (env : PySem.Env) : swapsWithSole [tg] e l env = pure false := by
  by_cases hc : notComp a = true
  · exact swap_sole h hc tg l env
  · have hc : notComp a = false := by simpa using hc
    rw [hc, Bool.false_or] at hn
    cases t with
    | name i => cases hn
    | tup is =>
      simp only [chkT] at ht
      split at ht
      · cases a <;> first | (cases hc; done) | skip
        simp only [chk] at h
        split at h
        · rfl
        · cases h
      · cases ht
theorem stores_none {t : Tg} {tg : Expr} {sc : Names} {a : Ex} {e : Expr} (ht : chkT S sc t tg = true) (h : chk S a sc e = true) (hn : tupOk t a = true) (env : PySem.Env) : swappedStores [tg] e env = pure none := by
  cases t with
  | name i =>
    simp only [chkT] at ht
    split at ht
    · rfl
    · cases ht
  | tup is =>
    simp only [chkT] at ht
    split at ht
    · cases e <;> first | rfl | (cases a <;> first | (cases hn; done) | (simp [chk] at h; done))
    · cases ht
theorem each_sole {t : Tg} {tg : Expr} {sc : Names} (ht : chkT S sc t tg = true) (env : PySem.Env) : (assignEach [tg] env).map (·.2) = [assign tg env] := by
  cases t <;> (simp only [chkT] at ht; split at ht <;> first | rfl | cases ht)
theorem swap_false {elt : Expr} {gens : List Comprehension} {scope : Scope} {pos py : Pos} {y : Str} {l : Nat} {env : PySem.Env} (h : env.kindOf y ≠ some .local ∨ (py.line == pos.line) = false) :
    swapsWith (.ListComp elt gens scope pos) (some (.Name y py)) l env = pure false := by
  have e : (env.blockKind == .function && env.kindOf y == some .local && py.line == pos.line && !(scope.names.any fun (n, k) => n == y && (k == .local || k == .cell))) = false := by
    rcases h with h | h
    · have : (env.kindOf y == some .local) = false := beq_eq_false_iff_ne.mpr h
      rw [this]
      simp
    · rw [h]
      simp
  show (pure (env.blockKind == .function && env.kindOf y == some .local && py.line == pos.line && !(scope.names.any fun (n, k) => n == y && (k == .local || k == .cell))) : Sem Bool) = _
  rw [e]
end
/-! ### new lists of the def's own -/
section
variable {g : Gx} {S : Sx} {call : Cl} {gl : Nat → Option D} {k : Nat} {X : Cx} {W : WX} {R0 H0 : Hp}
def capD (r : Res (List D)) : Res (List D) := r.bind fun l => if l.length ≤ MAXL then .ok l else .bad
def tOwn (g : Gx) (W : WX) (fl : Env → Res (List D)) : TE := fun σ H Q => ∃ R H0 ρ, Ok g R H ∧ EnvR g H0 R H σ ρ ∧ Wp g W σ R H (capD (fl ρ)) (ownQ g Q)
theorem gOwn_of {te : TE} {i : Nat} {fl : Env → Res (List D)} (hte : ∀ σ H Q, tOwn g W fl σ H Q → te σ H Q) {E : Ends} {σ : L2.St} {H : Hp} (q : tS g W R0 H0 (fun ρ => (fl ρ).bind fun l => ownS i ρ l) E σ H) : tAsg te (gName i) E σ H := by
  obtain ⟨R, ρ, ok, st, en, o⟩ := q
  have e : ((fl ρ).bind fun l => ownS i ρ l) = (capD (fl ρ)).bind fun l => .ok (.nx (setV ρ i (.own l))) := by
    unfold capD
    cases fl ρ with
    | bad => rfl
    | exc c => rfl
    | ok l =>
      simp only [Res.bind_ok, ownS]
      split <;> rfl
  replace o : OutP g W R0 H0 E ((fl ρ).bind fun l => ownS i ρ l) := o
  rw [e] at o
  refine hte _ _ _ ⟨R, H0, ρ, ok, en, (OutP.bind st o).mono fun l R' H' ok' st' ⟨st2, o2⟩ p vs R2 H2 ok2 s2 hp rp np hr => ?_⟩
  refine o2 R2 H2 _ ok2 (st2.trans s2) (EnvR.setOwn (en.step (st'.trans s2)) i hp rp (Nt.back st2 np) hr fun j hj es ev hσ => ?_)
  obtain ⟨a, us, q1, q2, _⟩ := en.own j es ev
  rw [q1] at hσ
  cases hσ
  have := st'.ext _ _ q2 (fun ps z => by cases z)
  rw [np] at this
  cases this
theorem own_lst {fs : Env → Res (List D)} {σ : L2.St} {H : Hp} {Q : VK} (q : tOwn g W fs σ H Q) : tLst (tA g W fs) σ H Q := by
  obtain ⟨R, H0, ρ, ok, en, w⟩ := q
  refine ⟨R, H0, ρ, ok, en, (Wp.bind ok w).mono fun ds R1 H1 ok1 st1 w1 vs r => ?_⟩
  by_cases hz : ds.length ≤ MAXL
  · rw [if_pos hz] at w1
    refine ⟨by rw [← r.length, ← maxl_line]; exact hz, fun p np => ?_⟩
    obtain ⟨ok2, st2, rp⟩ := ok1.layOwn (o := .lst vs) np
    exact w1 R1 H1 ok1 Step.refl p vs _ _ ok2 st2 upd_same rp np (Reps.le st2.le _ _ r)
  · rw [if_neg hz] at w1
    exact (show False from w1).elim
theorem own_list (hK : g.K = X.K) {f : Env → Res D} {σ : L2.St} {H : Hp} {Q : VK} (q : tOwn g W (fun ρ => (f ρ).bind fun x => itemsD x) σ H Q) :
    tD g W f σ H fun v H1 => ∃ a vs, [v] = [V.ref a] ∧ (SqL X.K H1 a vs ∨ SqT X.K H1 a vs) ∧ ∀ p, H1 p = none → Q (.ref p) (upd H1 p (.lst vs)) := by
  obtain ⟨R, H0, ρ, ok, en, w⟩ := q
  have e : capD ((f ρ).bind fun x => itemsD x) = (f ρ).bind fun x => capD (itemsD x) := by
    cases f ρ <;> rfl
  replace w : Wp g W σ R H (capD ((f ρ).bind fun x => itemsD x)) (ownQ g Q) := w
  rw [e] at w
  refine ⟨R, H0, ρ, ok, en, (Wp.bind ok w).mono fun d R1 H1 ok1 st1 w1 v r => ?_⟩
  have fin : ∀ {l : List D} {a : Addr} {vs : List V}, Wp g W σ R1 H1 (capD (.ok l)) (ownQ g Q) → Reps g R1 l vs → ∀ p, H1 p = none → Q (.ref p) (upd H1 p (.lst vs)) := by
    intro l a vs w2 hr p np
    by_cases hz : l.length ≤ MAXL
    · have w3 : Wp g W σ R1 H1 (if l.length ≤ MAXL then Res.ok l else .bad) (ownQ g Q) := w2
      rw [if_pos hz] at w3
      obtain ⟨ok2, st2, rp⟩ := ok1.layOwn (o := .lst vs) np
      exact w3 R1 H1 ok1 Step.refl p vs _ _ ok2 st2 upd_same rp np (Reps.le st2.le _ _ hr)
    · have w3 : Wp g W σ R1 H1 (if l.length ≤ MAXL then Res.ok l else .bad) (ownQ g Q) := w2
      rw [if_neg hz] at w3
      exact (show False from w3).elim
  cases d <;> first | exact (show False from w1).elim | skip
  · rename_i l
    simp only [Rep] at r
    obtain ⟨a, vs, rfl, hq, hr⟩ := r
    exact ⟨a, vs, rfl, .inr (hK ▸ SqT.le ok1.sub hq), fin (a := a) w1 hr⟩
  · rename_i l
    simp only [Rep] at r
    obtain ⟨a, vs, rfl, hq, hr⟩ := r
    exact ⟨a, vs, rfl, .inl (SqL.of (ok1.sub _ _ hq)), fin (a := a) w1 hr⟩
theorem tD.mono {f : Env → Res D} {σ : L2.St} {H : Hp} {Q Q' : VK} (q : tD g W f σ H Q) (h : ∀ v H', Q v H' → Q' v H') : tD g W f σ H Q' := by
  obtain ⟨R, H0, ρ, ok, en, w⟩ := q
  exact ⟨R, H0, ρ, ok, en, w.mono fun d R' H' _ _ w v r => h v H' (w v r)⟩
/-- xs.append(e) -/
theorem app_of {i : Nat} {f : Env → Res D} {E : Ends} {σ : L2.St} {H : Hp} (q : tS g W R0 H0 (fun ρ => match getV ρ i with
      | .own l => (f ρ).bind fun d => if l.length < MAXL then .ok (.nx (setV ρ i (.own (l ++ [d])))) else .bad
      | _ => .bad) E σ H) : ∃ a, σ[i]? = some (some (.ref a)) ∧ (∃ vs, H a = some (.lst vs)) ∧ tD g W f σ H fun y H1 => ∃ xs, H1 a = some (.lst xs) ∧ xs.length < sizeLine ∧ E.nx σ (upd H1 a (.lst (xs ++ [y]))) := by
  obtain ⟨R, ρ, ok, st, en, o⟩ := q
  cases ev : getV ρ i with
  | un => simp only [ev] at o; exact (show False from o).elim
  | pu d => simp only [ev] at o; exact (show False from o).elim
  | own l =>
    obtain ⟨a, vs, q1, q2, q3, q4, q5⟩ := en.own i l ev
    simp only [ev] at o
    refine ⟨a, q1, ⟨vs, q2⟩, R, H0, ρ, ok, en, (OutP.bind st o).mono fun d R1 H1 ok1 st1 ⟨st2, o2⟩ v r => ?_⟩
    have e2 := st1.ext _ _ q2 (fun ps z => by cases z)
    have e3 := st1.new _ _ q2 (fun ps z => by cases z) q3
    have e5 := Reps.le st1.le _ _ q5
    by_cases hz : l.length < MAXL
    · rw [if_pos hz] at o2
      refine ⟨vs, e2, by rw [← e5.length, ← maxl_line]; exact hz, ?_⟩
      exact o2 R1 _ σ (ok1.onLst e2 e3) (st2.onLst q4) ((en.step st1).write ev q1 e2 e3 q4 (Reps.app e5 (Reps.cons r Reps.nil)))
    · rw [if_neg hz] at o2
      exact (show False from o2).elim
theorem Reps.set {R : Hp} : ∀ {ds : List D} {vs : List V} {d : D} {v : V} (n : Nat), Reps g R ds vs → Rep g R d v → Reps g R (ds.set n d) (vs.set n v)
  | [], vs, _, _, n, r, _ => by
    simp only [Reps] at r
    subst r
    simp [Reps]
  | a :: ds, vs, d, v, 0, r, h => by
    simp only [Reps] at r
    obtain ⟨u, s, rfl, r1, r2⟩ := r
    exact Reps.cons h r2
  | a :: ds, vs, d, v, n + 1, r, h => by
    simp only [Reps] at r
    obtain ⟨u, s, rfl, r1, r2⟩ := r
    exact Reps.cons r1 (Reps.set n r2 h)
/-- xs[k] = e -/
theorem sto_of {i : Nat} {f h : Env → Res D} {E : Ends} {σ : L2.St} {H : Hp} (q : tS g W R0 H0 (fun ρ => match getV ρ i with
      | .own l => (f ρ).bind fun d => (h ρ).bind fun x => (stoD l x d).bind fun m => .ok (.nx (setV ρ i (.own m)))
      | _ => .bad) E σ H) : tD g W f σ H fun y H1 => ∃ a, σ[i]? = some (some (.ref a)) ∧ tD g W h σ H1 fun x H2 => ∃ (p : Addr) (xs : List V) (k : Int) (j : Nat), V.ref a = .ref p ∧ x = .int k ∧ H2 p = some (.lst xs) ∧ ixN xs.length k = some j ∧ E.nx σ (upd H2 p (.lst (xs.set j y))) := by
  obtain ⟨R, ρ, ok, st, en, o⟩ := q
  cases ev : getV ρ i with
  | un => simp only [ev] at o; exact (show False from o).elim
  | pu d => simp only [ev] at o; exact (show False from o).elim
  | own l =>
    obtain ⟨a, vs, q1, q2, q3, q4, q5⟩ := en.own i l ev
    simp only [ev] at o
    refine ⟨R, H0, ρ, ok, en, (OutP.bind st o).mono fun d R1 H1 ok1 st1 ⟨st2, o2⟩ v r => ⟨a, q1, R1, H0, ρ, ok1, en.step st1, (OutP.bind st2 o2).mono fun x R2 H2 ok2 st3 ⟨st4, o3⟩ w r2 => ?_⟩⟩
    have s13 := st1.trans st3
    have e2 := s13.ext _ _ q2 (fun ps z => by cases z)
    have e3 := s13.new _ _ q2 (fun ps z => by cases z) q3
    have e5 := Reps.le s13.le _ _ q5
    have rv := Rep.le st3.le _ _ r
    cases x with
    | int j =>
      simp only [Rep] at r2
      subst r2
      simp only [stoD] at o3
      cases ep : place l.length j with
      | none => rw [ep] at o3; exact (show False from o3).elim
      | some n =>
        rw [ep] at o3
        refine ⟨a, vs, j, n, rfl, rfl, e2, by rw [← e5.length]; exact ep, ?_⟩
        exact o3 R2 _ σ (ok2.onLst e2 e3) (st4.onLst q4) ((en.step s13).write ev q1 e2 e3 q4 (Reps.set n e5 rv))
    | _ => exact (show False from o3).elim
end
/-! ### try -/
section
variable {g : Gx} {S : Sx} {cN : List Str} {call : Cl} {gl : Nat → Option D} {k : Nat} {X : Cx} {W : WX} {R0 H0 : Hp}
theorem pa_its {Y : Cx} {sc : Names} (hN : S.N = Y.N) (hv : ∀ x, visB sc x = true → L2.Vis Y.env.scope x) : ∀ {l : List (Sum Nat D)} {es : List Expr}, itB S sc l es = true → PA Y es (tA g W (fun ρ => itD ρ l))
  | [], [], _ => by
    have : (fun ρ => itD ρ []) = fun _ => Res.ok [] := funext fun ρ => by simp only [itD]
    rw [this]
    exact pa_nilD
  | .inl i :: r, .Name y p :: es, h => by
    simp only [itB, Bool.and_eq_true, decide_eq_true_eq] at h
    obtain ⟨⟨⟨h1, h2⟩, h3⟩, h4⟩ := h
    have e : (fun ρ => itD ρ (.inl i :: r)) = fun ρ => ((match getV ρ i with | .pu d => Res.ok d | _ => .bad)).bind fun d => (itD ρ r).bind fun ds => .ok (d :: ds) := funext fun ρ => by
      simp only [itD]
      cases getV ρ i <;> rfl
    rw [e]
    refine pa_consD (f := fun ρ => match getV ρ i with | .pu d => Res.ok d | _ => .bad) (PE.mono (pe_var (i := i) (by rw [← hN]; exact h1) (hv _ h2) (notDbg_1 h3) (notDbg_2 h3)) fun pins s σ H Q I q => ?_) (pa_its hN hv h4) rfl
    obtain ⟨R, H0, ρ, ok, en, w⟩ := q
    cases ev : getV ρ i with
    | un => simp only [ev] at w; exact (show False from w).elim
    | own l => simp only [ev] at w; exact (show False from w).elim
    | pu d =>
      simp only [ev] at w
      obtain ⟨v, e1, r1⟩ := en.pu i d ev
      exact ⟨v, e1, w R H ok Step.refl v r1⟩
  | .inr d :: r, .Constant c j p :: es, h => by
    simp only [itB, Bool.and_eq_true] at h
    have e : (fun ρ => itD ρ (.inr d :: r)) = fun ρ => (Res.ok d).bind fun d => (itD ρ r).bind fun ds => .ok (d :: ds) := funext fun ρ => by simp only [itD]; rfl
    rw [e]
    exact pa_consD (f := fun _ => Res.ok d) (pd_lit h.1) (pa_its hN hv h.2) rfl
theorem itD_noexc {ρ : Env} : ∀ {l : List (Sum Nat D)} {c : Nat}, itD ρ l ≠ .exc c
  | [], c, z => by cases z
  | .inl i :: r, c, z => by
    simp only [itD] at z
    split at z
    · cases e : itD ρ r with
      | ok ds => rw [e] at z; cases z
      | exc c' => exact itD_noexc e
      | bad => rw [e] at z; cases z
    · cases z
  | .inr d :: r, c, z => by
    simp only [itD] at z
    cases e : itD ρ r with
    | ok ds => rw [e] at z; cases z
    | exc c' => exact itD_noexc e
    | bad => rw [e] at z; cases z
theorem Wp.sw {α : Type} {W' : WX} {σ : L2.St} {R H : Hp} {r : Res α} {Q : α → Hp → Hp → Prop} (hr : ∀ {c}, r ≠ .exc c) (w : Wp g W σ R H r Q) : Wp g W' σ R H r Q := by
  cases r with
  | ok a => exact w
  | exc c => exact absurd rfl hr
  | bad => exact w
theorem hands_ok {sc : Names} (h : Here g S call gl k X) (hs : ScOk X sc) (hx : ExsF g X cN) {n : Nat} (hn : n ≤ cN.length) : ∀ {hd : List (Nat × List (Sum Nat D))} {hds : List ExceptHandler}, handsB S cN sc hd hds = true →
    ∃ l, HdsOk X hds l ∧ ∀ (c : Nat) (D : Ends) (σ : L2.St) (H R : Hp) (ρ : Env), c < n → Ok g R H → Step R0 H0 R H → EnvR g H0 R H σ ρ → OutP g W R0 H0 D (handD ρ c hd) → wMany X.K W D l (g.cv c) none σ H
  | [], [], _ => ⟨[], .nil, fun c D σ H R ρ hc ok st en o => o R H σ ok st⟩
  | (c1, it) :: r, e :: hds, hb => by
    unfold handsB at hb
    split at hb
    · cases ‹_ :: _ = []›
    · rename_i c l r' x np es x1 tp rp hp hds' e1 e2
      cases e1
      cases e2
      simp only [Bool.and_eq_true, decide_eq_true_eq] at hb
      obtain ⟨⟨⟨⟨b1, b2⟩, b3⟩, b4⟩, b5⟩ := hb
      obtain ⟨l', p1, p2⟩ := hands_ok h hs hx hn b5
      obtain ⟨C, q1, q2, _⟩ := (hx.1 c1 x b1).ex
      refine ⟨(g.cv c1, fun _ _ _ => tRet (tTup (tA g W0 (fun ρ => itD ρ it)))) :: l', .cons ⟨hs.glb _ b2, notDbg_1 b3, .inl (by rw [q1]; exact q2)⟩ (fun a oe cls d pn hz hv => pss_one (ps_ret (pe_tup (pa_its (Y := X.suite a ((a, oe) :: pn)) h.N hs.vis b4)))) p1, ?_⟩
      intro c D σ H R ρ hc ok st en o
      obtain ⟨y, hy⟩ : ∃ y, cN[c]? = some y := ⟨_, List.getElem?_eq_getElem (by omega)⟩
      refine ⟨decide (c = c1), hx.2 c c1 y x hy b1, fun hb a na => ?_, fun hb => ?_⟩
      · have hcc := of_decide_eq_true hb
        subst hcc
        simp only [handD, ↓reduceIte] at o
        refine ⟨R, H0, ρ, ok, en, ?_⟩
        have w1 : Wp g W σ R H (itD ρ it) _ := OutP.bind st o
        refine Wp.sw itD_noexc (w1.mono fun ds R1 H1 ok1 st1 ⟨st2, o2⟩ vs r => ?_)
        by_cases hz : ds.length ≤ MAXL
        · rw [if_pos hz] at o2
          refine ⟨by rw [← r.length, ← maxl_line]; exact hz, fun p np => ?_⟩
          obtain ⟨ok', st'⟩ := ok1.lay (o := .tup vs) np (fun ps z => by cases z)
          refine o2 _ _ _ ok' (st2.trans st') ?_
          simp only [Rep]
          exact ⟨p, _, rfl, SqT.of upd_same, Reps.le st'.le _ _ r⟩
        · rw [if_neg hz] at o2
          exact (show False from o2).elim
      · have hcc := of_decide_eq_false hb
        rw [handD, if_neg (fun z : c1 = c => hcc z.symm)] at o
        exact p2 c D σ H R ρ hc ok st en o
    · cases hb
  | [], _ :: _, hb => by cases hb
  | _ :: _, [], hb => by cases hb
theorem ps_trysD {sc : Names} (h : Here g S call gl k X) (hs : ScOk X sc) (tk : Takes X W) (hk : FunX X) (hx : ExsF g X cN) {tg v : Expr} {apos pos : Pos} {h0 : ExceptHandler} {hds : List ExceptHandler} {t : Tg} {n : Nat} {hd : List (Nat × List (Sum Nat D))} {f : Env → Res D}
    (hb : ∀ (W' : WX) (pn : List (Addr × Obj)) (xe : Value → Shared → Prop), Takes (X.tr pn xe) W' → PS (X.tr pn xe) (.Assign [tg] v apos) (tAsg (tD g W' f) (gT g t))) (hn : n ≤ cN.length) (hh : handsB S cN sc hd (h0 :: hds) = true) :
    PS X (.Try [.Assign [tg] v apos] (h0 :: hds) [] [] pos) (tS g W R0 H0 fun ρ => tryD t n hd ρ (f ρ)) := by
  obtain ⟨l, p1, p2⟩ := hands_ok (W := W) (R0 := R0) (H0 := H0) h hs hx hn hh
  refine PS.mono (ps_try_many (tb := fun W' => tAsg (tD g W' f) (gT g t)) hk.2.1 hk.2.2 tk (fun W' pn xe tk' _ => pss_one (hb W' pn xe tk')) p1) fun E σ H q => ?_
  obtain ⟨R, ρ, ok, st, en, o⟩ := q
  refine ⟨R, H0, ρ, ok, en, ?_⟩
  replace o : OutP g W R0 H0 E (tryD t n hd ρ (f ρ)) := o
  cases ef : f ρ with
  | bad => rw [ef] at o; exact (show False from o).elim
  | ok d =>
    rw [ef] at o
    intro R1 H1 ok1 st1 v r
    have st2 := st.trans st1
    replace o : OutP g W R0 H0 E ((storeT t d ρ).bind fun ρ' => .ok (.nx ρ')) := o
    cases e : storeT t d ρ with
    | ok ρ' =>
      rw [e] at o
      exact ⟨R1, H0, ρ, d, ρ', ok1, en.step st1, r, e, fun σ' en' _ _ => o R1 H1 σ' ok1 st2 en'⟩
    | exc c =>
      exfalso
      cases t <;> cases d <;> simp only [storeT] at e <;> first | (cases e; done) | (split at e <;> cases e)
    | bad => rw [e] at o; exact (show False from o).elim
  | exc c =>
    rw [ef] at o
    replace o : OutP g W R0 H0 E (if c < n then handD ρ c hd else .bad) := o
    by_cases hc : c < n
    · rw [if_pos hc] at o
      exact fun R1 H1 ok1 st1 => p2 c E σ H1 R1 ρ hc ok1 (st.trans st1) (en.step st1) o
    · rw [if_neg hc] at o
      exact (show False from o).elim
end
section
variable {g : Gx} {S : Sx} {cN : List Str} {call : Cl} {gl : Nat → Option D} {k : Nat}
theorem lit_test {X : Cx} {sc : Names} {W : WX} {c : Ex} {e : Expr} (h : Here g S call gl k X) (hs : ScOk X sc) (tk : Takes X W) (hl : litIn c e = true) (hc : chk S c sc e = true) : PTt X e (tT g W fun ρ => (den call gl c ρ).bind truth) := by
  unfold litIn at hl
  split at hl
  · rename_i o a t l op z j p0 pos
    simp only [chk, Bool.and_eq_true] at hc
    have ha := (soundE a X sc _ W h hs tk hc.1.2).pe
    have hz : z = mkS t := mkS_of (by simpa only [litB] using hc.2)
    subst hz
    have hd : den call gl (.cmp o a (.lit (.str t))) = fun ρ => (den call gl a ρ).bind fun x => ((fun _ => Res.ok (D.str t)) ρ : Res D).bind fun y => cmpD o x y := funext fun ρ => by simp only [den, Res.bind_ok]
    rw [hd]
    exact PTt.mono (pt_cmpT (tb := tD g W fun _ => .ok (.str t)) (cop_ok h hc.1.1) ha fun σ H Q q => by
      obtain ⟨R, H0, ρ, ok, en, w⟩ := q
      exact w R H ok Step.refl (V.str (mkS t)) (by simp [Rep])) fun σ H Q q => tTest_of (t := tOp (rK g (cmpD o)) (tD g W (den call gl a)) (tD g W fun _ => .ok (.str t))) (fun _ _ _ q => tOp_of (cmpD_noexc o) q) q
  · cases hl
theorem meth_key {X : Cx} {W : WX} {m : Mth} {f : Env → Res D} {fa : Env → Res (List D)} (hK : g.K = X.K) {σ : L2.St} {H : Hp} {Q : VK} (q : tD g W (fun ρ => (f ρ).bind fun x => if mthTy m x = true then (fa ρ).bind fun ds => mthD m x ds else .bad) σ H Q) : tBM X.K (mthT m) (rM g m) (tD g W f) (tA g W fa) σ H Q := by
  obtain ⟨R, H0, ρ, ok, en, w⟩ := q
  refine ⟨R, H0, ρ, ok, en, (Wp.bind ok w).mono fun x R1 H1 ok1 st1 w1 v1 r1 => ?_⟩
  by_cases hT : mthTy m x = true
  · rw [if_pos hT] at w1
    refine ⟨tyV_mth ok1 r1 hT, R1, H0, ρ, ok1, en.step st1, (Wp.bind ok1 w1).mono fun ds R2 H2 ok2 st2 w2 vs r2 => ?_⟩
    cases e : mthD m x ds with
    | ok d =>
      rw [e] at w2
      exact ⟨R2, x, ds, d, ok2, Rep.le st2.le _ _ r1, r2, e, fun R' H' v o s r => w2 R' H' o s v r⟩
    | exc c => exact absurd e (mthD_noexc _ _ _ c)
    | bad => rw [e] at w2; exact (show False from w2).elim
  · rw [if_neg hT] at w1
    exact (show False from w1).elim
theorem give_tok {X : Cx} {sc : Names} {W : WX} {R0 H0 : Hp} {a : Sm} {s : Stmt} (h : Here g S call gl k X) (hs : ScOk X sc) (tk : Takes X W) (hg : giveT a s = true) (hc : chkS S cN a sc s = true) : PSg X s (tS g W R0 H0 (denS call gl a)) := by
  unfold giveT at hg
  split at hg
  · rename_i t o c b tg o' nm apos c' j c0 cpos ix pos2 pos
    have hd : denS call gl (.set t (.idx (.meth .split o (.cons (.lit (.str c)) .nil)) b)) = fun ρ => (den call gl (.idx (.meth .split o (.cons (.lit (.str c)) .nil)) b) ρ).bind fun d => (storeT t d ρ).bind fun ρ' => .ok (.nx ρ') := funext fun ρ => by simp only [denS]
    rw [hd]
    simp only [chkS, Bool.and_eq_true] at hc
    obtain ⟨⟨⟨h1, h2⟩, h3⟩, h4⟩ := hc
    have h4' := h4
    simp only [chk, Bool.and_eq_true] at h4'
    obtain ⟨⟨hm, hsl⟩, hb⟩ := h4'
    simp only [chks, chk, Bool.and_eq_true, decide_eq_true_eq] at hm
    obtain ⟨⟨⟨⟨⟨hx, _⟩, hl⟩, _⟩, ho⟩, hlit, _⟩ := hm
    subst hx
    have hz : c' = mkS c := mkS_of (by simpa only [litB] using hlit)
    subst hz
    have hd2 : den call gl (.idx (.meth .split o (.cons (.lit (.str c)) .nil)) b) = fun ρ => ((fun ρ => (den call gl o ρ).bind fun x => if mthTy .split x = true then ((fun _ => Res.ok [D.str c]) ρ : Res (List D)).bind fun ds => mthD .split x ds else .bad) ρ).bind fun x => (den call gl b ρ).bind fun y => idxD x y := funext fun ρ => by
      simp only [den, dens, Res.bind_ok]
    have inner : PEg X (.Call (.Attribute o' (strN (mthN .split)) apos) [.Constant (.str (mkS c)) j c0] [] cpos) (tD g W fun ρ => (den call gl o ρ).bind fun x => if mthTy .split x = true then ((fun _ => Res.ok [D.str c]) ρ : Res (List D)).bind fun ds => mthD .split x ds else .bad) :=
      PEg.mono (peg_bm (t := tA g W fun _ => .ok [.str c]) PySem.F.plainAttrs_str PySem.F.slot_str_split PySem.F.type_str_split mt_splitD (soundE o X sc _ W h hs tk ho).pe (fun σ H Q q => by
        obtain ⟨R, H0, ρ, ok, en, w⟩ := q
        exact w R H ok Step.refl [V.str (mkS c)] (Reps.cons (by simp [Rep]) Reps.nil)) (base_ok ho _ _ _) (few_ok rfl rfl (by decide)) hl) fun σ H Q q => meth_key h.K q
    have outer := PEg.mono (peg_ix (pos := pos2) (ok_idx h.K) inner (soundE b X sc _ W h hs tk hb).pe (ix_plain (chk_plain hb))) fun σ H Q q => tOp_of idxD_noexc q
    rw [← hd2] at outer
    exact PSg.mono (psg_asg outer (pg_of h.K h.calm h.N h.nd hs h3) (swap_sole2 h3 h4 h1 _ _) (stores_none h3 h4 h2 _) (each_sole h3 _)) fun E σ H q => tAsg_of (fun _ _ _ z => z) q
  · cases hg
theorem set_tok {X : Cx} {sc : Names} {W : WX} {R0 H0 : Hp} {a : Sm} {s : Stmt} (h : Here g S call gl k X) (hs : ScOk X sc) (tk : Takes X W) (hc : setTk S a sc s = true) : PST X s (tS g W R0 H0 (denS call gl a)) := by
  unfold setTk at hc
  split at hc
  · rename_i i a x px f es p pos
    have hd : denS call gl (.set (.name i) a) = fun ρ => (den call gl a ρ).bind fun d => (storeT (.name i) d ρ).bind fun ρ' => .ok (.nx ρ') := funext fun ρ => by simp only [denS]
    rw [hd]
    simp only [Bool.and_eq_true, decide_eq_true_eq] at hc
    obtain ⟨⟨h1, h2⟩, h3⟩ := hc
    have ht : chkT S sc (.name i) (.Name x px) = true := by simp only [chkT, Bool.and_eq_true, decide_eq_true_eq]; exact ⟨h1, h2⟩
    exact PST.mono (pst_asg (soundX a X sc _ W h hs tk h3) (pg_of h.K h.calm h.N h.nd hs ht) rfl rfl rfl) fun E σ H q => tAsg_of (fun _ _ _ z => z) q
  · cases hc
mutual
theorem soundS : ∀ (a : Sm) (X : Cx) (sc : Names) (s : Stmt) (W : WX) (R0 H0 : Hp), Here g S call gl k X → ScOk X sc → (X.env.scope.names = sc) → Takes X W → PassesOwn (model X.prog X.w) X.A X.env X.xe → FunX X → ExsF g X cN →
    chkS S cN a sc s = true → PS X s (tS g W R0 H0 (denS call gl a))
  | .set t a, X, sc, s, W, R0, H0, h, hs, hsc, tk, hp, hk, hx, hc => by
    have hd : denS call gl (.set t a) = fun ρ => (den call gl a ρ).bind fun d => (storeT t d ρ).bind fun ρ' => .ok (.nx ρ') := funext fun ρ => by simp only [denS]
    rw [hd]
    simp only [chkS] at hc
    split at hc
    · simp only [Bool.and_eq_true] at hc
      obtain ⟨⟨⟨h1, h2⟩, h3⟩, h4⟩ := hc
      exact PS.mono (ps_asg (soundE a X sc _ W h hs tk h4).pe (pg_of h.K h.calm h.N h.nd hs h3) (swap_sole2 h3 h4 h1 _ _) (stores_none h3 h4 h2 _) (each_sole h3 _)) fun E σ H q => tAsg_of (fun _ _ _ z => z) q
    · cases hc
  | .setc i a, X, sc, s, W, R0, H0, h, hs, hsc, tk, hp, hk, hx, hc => by
    have hd : denS call gl (.setc i a) = fun ρ => (den call gl a ρ).bind fun d => (storeT (.name i) d ρ).bind fun ρ' => .ok (.nx ρ') := funext fun ρ => by simp only [denS]
    rw [hd]
    simp only [chkS] at hc
    split at hc
    · rename_i y py elt gens scope pos spos
      simp only [Bool.and_eq_true, decide_eq_true_eq] at hc
      obtain ⟨⟨⟨hi, h1⟩, hl⟩, h2⟩ := hc
      rw [h.N] at hi
      obtain ⟨l1, l2⟩ := hs.loc y hl
      split at h2
      · rename_i hcond
        simp only [Bool.and_eq_true, decide_eq_true_eq, Bool.not_eq_true'] at hcond
        obtain ⟨⟨c1, c2⟩, c3⟩ := hcond
        have hloc : X.env.scope.names.lookup y = some .local := by rw [hsc]; exact c1
        cases a <;> simp only [chk] at h1 <;> first | (cases h1; done) | skip
        rename_i own t it c a
        split at h1
        · rename_i elt tg iter ifs scope pos hh
          cases hh
          have hfull : chk S (.comp own t it c a) sc (.ListComp elt [⟨tg, iter, ifs, 0⟩] scope pos) = true := by simp only [chk]; exact h1
          obtain ⟨ow, e1, bk, hit, hg, ht, he, hf, sin⟩ := comp_parts h hs tk hfull
          subst e1
          have hd2 : den call gl (.comp (ow.map (·.2)) t it c a) = fun ρ => (deni call gl it ρ).bind fun ds => (compD (turnD t (ow.map (·.2)) (denc call gl c) (den call gl a) ρ) ds).bind fun l => if l.length ≤ MAXL then .ok (.lst l) else .bad := funext fun ρ => by
            simp only [den]
            rfl
          rw [hd2]
          exact PS.mono (ps_setLc h.calm h.nd hi hloc (sw_true hk.1 hloc c2 c3) hit bk hg ht he hf) fun E σ H q => gName_of (fun σ H Q q => pd_comp h hit bk hg ht he hf sin σ H Q q) q
        · cases h1
      · rename_i hcond
        have hsw : swapsWith (.ListComp elt gens scope pos) (some (.Name y py)) spos.line X.env = pure false := swap_false (by
          rw [Bool.or_eq_true, decide_eq_true_eq] at h2
          rcases h2 with z | z
          · left
            show X.env.scope.names.lookup y ≠ _
            rw [hsc, z]
            decide
          · right
            simpa using z)
        exact PS.mono (ps_set (i := i) h.nd hi l1 (soundE a X sc _ W h hs tk h1).pe hsw l2) fun E σ H q => gName_of (fun _ _ _ z => z) q
    · cases hc
  | .ret a, X, sc, s, W, R0, H0, h, hs, hsc, tk, hp, hk, hx, hc => by
    have hd : denS call gl (.ret a) = fun ρ => (den call gl a ρ).bind fun d => .ok (.rt d) := funext fun ρ => by simp only [denS]
    rw [hd]
    simp only [chkS] at hc
    split at hc
    · exact ps_retD (soundE a X sc _ W h hs tk hc).pe
    · cases hc
  | .exp a, X, sc, s, W, R0, H0, h, hs, hsc, tk, hp, hk, hx, hc => by
    have hd : denS call gl (.exp a) = fun ρ => (den call gl a ρ).bind fun _ => .ok (.nx ρ) := funext fun ρ => by simp only [denS]
    rw [hd]
    simp only [chkS] at hc
    split at hc
    · simp only [Bool.and_eq_true] at hc
      exact ps_expD (soundE a X sc _ W h hs tk hc.2).pe (swap_none hc.2 hc.1 _ _ _)
    · cases hc
  | .iff c a b, X, sc, s, W, R0, H0, h, hs, hsc, tk, hp, hk, hx, hc => by
    have hd : denS call gl (.iff c a b) = fun ρ => (den call gl c ρ).bind fun d => (truth d).bind fun t => if t = true then denSs call gl a ρ else denSs call gl b ρ := funext fun ρ => by simp only [denS]
    rw [hd]
    simp only [chkS] at hc
    split at hc
    · simp only [Bool.and_eq_true, Bool.or_eq_true] at hc
      rcases hc.1.2 with h1 | h1
      · exact ps_ifD (soundE c X sc _ W h hs tk hc.1.1).pt (soundSs a X sc _ W R0 H0 h hs hsc tk hp hk hx h1) (soundSs b X sc _ W R0 H0 h hs hsc tk hp hk hx hc.2)
      · exact ps_ifTD (lit_test h hs tk h1.1 hc.1.1) (soundSsT a X sc _ W R0 H0 h hs hsc tk hp hk hx h1.2) (soundSs b X sc _ W R0 H0 h hs hsc tk hp hk hx hc.2)
    · cases hc
  | .while_ c b, X, sc, s, W, R0, H0, h, hs, hsc, tk, hp, hk, hx, hc => by
    have hd : denS call gl (.while_ c b) = fun ρ => whileD (fun ρ => (den call gl c ρ).bind truth) (fun ρ => denSs call gl b ρ) ρ := funext fun ρ => by simp only [denS]
    rw [hd]
    simp only [chkS] at hc
    split at hc
    · simp only [Bool.and_eq_true] at hc
      exact ps_whileD hp (soundE c X sc _ W h hs tk hc.1).pt (soundSs b X sc _ W R0 H0 h hs hsc tk hp hk hx hc.2)
    · cases hc
  | .for_ t it b, X, sc, s, W, R0, H0, h, hs, hsc, tk, hp, hk, hx, hc => by
    have hd : denS call gl (.for_ t it b) = fun ρ => (deni call gl it ρ).bind fun ds => forD t (fun ρ => denSs call gl b ρ) ds ρ := funext fun ρ => by simp only [denS]
    rw [hd]
    simp only [chkS] at hc
    split at hc
    · simp only [Bool.and_eq_true] at hc
      exact ps_forD hp h.calm (soundI it X sc _ W _ h hs tk hc.1.2.1 hc.1.2.2) (pg_of h.K h.calm h.N h.nd hs hc.1.1) (fun R1 => soundSs b X sc _ W R1 H0 h hs hsc tk hp hk hx hc.2) (chki_fold hc.1.2.1)
    · cases hc
  | .raise c, X, sc, s, W, R0, H0, h, hs, hsc, tk, hp, hk, hx, hc => by
    have hd : denS call gl (.raise c) = fun _ => .exc c := funext fun ρ => by simp only [denS]
    rw [hd]
    simp only [chkS] at hc
    split at hc
    · simp only [Bool.and_eq_true, decide_eq_true_eq] at hc
      obtain ⟨C, e1, e2, e3, e4, e5⟩ := (hx.1 c _ hc.1.1).ex
      exact PS.mono (ps_raise h.calm tk (pmk_own PySem.F.excBase_ValueError e3 e2 e4 e5 (hs.glb _ hc.1.2) (notDbg_1 hc.2))) fun E σ H q => by
        obtain ⟨R, ρ, ok, st, en, o⟩ := q
        have := o R H σ ok st
        rw [e1] at this
        exact this
    · cases hc
  | .pass, X, sc, s, W, R0, H0, h, hs, hsc, tk, hp, hk, hx, hc => by
    have hd : denS call gl .pass = fun ρ => .ok (.nx ρ) := funext fun ρ => by simp only [denS]
    rw [hd]
    simp only [chkS] at hc
    split at hc
    · exact ps_passD
    · cases hc
  | .trys t e n hd, X, sc, s, W, R0, H0, h, hs, hsc, tk, hp, hk, hx, hc => by
    have hde : denS call gl (.trys t e n hd) = fun ρ => tryD t n hd ρ (den call gl e ρ) := funext fun ρ => by simp only [denS]
    rw [hde]
    simp only [chkS] at hc
    split at hc
    · simp only [Bool.and_eq_true, decide_eq_true_eq] at hc
      obtain ⟨⟨⟨⟨⟨h1, h2⟩, h3⟩, h4⟩, h5⟩, h6⟩ := hc
      exact ps_trysD h hs tk hk hx (fun W' pn xe tk' => ps_asg (soundE e (X.tr pn xe) sc _ W' ⟨h.K, h.mg, h.N, h.fN, h.calm, h.nd, h.room, h.fns, h.gls, h.blt, h.dct, h.kk, h.lam⟩ ⟨hs.vis, hs.glb, hs.loc, hs.clf⟩ tk' h4).pe
        (pg_of (X := X.tr pn xe) h.K h.calm h.N h.nd ⟨hs.vis, hs.glb, hs.loc, hs.clf⟩ h3) (swap_sole h4 h1 _ _ _) (stores_none h3 h4 h2 _) (each_sole h3 _)) h5 h6
    · cases hc
  | .ownD i l, X, sc, s, W, R0, H0, h, hs, hsc, tk, hp, hk, hx, hc => by
    have hde : denS call gl (.ownD i l) = fun ρ => (dens call gl l ρ).bind fun ds => ownS i ρ ds := funext fun ρ => by simp only [denS]
    rw [hde]
    simp only [chkS] at hc
    split at hc
    · simp only [Bool.and_eq_true, decide_eq_true_eq] at hc
      obtain ⟨⟨h1, h2⟩, h3⟩ := hc
      rw [h.N] at h1
      obtain ⟨l1, l2⟩ := hs.loc _ h2
      exact PS.mono (ps_set (i := i) h.nd h1 l1 (pe_lst (soundL l X sc _ W h hs tk h3)) rfl l2) fun E σ H q => gOwn_of (fun σ H Q q => own_lst q) q
    · cases hc
  | .ownL i a, X, sc, s, W, R0, H0, h, hs, hsc, tk, hp, hk, hx, hc => by
    have hde : denS call gl (.ownL i a) = fun ρ => ((den call gl a ρ).bind fun x => itemsD x).bind fun l => ownS i ρ l := funext fun ρ => by
      simp only [denS]
      cases den call gl a ρ <;> rfl
    rw [hde]
    simp only [chkS] at hc
    split at hc
    · simp only [Bool.and_eq_true, decide_eq_true_eq] at hc
      obtain ⟨⟨⟨⟨⟨hx', h1⟩, h2⟩, h3⟩, h4⟩, h5⟩ := hc
      subst hx'
      rw [h.N] at h3
      obtain ⟨l1, l2⟩ := hs.loc _ h4
      exact PS.mono (ps_set (i := i) h.nd h3 l1 (pe_callTy call_list_of (hs.glb _ h1) (h.blt _ h2) (by decide +kernel) (pa_cons (soundE a X sc _ W h hs tk h5).pe pa_nil (hs := star_plain (chk_plain h5) _ _)) (by decide +kernel) (by decide +kernel) (star_plain (chk_plain h5) _ _) rfl) rfl l2) fun E σ H q => gOwn_of (te := tCB (fun xs H Q => ∃ p ys, xs = [V.ref p] ∧ (SqL X.K H p ys ∨ SqT X.K H p ys) ∧ ∀ l, H l = none → Q (.ref l) (upd H l (.lst ys))) (tCons (tD g W (den call gl a)) tNil)) (fl := fun ρ => (den call gl a ρ).bind fun x => itemsD x) (fun σ H Q q => tD.mono (own_list h.K q) fun v H1 z => z) q
    · cases hc
  | .ownC i own t it c a, X, sc, s, W, R0, H0, h, hs, hsc, tk, hp, hk, hx, hc => by
    simp only [chkS] at hc
    split at hc
    · rename_i y py elt gens scope pos spos
      simp only [Bool.and_eq_true, decide_eq_true_eq] at hc
      obtain ⟨⟨⟨hi, h1⟩, hl⟩, h2⟩ := hc
      rw [h.N] at hi
      obtain ⟨l1, l2⟩ := hs.loc y hl
      have h1' := h1
      simp only [chk] at h1'
      split at h1'
      · rename_i elt' tg iter ifs scope' pos' hh
        cases hh
        obtain ⟨ow, e1, bk, hit, hg, ht, he, hf, sin⟩ := comp_parts h hs tk h1
        subst e1
        have hd2 : denS call gl (.ownC i (ow.map (·.2)) t it c a) = fun ρ => ((deni call gl it ρ).bind fun ds => compD (turnD t (ow.map (·.2)) (denc call gl c) (den call gl a) ρ) ds).bind fun l => ownS i ρ l := funext fun ρ => by
          simp only [denS]
          cases deni call gl it ρ <;> rfl
        rw [hd2]
        have hte : ∀ σ H Q, tOwn g W (fun ρ => (deni call gl it ρ).bind fun ds => compD (turnD t (ow.map (·.2)) (denc call gl c) (den call gl a) ρ) ds) σ H Q → tLc (tI g W (deni call gl it)) (gT g t) (tT g W0 (denc call gl c)) (tD g W0 (den call gl a)) (ow.map (·.2)) σ H Q := by
          rintro σ H Q ⟨R, H0, ρ, ok, en, w⟩
          refine pd_compO h hit bk hg ht he hf sin σ H Q ⟨R, H0, ρ, ok, en, ?_⟩
          have e : capD ((deni call gl it ρ).bind fun ds => compD (turnD t (ow.map (·.2)) (denc call gl c) (den call gl a) ρ) ds) = (deni call gl it ρ).bind fun ds => (compD (turnD t (ow.map (·.2)) (denc call gl c) (den call gl a) ρ) ds).bind fun l => if l.length ≤ MAXL then .ok l else .bad := by
            unfold capD
            cases deni call gl it ρ <;> rfl
          rw [← e]
          exact w
        split at h2
        · rename_i hcond
          simp only [Bool.and_eq_true, decide_eq_true_eq, Bool.not_eq_true'] at hcond
          obtain ⟨⟨c1, c2⟩, c3⟩ := hcond
          have hloc : X.env.scope.names.lookup y = some .local := by rw [hsc]; exact c1
          exact PS.mono (ps_setLc h.calm h.nd hi hloc (sw_true hk.1 hloc c2 c3) hit bk hg ht he hf) fun E σ H q => gOwn_of hte q
        · have hsw : swapsWith (.ListComp elt [⟨tg, iter, ifs, 0⟩] scope pos) (some (.Name y py)) spos.line X.env = pure false := swap_false (by
            rw [Bool.or_eq_true, decide_eq_true_eq] at h2
            rcases h2 with z | z
            · left
              show X.env.scope.names.lookup y ≠ _
              rw [hsc, z]
              decide
            · right
              simpa using z)
          exact PS.mono (ps_set (i := i) h.nd hi l1 (pe_lc h.calm h.nd hit bk hg ht he hf) hsw l2) fun E σ H q => gOwn_of hte q
      · cases h1'
    · cases hc
  | .app i a, X, sc, s, W, R0, H0, h, hs, hsc, tk, hp, hk, hx, hc => by
    have hde : denS call gl (.app i a) = fun ρ => match getV ρ i with
      | .own l => (den call gl a ρ).bind fun d => if l.length < MAXL then .ok (.nx (setV ρ i (.own (l ++ [d])))) else .bad
      | _ => .bad := funext fun ρ => by first | (simp only [denS]; done) | (simp only [denS]; rfl)
    rw [hde]
    simp only [chkS] at hc
    split at hc
    · simp only [Bool.and_eq_true, decide_eq_true_eq] at hc
      obtain ⟨⟨⟨⟨⟨hx', h1⟩, h2⟩, h3⟩, h4⟩, h5⟩ := hc
      subst hx'
      rw [h.N] at h2
      refine PS.mono (ps_expr (pe_bm PySem.F.plainAttrs_list PySem.F.slot_list_append PySem.F.type_list_append mt_append (pe_var (i := i) h2 (hs.vis _ h3) (notDbg_1 h4) (notDbg_2 h4)) (pa_cons (soundE a X sc _ W h hs tk h5).pe pa_nil (hs := star_plain (chk_plain h5) _ _)) rfl (few_ok (chk_plain h5) rfl (by decide)) h1 (star_plain (chk_plain h5) _ _) rfl) rfl) fun E σ H q => ?_
      obtain ⟨b, q1, ⟨vs, q2⟩, q3⟩ := app_of q
      exact ⟨.ref b, q1, .inl ⟨rfl, vs, SqL.of q2⟩, tD.mono q3 fun v H' ⟨xs, z1, z2, z3⟩ => ⟨b, xs, v, rfl, rfl, z1, z2, z3⟩⟩
    · cases hc
  | .sto i b a, X, sc, s, W, R0, H0, h, hs, hsc, tk, hp, hk, hx, hc => by
    have hde : denS call gl (.sto i b a) = fun ρ => match getV ρ i with
      | .own l => (den call gl a ρ).bind fun d => (den call gl b ρ).bind fun x => (stoD l x d).bind fun m => .ok (.nx (setV ρ i (.own m)))
      | _ => .bad := funext fun ρ => by first | (simp only [denS]; done) | (simp only [denS]; rfl)
    rw [hde]
    simp only [chkS] at hc
    split at hc
    · simp only [Bool.and_eq_true, decide_eq_true_eq] at hc
      obtain ⟨⟨⟨⟨⟨⟨h1, h2⟩, h3⟩, h4⟩, h5⟩, h6⟩, h7⟩ := hc
      rename_i y py ix ipos e spos
      rw [h.N] at h3
      have hsl : isSlice ix = false := by simpa using h2
      refine PS.mono (ps_asg (soundE a X sc _ W h hs tk h7).pe (pg_sub (pe_var (i := i) h3 (hs.vis _ h4) (notDbg_1 h5) (notDbg_2 h5)) (soundE b X sc _ W h hs tk h6).pe set_list (by intro v; cases ix <;> first | rfl | cases hsl)) (swap_sole h7 h1 _ _ _) (by rfl) (by rfl)) fun E σ H q => ?_
      exact tD.mono (sto_of q) fun v H1 ⟨c, z1, z2⟩ => ⟨.ref c, z1, tD.mono z2 fun x H2 ⟨p, xs, kk, j, w1, w2, w3, w4, w5⟩ => ⟨p, xs, kk, j, w1, w2, w3, w4, w5⟩⟩
    · cases hc
  | .frz i, X, sc, s, W, R0, H0, h, hs, hsc, tk, hp, hk, hx, hc => by simp [chkS] at hc
  | .stuck, X, sc, s, W, R0, H0, h, hs, hsc, tk, hp, hk, hx, hc => by
    have hde : denS call gl .stuck = fun ρ => .bad := funext fun ρ => by simp only [denS]
    rw [hde]
    refine ⟨fun pins s σ H D I q => ?_⟩
    obtain ⟨R, ρ, ok, st, en, o⟩ := q
    exact (show False from o).elim
theorem soundSsT : ∀ (a : Sms) (X : Cx) (sc : Names) (s : List Stmt) (W : WX) (R0 H0 : Hp), Here g S call gl k X → ScOk X sc → (X.env.scope.names = sc) → Takes X W → PassesOwn (model X.prog X.w) X.A X.env X.xe → FunX X → ExsF g X cN →
    chkSsT S cN a sc s = true → PSsT X s (tS g W R0 H0 (denSs call gl a))
  | .nil, X, sc, s, W, R0, H0, h, hs, hsc, tk, hp, hk, hx, hc => by
    have hd : denSs call gl .nil = fun ρ => .ok (.nx ρ) := funext fun ρ => by simp only [denSs]
    rw [hd]
    cases s with
    | nil => exact psst_nilD
    | cons e es => simp [chkSsT] at hc
  | .cons a r, X, sc, s, W, R0, H0, h, hs, hsc, tk, hp, hk, hx, hc => by
    have hd : denSs call gl (.cons a r) = fun ρ => (denS call gl a ρ).bind fun o => match o with
      | .nx ρ' => denSs call gl r ρ'
      | .rt d => .ok (.rt d) := funext fun ρ => by first | (simp only [denSs]; done) | (simp only [denSs]; rfl)
    rw [hd]
    cases s with
    | nil => simp [chkSsT] at hc
    | cons e es =>
      simp only [chkSsT, Bool.and_eq_true, Bool.or_eq_true] at hc
      refine psst_consD ?_ (soundSsT r X sc es W R0 H0 h hs hsc tk hp hk hx hc.2)
      rcases hc.1 with h1 | h1
      · exact PST.of (soundS a X sc e W R0 H0 h hs hsc tk hp hk hx h1)
      · exact set_tok h hs tk h1
theorem soundSs : ∀ (a : Sms) (X : Cx) (sc : Names) (s : List Stmt) (W : WX) (R0 H0 : Hp), Here g S call gl k X → ScOk X sc → (X.env.scope.names = sc) → Takes X W → PassesOwn (model X.prog X.w) X.A X.env X.xe → FunX X → ExsF g X cN →
    chkSs S cN a sc s = true → PSs X s (tS g W R0 H0 (denSs call gl a))
  | .nil, X, sc, s, W, R0, H0, h, hs, hsc, tk, hp, hk, hx, hc => by
    have hd : denSs call gl .nil = fun ρ => .ok (.nx ρ) := funext fun ρ => by simp only [denSs]
    rw [hd]
    cases s with
    | nil => exact pss_nilD
    | cons e es => simp [chkSs] at hc
  | .cons a r, X, sc, s, W, R0, H0, h, hs, hsc, tk, hp, hk, hx, hc => by
    have hd : denSs call gl (.cons a r) = fun ρ => (denS call gl a ρ).bind fun o => match o with
      | .nx ρ' => denSs call gl r ρ'
      | .rt d => .ok (.rt d) := funext fun ρ => by first | (simp only [denSs]; done) | (simp only [denSs]; rfl)
    rw [hd]
    by_cases hz : ∃ i, a = .frz i
    · obtain ⟨i, rfl⟩ := hz
      simp only [chkSs] at hc
      refine PSs.mono (soundSs r X sc s W R0 H0 h hs hsc tk hp hk hx hc) fun E σ H q => ?_
      obtain ⟨R, ρ, ok, st, en, o⟩ := q
      simp only [denS] at o
      cases ev : getV ρ i with
      | un => simp only [ev] at o; exact (show False from o).elim
      | pu d => simp only [ev] at o; exact (show False from o).elim
      | own l =>
        simp only [ev, Res.bind_ok] at o
        obtain ⟨p, vs, q1, q2, q3, q4, q5⟩ := en.own i l ev
        exact ⟨_, _, ok.freeze q2, st.freeze q4 q3, en.frozen ev q1 q2 q3 q5, o⟩
    · cases s with
      | nil => cases a <;> first | (exact absurd ⟨_, rfl⟩ hz; done) | (simp [chkSs] at hc; done)
      | cons e es =>
        have hc' : (chkS S cN a sc e && (chkSs S cN r sc es || (giveT a e && chkSsT S cN r sc es))) = true := by
          cases a <;> first | (exact absurd ⟨_, rfl⟩ hz; done) | exact hc
        simp only [Bool.and_eq_true, Bool.or_eq_true] at hc'
        rcases hc'.2 with h1 | h1
        · exact pss_consD (soundS a X sc e W R0 H0 h hs hsc tk hp hk hx hc'.1) (soundSs r X sc es W R0 H0 h hs hsc tk hp hk hx h1)
        · exact pss_consG (give_tok h hs tk h1.1 hc'.1) (soundSsT r X sc es W R0 H0 h hs hsc tk hp hk hx h1.2)
end
end
end Ev
set_option Elab.async false
set_option linter.all false
set_option maxRecDepth 100000
set_option maxHeartbeats 4000000
/-! EvM: defs, all at once; the law. -/
namespace Ev
open PySem PySem.Spec PyProof.Rows L2
/-- a def of the text is what a term of the language says -/
structure DefOk (fN gN bN cN : List Str) (lam : Bool) (F : FD) (st : Stmt) (N ps : List Str) : Prop where
  sc : FnScope N ps (defScope st)
  body : chkSs ⟨N, fN, gN, bN, lam⟩ cN F.body (defScope st).names (defBody st) = true
  pars : F.pars = ps.length
  slots : F.slots = N.length
/-- the check of a def, by computation -/
def defB (fN gN bN cN : List Str) (lam : Bool) (F : FD) (st : Stmt) (N ps : List Str) : Bool :=
  (match (defScope st).kind with | .function => true | _ => false) && !(defScope st).isCoroutine && !(defScope st).isGenerator && decide N.Nodup && decide (N.take ps.length = ps) &&
    (ps.all fun x => match (defScope st).names.lookup x with | some .local => true | some .cell => true | _ => false) && ((defScope st).names.all fun y => match y.2 with | .free => false | _ => true) &&
    chkSs ⟨N, fN, gN, bN, lam⟩ cN F.body (defScope st).names (defBody st) && decide (F.pars = ps.length) && decide (F.slots = N.length)
theorem defB_ok {fN gN bN cN : List Str} {lam : Bool} {F : FD} {st : Stmt} {N ps : List Str} (h : defB fN gN bN cN lam F st N ps = true) : DefOk fN gN bN cN lam F st N ps := by
  unfold defB at h
  simp only [Bool.and_eq_true, decide_eq_true_eq, Bool.not_eq_true', List.all_eq_true] at h
  obtain ⟨⟨⟨⟨⟨⟨⟨⟨⟨h1, h2⟩, h3⟩, h4⟩, h5⟩, h6⟩, h7⟩, h8⟩, h9⟩, h10⟩ := h
  refine ⟨⟨?_, h2, h3, h4, h5, fun x hx => ?_, fun y hy z => ?_⟩, h8, h9, h10⟩
  · split at h1
    · assumption
    · cases h1
  · have := h6 x hx
    split at this <;> first | exact .inl (by assumption) | exact .inr (by assumption) | cases this
  · have := h7 y hy
    rw [z] at this
    cases this
theorem getV_app : ∀ (a b : Env) (i : Nat), getV (a ++ b) i = if i < a.length then getV a i else getV b (i - a.length)
  | [], b, i => by simp
  | x :: a, b, 0 => by simp [getV]
  | x :: a, b, i + 1 => by
    have := getV_app a b i
    simp only [List.cons_append, getV, this, List.length_cons]
    by_cases h : i < a.length
    · rw [if_pos h, if_pos (by omega)]
    · rw [if_neg h, if_neg (by omega)]
      congr 1
      omega
theorem getV_un : ∀ (n i : Nat), getV (List.replicate n .un) i = .un
  | 0, _ => rfl
  | n + 1, 0 => rfl
  | n + 1, i + 1 => by
    rw [List.replicate_succ]
    exact getV_un n i
theorem getV_pu : ∀ (ds : List D) (i : Nat), getV (ds.map .pu) i = match ds[i]? with
    | some d => .pu d
    | none => .un
  | [], _ => rfl
  | d :: ds, 0 => rfl
  | d :: ds, i + 1 => by
    simp only [List.map_cons, getV, List.getElem?_cons_succ]
    exact getV_pu ds i
theorem env_start {g : Gx} {R H : Hp} {N : List Str} {ds : List D} {vs : List V} (hr : Reps g R ds vs) (hl : ds.length ≤ N.length) : EnvR g H R H (L2.start N vs) (startV N.length ds) := by
  have key : ∀ i, getV (startV N.length ds) i = match ds[i]? with
    | some d => .pu d
    | none => .un := by
    intro i
    unfold startV
    rw [getV_app, getV_un, getV_pu]
    by_cases h : i < ds.length
    · rw [if_pos (by simpa using h)]
    · rw [if_neg (by simpa using h), List.getElem?_eq_none (by omega)]
  refine ⟨?_, fun i d h => ?_, fun i l h => ?_, fun i j l _ a _ h => ?_⟩
  · unfold startV L2.start
    have := hr.length
    simp
    omega
  · rw [key] at h
    cases e : ds[i]? with
    | none => rw [e] at h; cases h
    | some d' =>
      rw [e] at h
      cases h
      obtain ⟨v, h1, h2⟩ := hr.get e
      refine ⟨v, ?_, h2⟩
      unfold L2.start
      obtain ⟨hi, _⟩ := List.getElem?_eq_some_iff.mp h1
      rw [List.getElem?_append_left (by simpa using hi), List.getElem?_map, h1]
      rfl
  · rw [key] at h
    split at h <;> cases h
  · rw [key] at h
    split at h <;> cases h
/-- a def with lambdas: its code object, its table -/
def LamD (g : Gx) (cs : List (Addr × Addr)) (x : Str) (fd : FuncData) : Prop := ∃ c P : Addr, fd.code = .ref c ∧ (c, P) ∈ cs ∧ (P, x ++ ".<locals>." ++ "<lambda>") ∈ g.T ∧ ∀ p ∈ g.T, p.1 = P → p.2 = x ++ ".<locals>." ++ "<lambda>"
/-- what the top tells of the defs -/
structure Facts (w : World) (g : Gx) (fns : List FD) (gl : Nat → Option D) (gN bN cN : List Str) (cs : List (Addr × Addr)) : Prop where
  defs : ∀ (i : Nat) (x : Str), g.fN[i]? = some x → ∃ (f : Addr) (fd : FuncData) (F : FD) (st : Stmt) (N ps : List Str) (lam : Bool), g.mg x = some (.ref f) ∧ fns[i]? = some F ∧ FunD g.K x x (defArgs st) (defBody st) (defScope st) [] [] f fd ∧ Binds g.K fd ps [] ∧ DefOk g.fN gN bN cN lam F st N ps ∧ (lam = true → LamD g cs x fd ∧ ToldF g)
  gls : ∀ (i : Nat) (x : Str) (d : D), gN[i]? = some x → gl i = some d → ∃ v u, g.mg x = some u ∧ RelV v u ∧ Rep g (fun _ => none) d v
  blt : ∀ x, bN.contains x = true → g.mg x = none
  exc : ∀ (c : Nat) (x : Str), cN[c]? = some x → ∃ C, g.cv c = .ref C ∧ g.mg x = some (.ref C) ∧ PySem.W.excIn g.K C [.type "ValueError", .type "Exception", .type "BaseException", .type "object"] "ValueError.__new__" = true ∧ PySem.W.keepIn g.K (.ref C) = true ∧
    PySem.W.subIn g.K (.ref C) (.type "BaseException") = some true ∧ PySem.W.typeIn g.K (.ref C) = some (.type "type")
  exm : ∀ (c c' : Nat) (x x' : Str), cN[c]? = some x → cN[c']? = some x' → PySem.W.exmOne g.K (g.cv c) (g.cv c') = some (decide (c = c'))
  dct : ∀ (i : Nat) (x : Str) (l : List D), gN[i]? = some x → gl (1000 + i) = some (.lst l) → ∃ a, g.mg x = some (.ref a) ∧ KDat g g.K w a l
theorem all_okD {P : Program} {w : World} {base : Heap} {g : Gx} {fns : List FD} {gl : Nat → Option D} {gN bN cN : List Str} {cs : List (Addr × Addr)} (hF : Facts w g fns gl gN bN cN cs) (TB : ∀ p ∈ cs, LamX.TabB base g.mg p.1 p.2) : ∀ (k i : Nat) (x : Str) (f : Addr) (fd : FuncData) (F : FD) (st : Stmt) (N ps : List Str) (lam : Bool), fns[i]? = some F → FunD g.K x x (defArgs st) (defBody st) (defScope st) [] [] f fd → DefOk g.fN gN bN cN lam F st N ps → (lam = true → LamD g cs x fd ∧ ToldF g) →
    FnOk P w g.K g.mg base (L2.CX P w) k f fd ps (spF g (callN gl fns k) i)
  | 0, i, x, f, fd, F, st, N, ps, lam, h2, h3, h5, hlm => by
    refine ⟨fun vs H Q E q => ?_, fun A outer s H args us vs Q E hr e0 hb r q => ?_⟩
    · obtain ⟨R, ds, ok, rs, w⟩ := q
      exact (show False from w).elim
    · obtain ⟨R, ds, ok, rs, w⟩ := q
      exact (show False from w).elim
  | k + 1, i, x, f, fd, F, st, N, ps, lam, h2, h3, h5, hlm => by
    have run : ∀ ds, callN gl fns (k + 1) i ds = runF ⟨k, callT gl fns k⟩ gl F ds := fun ds => by
      rw [callN_succ, h2]
    obtain ⟨oc, od, dV, kV, doc, pm, an, cdv, ct, osl, hfd, lk, hcd, _, _⟩ := h3.ex
    subst hfd
    refine fn_of lk hcd h5.sc (fun vs H Q E q => ?_) (fun A outer s H vs Q E hr q => ?_)
    · obtain ⟨R, ds, ok, rs, w⟩ := q
      rw [run] at w
      unfold runF at w
      by_cases hl : ds.length = F.pars
      · rw [← rs.length, hl, h5.pars]
      · rw [if_neg hl] at w
        exact (show False from w).elim
    · obtain ⟨R, ds, ok, rs, w0⟩ := q
      rw [run] at w0
      unfold runF at w0
      by_cases hl : ds.length = F.pars
      · rw [if_pos hl] at w0
        let S : Sx := ⟨N, g.fN, gN, bN, lam⟩
        have here : Here g S ⟨k, callT gl fns k⟩ gl k (cxOf (L2.CX P w) P w g.K g.mg base N x (defScope st) f cdv A outer s H E) :=
          ⟨rfl, rfl, rfl, rfl, rfl, h5.sc.nd, hr, fun j y hj => by
            obtain ⟨f, fd, F, st, N, ps, lm, h1, h2, h3, h4, h5, h6⟩ := hF.defs j y hj
            refine ⟨f, fd, ps, h1, fun m hm => ?_, h3.kp, h4⟩
            have := all_okD (P := P) hF TB m j y f fd F st N ps lm h2 h3 h5 h6
            show FnOk P w g.K g.mg base (L2.CX P w) m f fd ps (spF g (callT gl fns k m) j)
            rw [callT_le hm]
            exact this, hF.gls, hF.blt, hF.dct, rfl, fun hz => by
            obtain ⟨⟨c, Pt, e1, e2, e3, e4⟩, e5⟩ := hlm hz
            exact ⟨⟨c, Pt, e1, TB _ e2, e3, e4⟩, e5⟩⟩
        have sok : ScOk (cxOf (L2.CX P w) P w g.K g.mg base N x (defScope st) f cdv A outer s H E) (defScope st).names := by
          refine ⟨fun y hy => ?_, fun y hy => ?_, fun y hy => ?_, fun y hy => ?_⟩
          · unfold visB at hy
            split at hy <;> first | (cases hy; done) | skip
            · exact .inl (by assumption)
            · exact .inr (.inl (by assumption))
            · exact .inr (.inr (by assumption))
          · unfold glbB at hy
            split at hy <;> first | (cases hy; done) | assumption
          · unfold locB at hy
            split at hy <;> first | (cases hy; done) | skip
            · exact ⟨.inl (by assumption), .inl rfl⟩
            · exact ⟨.inr (by assumption), .inl rfl⟩
          · unfold clfB at hy
            split at hy <;> first | (cases hy; done) | skip
            · exact .inl (by assumption)
            · exact .inr (by assumption)
        have tk : Takes (cxOf (L2.CX P w) P w g.K g.mg base N x (defScope st) f cdv A outer s H E) (fun cls d _ H => E cls d H) := takes_of rfl rfl rfl rfl
        have hx : ExsF g (cxOf (L2.CX P w) P w g.K g.mg base N x (defScope st) f cdv A outer s H E) cN := ⟨fun c y hc => by
          obtain ⟨C, e1, e2, e3, e4, e5, e6⟩ := hF.exc c y hc
          exact ⟨C, e1, e2, e3, e4, raises_own e5 e6⟩, hF.exm⟩
        refine ⟨_, soundSs (g := g) (S := S) (cN := cN) (call := ⟨k, callT gl fns k⟩) (gl := gl) (k := k) F.body _ (defScope st).names (defBody st) (fun cls d _ H => E cls d H) R H here sok rfl tk (passes_of rfl) ⟨h5.sc.kind, rfl, rfl⟩ hx h5.body, ?_⟩
        have hle : ds.length ≤ N.length := by
          have e := congrArg List.length h5.sc.pre
          rw [List.length_take] at e
          rw [hl, h5.pars]
          omega
        refine ⟨R, startV F.slots ds, ok, Step.refl, by rw [h5.slots]; exact env_start rs hle, ?_⟩
        cases e : denSs ⟨k, callT gl fns k⟩ gl F.body (startV F.slots ds) with
        | bad => rw [e] at w0; exact w0
        | exc c => rw [e] at w0; exact fun R' H' σ' o s => w0 R' H' o s
        | ok u =>
          rw [e] at w0
          cases u with
          | nx ρ' => exact fun R' H' σ' o s _ => w0 R' H' o s .non (by simp [Rep])
          | rt d => exact fun R' H' v o s r => w0 R' H' o s v r
      · rw [if_neg hl] at w0
        exact (show False from w0).elim
termination_by k => k
decreasing_by omega
/-- the law's promise from what its term tells -/
theorem law_sp {g : Gx} {call : Nat → List D → Res D} {i : Nat} {H : Hp} {a : Addr} {ns : List Int} (hT : LamX.Tabs g.T H) (hS : SqL g.K H a (ns.map V.int)) (hc : call i [.scr ns] = .ok (.bl true)) (hH : ∀ a ps, H a ≠ some (.tbl ps)) :
    spF g call i [.ref a] H (fun v _ => v = .bl true) fun _ _ _ => False := by
  refine ⟨H, [.scr ns], ⟨fun _ _ e => e, hH, hT⟩, Reps.cons (by simp only [Rep]; exact ⟨a, rfl, hS⟩) Reps.nil, ?_⟩
  rw [hc]
  intro R' H' o s v r
  simpa [Rep] using r
theorem cx_none {P : Program} {w : World} {H : Hp} {s : Shared} {e : Value} {s' : Shared} (h : L2.CX P w [] H s (fun _ _ _ => False) e s') : False := by
  obtain ⟨_, _, _, _, _, _, _, _, _, _, _, _, z⟩ := h
  exact z
end Ev
set_option Elab.async false
set_option linter.all false
set_option maxRecDepth 100000
set_option maxHeartbeats 4000000
/-! EvN: what the head tells, made the facts of the walk. -/
namespace Ev
open PySem PySem.Spec PyProof.Rows L2
/-- a def: its name, its statement, its term, its names, its parameters -/
structure DD where
  x : Str
  st : Stmt
  F : FD
  N : List Str
  ps : List Str
  lam : Bool
def DD.at_ (d : DD) : He.DefD := ⟨(d.x, none), d.x, d.x, defArgs d.st, defBody d.st, defScope d.st, [], []⟩
/-- a constant of the module -/
inductive GK where
  | int (i : Int) | str (s : Str) | tup (l : List D) | fn (i : Nat) | dcs (l : List (Str × Str)) | dcf (l : List (Str × Str × Nat))
def dvOf : D → He.Dv
  | .non => .non
  | .bl b => .bl b
  | .int i => .int i
  | .str s => .str ⟨s.toArray⟩
  | _ => .non
def flat : D → Bool
  | .non => true
  | .bl _ => true
  | .int _ => true
  | .str _ => true
  | _ => false
def GK.d : GK → Option D
  | .int i => some (.int i)
  | .str s => some (.str s.cps.toList)
  | .tup l => some (.tup l)
  | .fn i => some (.fn i)
  | _ => none
/-- a dict's entries, as data -/
def GK.dd : GK → Option (List D)
  | .dcs l => some (l.map fun p => .tup [.str p.1.cps.toList, .str p.2.cps.toList])
  | .dcf l => some (l.map fun p => .tup [.str p.1.cps.toList, .fn p.2.2])
  | _ => none
/-- the table of a dict -/
def GK.tab (x : Str) : GK → Option He.Tab
  | .dcs l => some (fun K => He.ga K x, l.map (·.1))
  | .dcf l => some (fun K => He.ga K x, l.map (·.1))
  | _ => none
def tsOf (gs : List (Str × GK)) : List He.Tab := gs.filterMap fun p => p.2.tab p.1
def entS : List DictEntry → List (Str × Str) → Bool
  | [], [] => true
  | e :: es, p :: ps => e.key.isStr p.1 && (match e.val with | .str z _ => z == p.2 | _ => false) && entS es ps
  | _, _ => false
def entF (K : PySem.W.Frag) : List DictEntry → List (Str × Str × Nat) → Bool
  | [], [] => true
  | e :: es, p :: ps => e.key.isStr p.1 && decide (e.val = .ref (He.ga K p.2.1)) && entF K es ps
  | _, _ => false
def GK.fa (x : Str) : GK → He.Fa
  | .int i => .int x i
  | .str s => .str x s
  | .tup _ => .glo x
  | _ => .glo x
def faOf (ds : List DD) (cN bN : List Str) (gs : List (Str × GK)) (told : Bool) : List He.Fa :=
  ds.map (fun d => .glo d.x) ++ cN.map .glo ++ cN.map .exc ++ bN.map .free ++ (gs.map fun p => p.2.fa p.1) ++ (if told = true then [.glo "PileError"] else [])
def gkB (K : PySem.W.Frag) (p : Str × GK) : Bool := match p.2 with
  | .tup l => l.all flat && He.tupB K p.1 (l.map dvOf)
  | .dcs l => (match K.lookup (He.ga K p.1) with
    | some ⟨_, _, .dict es _, _⟩ => entS es.toList l
    | _ => false)
  | .dcf l => (match K.lookup (He.ga K p.1) with
    | some ⟨_, _, .dict es _, _⟩ => entF K es.toList l
    | _ => false)
  | _ => true
def exOf (gs : List (Str × GK)) (K : PySem.W.Frag) : Bool := gs.all (gkB K)
def glOf (gs : List (Str × GK)) (i : Nat) : Option D := if i < 1000 then (gs[i]?).bind fun p => p.2.d else (gs[i - 1000]?).bind fun p => p.2.dd.map D.lst
def ddB (ds : List DD) (cN bN : List Str) (gs : List (Str × GK)) : Bool :=
  ds.all (fun d => defB (ds.map (·.x)) (gs.map (·.1)) bN cN d.lam d.F d.st d.N d.ps) && gs.all fun p => match p.2 with
    | .fn i => decide ((ds.map (·.x))[i]? = some p.1)
    | .dcf l => l.all fun q => decide ((ds.map (·.x))[q.2.2]? = some q.2.1)
    | _ => true
/-- how a def takes what it is called with -/
def ArgsOk (d : DD) : Prop := ∀ (kV doc pm : Value) (an : Option Addr) (cdv ct : Value) (us : List Value), us.length = d.ps.length →
  bindArgs (PySem.W.fnOf d.x d.x (defArgs d.st) (defBody d.st) (defScope d.st) .none kV doc pm an cdv ct) ⟨us, []⟩ = pure (d.ps.zip us)
theorem reps_flat {g : Gx} {R : Hp} : ∀ {l : List D}, l.all flat = true → Reps g R l ((l.map dvOf).map (He.Dv.v g.K))
  | [], _ => Reps.nil
  | d :: r, h => by
    simp only [List.all_cons, Bool.and_eq_true] at h
    refine Reps.cons ?_ (reps_flat h.2)
    cases d <;> first | (cases h.1; done) | simp [Rep, dvOf, He.Dv.v]
def gxOf (K : PySem.W.Frag) (mg : Str → Option Value) (ds : List DD) (cN : List Str) (T : List (Addr × Str)) : Gx :=
  ⟨K, mg, ds.map (·.x), T, fun c => match cN[c]? with
    | some x => .ref (He.ga K x)
    | none => .none⟩
theorem str_back {z : Str} {l : List Nat} (h : z.cps.toList = l) : z = mkS l := by
  cases z
  rw [← h]
theorem ent_s0 : ∀ {es : List DictEntry} {ps : List (Str × Str)} (z : List Nat), entS es ps = true → (es.any (·.refKey)) = false ∧ match lookK (ps.map fun p => D.tup [.str p.1.cps.toList, .str p.2.cps.toList]) z with
    | none => es.find? (·.key.isStr (mkS z)) = none
    | some d => ∃ e s t, es.find? (·.key.isStr (mkS z)) = some e ∧ d = .str s ∧ e.val = .str (mkS s) t
  | [], [], z, _ => ⟨rfl, rfl⟩
  | [], p :: ps, z, h => by cases h
  | e :: es, [], z, h => by cases h
  | e :: es, p :: ps, z, h => by
    simp only [entS, Bool.and_eq_true] at h
    obtain ⟨⟨h1, h2⟩, h3⟩ := h
    obtain ⟨i1, i2⟩ := ent_s0 z h3
    obtain ⟨t, hk⟩ : ∃ t, e.key = .str p.1 t := by
      cases hk : e.key <;> rw [hk] at h1 <;> first | (cases h1; done) | skip
      rename_i s t
      have : s = p.1 := eq_of_beq h1
      exact ⟨t, by rw [this]⟩
    obtain ⟨t2, hv⟩ : ∃ t, e.val = .str p.2 t := by
      cases hk : e.val <;> rw [hk] at h2 <;> first | (cases h2; done) | skip
      rename_i s t
      have : s = p.2 := eq_of_beq h2
      exact ⟨t, by rw [this]⟩
    have rk : e.refKey = false := by unfold DictEntry.refKey; rw [hk]
    refine ⟨by simp only [List.any_cons, rk, i1, Bool.or_self], ?_⟩
    by_cases ez : p.1.cps.toList = z
    · have e1 : e.key.isStr (mkS z) = true := by
        rw [hk, ← str_back ez]
        exact beq_self_eq_true _
      simp only [List.map_cons, lookK, if_pos ez, List.find?_cons, e1]
      exact ⟨e, _, t2, rfl, rfl, by rw [hv]⟩
    · have e1 : e.key.isStr (mkS z) = false := by
        rw [hk]
        refine beq_eq_false_iff_ne.mpr fun q => ez ?_
        rw [q]
      simp only [List.map_cons, lookK, if_neg ez, List.find?_cons, e1]
      exact i2
theorem ent_s {g : Gx} {K : PySem.W.Frag} {a : Addr} {c : Value} {od : Option Addr} {es : Array DictEntry} {n : Nat} {sl : Array (Option Value)} {ps : List (Str × Str)} (hk : K.lookup a = some ⟨c, od, .dict es n, sl⟩) (h : entS es.toList ps = true) (z : List Nat) :
    match lookK (ps.map fun p => D.tup [.str p.1.cps.toList, .str p.2.cps.toList]) z with
    | none => PySem.W.nsIn K a (mkS z) = some none
    | some d => ∃ u v, PySem.W.nsIn K a (mkS z) = some (some u) ∧ L2.RelV v u ∧ Rep g (fun _ => none) d v := by
  obtain ⟨h1, h2⟩ := ent_s0 z h
  unfold PySem.W.nsIn
  rw [hk]
  cases e : lookK (ps.map fun p => D.tup [.str p.1.cps.toList, .str p.2.cps.toList]) z with
  | none =>
    rw [e] at h2
    simp only [h2, h1, Bool.false_eq_true, if_false]
  | some d =>
    rw [e] at h2
    obtain ⟨en, s, t, h3, rfl, h4⟩ := h2
    simp only [h3]
    exact ⟨en.val, .str (mkS s), rfl, by rw [h4]; exact ⟨t, rfl⟩, by simp [Rep]⟩
theorem ent_f0 {K : PySem.W.Frag} : ∀ {es : List DictEntry} {ps : List (Str × Str × Nat)} (z : List Nat), entF K es ps = true → (es.any (·.refKey)) = false ∧ match lookK (ps.map fun p => D.tup [.str p.1.cps.toList, .fn p.2.2]) z with
    | none => es.find? (·.key.isStr (mkS z)) = none
    | some d => ∃ e, ∃ q ∈ ps, es.find? (·.key.isStr (mkS z)) = some e ∧ d = .fn q.2.2 ∧ e.val = .ref (He.ga K q.2.1)
  | [], [], z, _ => ⟨rfl, rfl⟩
  | [], p :: ps, z, h => by cases h
  | e :: es, [], z, h => by cases h
  | e :: es, p :: ps, z, h => by
    simp only [entF, Bool.and_eq_true, decide_eq_true_eq] at h
    obtain ⟨⟨h1, h2⟩, h3⟩ := h
    obtain ⟨i1, i2⟩ := ent_f0 z h3
    obtain ⟨t, hk⟩ : ∃ t, e.key = .str p.1 t := by
      cases hk : e.key <;> rw [hk] at h1 <;> first | (cases h1; done) | skip
      rename_i s t
      have : s = p.1 := eq_of_beq h1
      exact ⟨t, by rw [this]⟩
    have rk : e.refKey = false := by unfold DictEntry.refKey; rw [hk]
    refine ⟨by simp only [List.any_cons, rk, i1, Bool.or_self], ?_⟩
    by_cases ez : p.1.cps.toList = z
    · have e1 : e.key.isStr (mkS z) = true := by
        rw [hk, ← str_back ez]
        exact beq_self_eq_true _
      simp only [List.map_cons, lookK, if_pos ez, List.find?_cons, e1]
      exact ⟨e, p, List.mem_cons_self, rfl, rfl, h2⟩
    · have e1 : e.key.isStr (mkS z) = false := by
        rw [hk]
        refine beq_eq_false_iff_ne.mpr fun q => ez ?_
        rw [q]
      simp only [List.map_cons, lookK, if_neg ez, List.find?_cons, e1]
      cases el : lookK (ps.map fun p => D.tup [.str p.1.cps.toList, .fn p.2.2]) z with
      | none => rw [el] at i2; exact i2
      | some d =>
        rw [el] at i2
        obtain ⟨e', q, hq, r⟩ := i2
        exact ⟨e', q, List.mem_cons_of_mem _ hq, r⟩
theorem ent_f {g : Gx} {K : PySem.W.Frag} {a : Addr} {c : Value} {od : Option Addr} {es : Array DictEntry} {n : Nat} {sl : Array (Option Value)} {ps : List (Str × Str × Nat)} (hk : K.lookup a = some ⟨c, od, .dict es n, sl⟩) (h : entF K es.toList ps = true)
    (hf : ∀ q ∈ ps, g.fN[q.2.2]? = some q.2.1 ∧ g.mg q.2.1 = some (.ref (He.ga K q.2.1))) (z : List Nat) :
    match lookK (ps.map fun p => D.tup [.str p.1.cps.toList, .fn p.2.2]) z with
    | none => PySem.W.nsIn K a (mkS z) = some none
    | some d => ∃ u v, PySem.W.nsIn K a (mkS z) = some (some u) ∧ L2.RelV v u ∧ Rep g (fun _ => none) d v := by
  obtain ⟨h1, h2⟩ := ent_f0 z h
  unfold PySem.W.nsIn
  rw [hk]
  cases e : lookK (ps.map fun p => D.tup [.str p.1.cps.toList, .fn p.2.2]) z with
  | none =>
    rw [e] at h2
    simp only [h2, h1, Bool.false_eq_true, if_false]
  | some d =>
    rw [e] at h2
    obtain ⟨en, q, hq, h3, rfl, h4⟩ := h2
    simp only [h3]
    refine ⟨en.val, .ref (He.ga K q.2.1), rfl, by rw [h4]; rfl, ?_⟩
    simp only [Rep]
    exact ⟨_, _, rfl, hf q hq⟩
/-- the defs with lambdas -/
def tfOf (ds : List DD) : List He.Defn := (ds.filter (·.lam)).map fun d => (d.x, none)
def tabOf (K : PySem.W.Frag) (tf : List He.Defn) : List (Addr × Str) := tf.map fun p => ((He.cT K p).2, p.1 ++ ".<locals>." ++ "<lambda>")
def exmB (cN : List Str) (K : PySem.W.Frag) : Bool := (List.range cN.length).all fun i => (List.range cN.length).all fun j => match cN[i]?, cN[j]? with
  | some x, some y => decide (PySem.W.exmOne K (.ref (He.ga K x)) (.ref (He.ga K y)) = some (decide (i = j)))
  | _, _ => true
def toldB (K : PySem.W.Frag) : Bool := (List.range 5).all fun i => excIsB K (He.ga K (tNm i)) && decide (PySem.W.exmOne K (.ref (He.ga K (tNm i))) (.ref (He.ga K "PileError")) = some true) &&
  ((List.range 5).all fun j => decide (PySem.W.kitOne K (.ref (He.ga K (tNm i))) (.ref (He.ga K (tNm j))) = some (decide (i = j)))) && decide (PySem.W.kitOne K (.ref (He.ga K (tNm i))) (.type "ValueError") = some true)
/-- the head's Bool -/
def exAll (ds : List DD) (cN : List Str) (gs : List (Str × GK)) (told : Bool) (K : PySem.W.Frag) : Bool := exOf gs K && exmB cN K && (!told || toldB K) && decide (((tfOf ds).map fun p => (He.cT K p).2).Nodup)
/-- the def that tells, among the defs -/
def ToldIn (ds : List DD) (cN bN : List Str) (told : Bool) : Prop := (∀ d ∈ ds, d.lam = true → told = true) ∧ (told = true → cN.take 5 = [tNm 0, tNm 1, tNm 2, tNm 3, tNm 4] ∧ (strN "isinstance") ∈ bN ∧ (strN "ValueError") ∈ bN ∧ ∃ d ∈ ds, ∃ x, d.x = strN "_law_told" ∧ d.ps = [x] ∧ IsTold x (defBody d.st) ∧ toldSB x (defScope d.st) = true)
theorem nodup_fst {α : Type} {β : Type} {f : α → β} : ∀ {l : List α}, (l.map f).Nodup → ∀ a ∈ l, ∀ b ∈ l, f a = f b → a = b
  | [], _, a, ha, _, _, _ => by cases ha
  | x :: l, h, a, ha, b, hb, e => by
    rw [List.map_cons, List.nodup_cons] at h
    rcases List.mem_cons.mp ha with rfl | ha'
    · rcases List.mem_cons.mp hb with rfl | hb'
      · rfl
      · exact absurd (List.mem_map.mpr ⟨b, hb', e.symm⟩) h.1
    · rcases List.mem_cons.mp hb with rfl | hb'
      · exact absurd (List.mem_map.mpr ⟨a, ha', e⟩) h.1
      · exact nodup_fst h.2 a ha' b hb' e
theorem told_of {K : PySem.W.Frag} {mg : Str → Option Value} {h : Heap} {ds : List DD} {cN bN : List Str} {T : List (Addr × Str)} (X : K.In h) (G : h.Ns mainGlobals mg) (hp : (He.Fa.glo "PileError").ok K = true)
    (exg : ∀ x ∈ cN, mg x = some (.ref (He.ga K x))) (hbf : ∀ x ∈ bN, mg x = none) (hdf : ∀ d ∈ ds, mg d.x = some (.ref (He.ga K d.x)) ∧ (∃ fd, FunD K d.x d.x (defArgs d.st) (defBody d.st) (defScope d.st) [] [] (He.ga K d.x) fd ∧ Binds K fd d.ps []))
    (ht : cN.take 5 = [tNm 0, tNm 1, tNm 2, tNm 3, tNm 4]) (hi : (strN "isinstance") ∈ bN) (hv : (strN "ValueError") ∈ bN) (hd : ∃ d ∈ ds, ∃ x, d.x = strN "_law_told" ∧ d.ps = [x] ∧ IsTold x (defBody d.st) ∧ toldSB x (defScope d.st) = true) (hB : toldB K = true) :
    ToldF (gxOf K mg ds cN T) := by
  obtain ⟨d, hm, x, e1, e2, e3, e4⟩ := hd
  obtain ⟨m1, fd, F, b⟩ := hdf d hm
  obtain ⟨TS, x1, x2⟩ := toldSB_ok e4
  rw [e2] at b
  have F' := F
  obtain ⟨oc, od, dV, kV, doc, pm, an, cdv, ct, osl, hfd, lk, hcd, _, _⟩ := F.ex
  subst hfd
  have mem : ∀ i, i < 5 → tNm i ∈ cN ∧ cN[i]? = some (tNm i) := fun i hi => by
    have : cN[i]? = some (tNm i) := by
      have q : (cN.take 5)[i]? = cN[i]? := by rw [List.getElem?_take, if_pos hi]
      rw [← q, ht]
      match i, hi with
      | 0, _ | 1, _ | 2, _ | 3, _ | 4, _ => rfl
    exact ⟨List.mem_of_getElem? this, this⟩
  have M : ToldM mg (He.ga K "PileError") fun i => He.ga K (tNm i) := ⟨hbf _ hi, hbf _ hv, He.glo_ok X G hp, exg _ (mem 0 (by omega)).1, exg _ (mem 1 (by omega)).1, exg _ (mem 2 (by omega)).1, exg _ (mem 3 (by omega)).1, exg _ (mem 4 (by omega)).1⟩
  rw [e1] at m1 lk hcd b F'
  refine ⟨_, He.ga K "PileError", fun i => He.ga K (tNm i), x, defArgs d.st, defBody d.st, defScope d.st, dV, kV, doc, pm, cdv, ct, oc, an, od, osl, m1, F'.kp, lk, hcd, b, TS, M, x1, x2, ?_, fun c hc => ?_⟩
  · intro Y hK hmg q
    have M' : ToldM Y.mg (He.ga K "PileError") fun i => He.ga K (tNm i) := by rw [hmg]; exact M
    generalize defBody d.st = bg at e3 ⊢
    cases e3 with
    | mk h1 h2 h3 =>
      rw [← hK]
      exact told5 TS M' x1 x2 h1 h2 h3
  · unfold toldB at hB
    simp only [List.all_eq_true, List.mem_range, Bool.and_eq_true, decide_eq_true_eq] at hB
    obtain ⟨⟨⟨h1, h2⟩, h3⟩, h4⟩ := hB c hc
    refine ⟨He.ga K (tNm c), ?_, hc, h1, h2, h3, h4⟩
    show (match cN[c]? with
    | some x => Value.ref (He.ga K x)
    | none => .none) = _
    rw [(mem c hc).2]
theorem lamd_of {K : PySem.W.Frag} {mg : Str → Option Value} {h : Heap} {ds : List DD} {cN bN : List Str} {gs : List (Str × GK)} {told : Bool} (X : K.In h) (G : h.Ns mainGlobals mg)
    {w : World} (c' : He.SaysT (faOf ds cN bN gs told) (ds.map DD.at_) (tsOf gs) w K) (eA : exAll ds cN gs told K = true) (hT : ToldIn ds cN bN told) (ha : ∀ d ∈ ds, ArgsOk d) {d : DD} (hm : d ∈ ds) {fd : FuncData}
    (F : FunD K d.x d.x (defArgs d.st) (defBody d.st) (defScope d.st) [] [] (He.ga K d.x) fd) (hl : d.lam = true) : LamD (gxOf K mg ds cN (tabOf K (tfOf ds))) ((tfOf ds).map (He.cT K)) d.x fd ∧ ToldF (gxOf K mg ds cN (tabOf K (tfOf ds))) := by
  have c := c'.d
  unfold exAll at eA
  simp only [Bool.and_eq_true] at eA
  obtain ⟨⟨⟨e, eX⟩, eT⟩, eD⟩ := eA
  have fx : ∀ f ∈ faOf ds cN bN gs told, f.ok K = true := fun f hf => c.facts hf
  unfold faOf at fx
  simp only [List.mem_append, List.mem_map] at fx
  have exg : ∀ x ∈ cN, mg x = some (.ref (He.ga K x)) := fun x hx => He.glo_ok X G (fx _ (.inl (.inl (.inl (.inl (.inr ⟨x, hx, rfl⟩))))))
  have dg : ∀ d ∈ ds, mg d.x = some (.ref (He.ga K d.x)) := fun d hd => He.glo_ok X G (fx _ (.inl (.inl (.inl (.inl (.inl ⟨d, hd, rfl⟩))))))
  refine ⟨?_, ?_⟩
  · have hp : ((d.x, none) : He.Defn) ∈ tfOf ds := List.mem_map.mpr ⟨d, List.mem_filter.mpr ⟨hm, hl⟩, rfl⟩
    obtain ⟨oc, od, dV, kV, doc, pm, an, cdv, ct, osl, hfd, lk, hcd, _, _⟩ := F.ex
    obtain ⟨cc, hcc⟩ := He.codeIn_ref hcd
    have hcode : fd.code = .ref cc := by rw [hfd]; exact hcc
    have hco : He.codeOf K (d.x, none) = cc := He.codeOf_eq lk hcode
    refine ⟨(He.cT K (d.x, none)).1, (He.cT K (d.x, none)).2, by rw [hcode]; exact congrArg Value.ref hco.symm, List.mem_map.mpr ⟨_, hp, rfl⟩, List.mem_map.mpr ⟨_, hp, rfl⟩, fun q hq e2 => ?_⟩
    obtain ⟨p2, hp2, e3⟩ := List.mem_map.mp hq
    subst e3
    have := nodup_fst (of_decide_eq_true eD) p2 hp2 _ hp e2
    subst this
    rfl
  · have ht := hT.1 d hm hl
    subst ht
    obtain ⟨t1, t2, t3, t4⟩ := hT.2 rfl
    exact told_of X G (fx _ (.inr (by simp))) exg (fun x hx => He.free_ok X G (fx _ (.inl (.inl (.inr ⟨x, hx, rfl⟩))))) (fun d hd => ⟨dg d hd, by
      obtain ⟨fd, F⟩ := c.defs (List.mem_map_of_mem (f := DD.at_) hd)
      exact ⟨fd, F, FunD.bindsN F (ha d hd)⟩⟩) t1 t2 t3 t4 (by simpa using eT)
theorem facts_of {K : PySem.W.Frag} {mg : Str → Option Value} {h : Heap} {ds : List DD} {cN bN : List Str} {gs : List (Str × GK)} {told : Bool} (X : K.In h) (G : h.Ns mainGlobals mg)
    {w : World} (c' : He.SaysT (faOf ds cN bN gs told) (ds.map DD.at_) (tsOf gs) w K) (hlen : gs.length ≤ 1000) (eA : exAll ds cN gs told K = true) (hb : ddB ds cN bN gs = true) (ha : ∀ d ∈ ds, ArgsOk d) (hT : ToldIn ds cN bN told) :
    Facts w (gxOf K mg ds cN (tabOf K (tfOf ds))) (ds.map (·.F)) (glOf gs) (gs.map (·.1)) bN cN ((tfOf ds).map (He.cT K)) := by
  have c := c'.d
  unfold exAll at eA
  simp only [Bool.and_eq_true] at eA
  obtain ⟨⟨⟨e, eX⟩, eT⟩, eD⟩ := eA
  have fx : ∀ f ∈ faOf ds cN bN gs told, f.ok K = true := fun f hf => c.facts hf
  unfold faOf at fx
  simp only [List.mem_append, List.mem_map] at fx
  unfold ddB at hb
  simp only [Bool.and_eq_true, List.all_eq_true] at hb
  unfold exOf at e
  simp only [List.all_eq_true] at e
  have exf : ∀ x ∈ cN, _ := fun x hx => He.exc_ok (fx _ (.inl (.inl (.inl (.inr ⟨x, hx, rfl⟩)))))
  have exg : ∀ x ∈ cN, mg x = some (.ref (He.ga K x)) := fun x hx => He.glo_ok X G (fx _ (.inl (.inl (.inl (.inl (.inr ⟨x, hx, rfl⟩))))))
  have dg : ∀ d ∈ ds, mg d.x = some (.ref (He.ga K d.x)) := fun d hd => He.glo_ok X G (fx _ (.inl (.inl (.inl (.inl (.inl ⟨d, hd, rfl⟩))))))
  refine ⟨fun i x hi => ?_, fun i x d hi hg => ?_, fun x hx => ?_, fun k x hk => ?_, fun k k' x x' hk hk' => ?_, fun i x l hi hg => ?_⟩
  · have hi' : (ds.map (·.x))[i]? = some x := hi
    rw [List.getElem?_map] at hi'
    cases hd : ds[i]? with
    | none => rw [hd] at hi'; cases hi'
    | some d =>
      rw [hd] at hi'
      cases hi'
      have hm : d ∈ ds := List.mem_of_getElem? hd
      obtain ⟨fd, F⟩ := c.defs (List.mem_map_of_mem (f := DD.at_) hm)
      have b : Binds K fd d.ps [] := FunD.bindsN F (ha d hm)
      refine ⟨_, fd, d.F, d.st, d.N, d.ps, d.lam, dg d hm, ?_, F, b, defB_ok (hb.1 d hm), fun hl => ⟨?_, ?_⟩⟩
      · rw [List.getElem?_map, hd]
        rfl
      · have hp : ((d.x, none) : He.Defn) ∈ tfOf ds := List.mem_map.mpr ⟨d, List.mem_filter.mpr ⟨hm, hl⟩, rfl⟩
        obtain ⟨oc, od, dV, kV, doc, pm, an, cdv, ct, osl, hfd, lk, hcd, _, _⟩ := F.ex
        obtain ⟨cc, hcc⟩ := He.codeIn_ref hcd
        have hcode : fd.code = .ref cc := by rw [hfd]; exact hcc
        have hco : He.codeOf K (d.x, none) = cc := He.codeOf_eq lk hcode
        refine ⟨(He.cT K (d.x, none)).1, (He.cT K (d.x, none)).2, by rw [hcode]; exact congrArg Value.ref hco.symm, List.mem_map.mpr ⟨_, hp, rfl⟩, List.mem_map.mpr ⟨_, hp, rfl⟩, fun q hq e2 => ?_⟩
        obtain ⟨p2, hp2, e3⟩ := List.mem_map.mp hq
        subst e3
        have := nodup_fst (of_decide_eq_true eD) p2 hp2 _ hp e2
        subst this
        rfl
      · have ht := hT.1 d hm hl
        subst ht
        obtain ⟨t1, t2, t3, t4⟩ := hT.2 rfl
        exact told_of X G (fx _ (.inr (by simp))) exg (fun x hx => He.free_ok X G (fx _ (.inl (.inl (.inr ⟨x, hx, rfl⟩))))) (fun d hd => ⟨dg d hd, by
          obtain ⟨fd, F⟩ := c.defs (List.mem_map_of_mem (f := DD.at_) hd)
          exact ⟨fd, F, FunD.bindsN F (ha d hd)⟩⟩) t1 t2 t3 t4 (by simpa using eT)
  · rw [List.getElem?_map] at hi
    unfold glOf at hg
    cases hp : gs[i]? with
    | none => rw [hp] at hi; cases hi
    | some p =>
      rw [hp] at hi hg
      cases hi
      have hi2 : i < 1000 := by
        obtain ⟨h, _⟩ := List.getElem?_eq_some_iff.mp hp
        omega
      rw [if_pos hi2] at hg
      have hg : p.2.d = some d := hg
      have hm : p ∈ gs := List.mem_of_getElem? hp
      have hf := fx _ (.inl (.inr ⟨p, hm, rfl⟩))
      have he := e p hm
      obtain ⟨x, kd⟩ := p
      cases kd <;> first | (cases hg; done) | (cases hg)
      case int.refl j =>
        obtain ⟨t, ht⟩ := He.int_ok X G hf
        exact ⟨.int j, _, ht, by first | rfl | exact ⟨_, rfl⟩ | constructor, by simp [GK.d, Rep]⟩
      case str.refl s =>
        obtain ⟨t, ht⟩ := He.str_ok X G hf
        refine ⟨.str s, _, ht, by first | rfl | exact ⟨_, rfl⟩ | constructor, ?_⟩
        simp [GK.d, Rep]
      case tup.refl l =>
        have he' : (l.all flat && He.tupB K x (l.map dvOf)) = true := he
        simp only [Bool.and_eq_true] at he'
        refine ⟨.ref (He.ga K x), _, He.glo_ok X G hf, by first | rfl | exact ⟨_, rfl⟩ | constructor, ?_⟩
        simp only [GK.d, Rep]
        exact ⟨_, _, rfl, He.tupB_ok he'.2 _, reps_flat he'.1⟩
      case fn.refl j =>
        have hj := hb.2 _ hm
        have hj' : (ds.map (·.x))[j]? = some x := of_decide_eq_true hj
        refine ⟨.ref (He.ga K x), _, He.glo_ok X G hf, by first | rfl | exact ⟨_, rfl⟩ | constructor, ?_⟩
        simp only [GK.d, Rep]
        exact ⟨_, x, rfl, hj', He.glo_ok X G hf⟩
  · have hx' : x ∈ bN := by simpa using hx
    exact He.free_ok X G (fx _ (.inl (.inl (.inr ⟨x, hx', rfl⟩))))
  · have hm : x ∈ cN := List.mem_of_getElem? hk
    obtain ⟨e1, e2, e3, e4⟩ := exf x hm
    refine ⟨He.ga K x, ?_, exg x hm, e1, e2, e3, e4⟩
    show (match cN[k]? with
    | some x => Value.ref (He.ga K x)
    | none => .none) = _
    rw [hk]
  · unfold exmB at eX
    simp only [List.all_eq_true, List.mem_range] at eX
    have := eX k (List.getElem?_eq_some_iff.mp hk).1 k' (List.getElem?_eq_some_iff.mp hk').1
    simp only [hk, hk', decide_eq_true_eq] at this
    show PySem.W.exmOne K (match cN[k]? with
    | some x => Value.ref (He.ga K x)
    | none => .none) (match cN[k']? with
    | some x => Value.ref (He.ga K x)
    | none => .none) = _
    rw [hk, hk']
    exact this
  · rw [List.getElem?_map] at hi
    unfold glOf at hg
    rw [if_neg (by omega), Nat.add_sub_cancel_left] at hg
    cases hp : gs[i]? with
    | none => rw [hp] at hi; cases hi
    | some p =>
      rw [hp] at hi hg
      cases hi
      have hm : p ∈ gs := List.mem_of_getElem? hp
      have hf := fx _ (.inl (.inr ⟨p, hm, rfl⟩))
      have he := e p hm
      have hb2 := hb.2 p hm
      obtain ⟨x, kd⟩ := p
      replace hg : kd.dd.map D.lst = some (D.lst l) := hg
      have tab : ∀ t, kd.tab x = some t → ∃ es n, KDict K w (t.1 K) es n := fun t ht => by
        have : t ∈ tsOf gs := List.mem_filterMap.mpr ⟨_, hm, ht⟩
        obtain ⟨j, hj, e⟩ := List.mem_iff_getElem.mp this
        exact c'.tab j (t := t) (by rw [List.getElem?_eq_getElem hj, e])
      cases kd <;> first | (cases hg; done) | skip
      case dcs ps =>
        simp only [GK.dd, Option.map_some, Option.some.injEq, D.lst.injEq] at hg
        subst hg
        obtain ⟨es, n, KD⟩ := tab _ rfl
        refine ⟨_, He.glo_ok X G hf, ⟨es, n, KD⟩, fun z => ?_⟩
        have he' : (match K.lookup (He.ga K x) with | some ⟨_, _, .dict es _, _⟩ => entS es.toList ps | _ => false) = true := he
        have ka : K.lookup (He.ga K x) = _ := KD.at_
        rw [ka] at he'
        exact ent_s ka he' z
      case dcf ps =>
        simp only [GK.dd, Option.map_some, Option.some.injEq, D.lst.injEq] at hg
        subst hg
        obtain ⟨es, n, KD⟩ := tab _ rfl
        refine ⟨_, He.glo_ok X G hf, ⟨es, n, KD⟩, fun z => ?_⟩
        have he' : (match K.lookup (He.ga K x) with | some ⟨_, _, .dict es _, _⟩ => entF K es.toList ps | _ => false) = true := he
        have ka : K.lookup (He.ga K x) = _ := KD.at_
        rw [ka] at he'
        replace hb2 : (ps.all fun q => decide ((ds.map (·.x))[q.2.2]? = some q.2.1)) = true := hb2
        simp only [List.all_eq_true, decide_eq_true_eq] at hb2
        refine ent_f ka he' (fun q hq => ?_) z
        obtain ⟨d, hd, ex⟩ := List.mem_map.mp (List.mem_of_getElem? (hb2 q hq))
        exact ⟨hb2 q hq, by rw [← ex]; exact dg d hd⟩
theorem dd_def {ds : List DD} {cN bN : List Str} {gs : List (Str × GK)} (h : ddB ds cN bN gs = true) {d : DD} (hm : d ∈ ds) : DefOk (ds.map (·.x)) (gs.map (·.1)) bN cN d.lam d.F d.st d.N d.ps := by
  unfold ddB at h
  simp only [Bool.and_eq_true, List.all_eq_true] at h
  exact defB_ok (h.1 d hm)
theorem only_notbl {H : Hp} (h : Only H) : ∀ a ps, H a ≠ some (.tbl ps) := fun a ps e => by
  rcases h a with z | ⟨o, xs, z⟩ <;> (rw [z] at e; cases e)
/-- a law's end, with tables, where what may be let out is told by the world -/
theorem walkT {l : PySem.W.OpenLaw} {n k : Nat} {q : Program} {loose : List Str} {XP : (Str → Option Value) → Heap → Prop} {YP : World → Heap → Prop} {d : DefRec} {CX : World → CXT} {x : Str}
    (hn : l.most = some n) (hs : n ≤ sizeLine) (hdf : d.params.defaults = []) (hr : Room k callerA)
    (F : ∀ (w : World) (mg : Str → Option Value) (fa : Addr) (h : Heap), YP w h → h.Ns mainGlobals mg → mg d.name = some (.ref fa) →
      ∃ (K : PySem.W.Frag) (cs : List (Addr × Addr)) (fd : FuncData) (sp : Sp), K.In h ∧ (∀ p ∈ cs, h.get? p.2 = some { cls := .none, data := .fields #[] }) ∧ (∀ p ∈ cs, K.lookup p.2 = none) ∧ (∀ p ∈ cs, PySem.W.CodeHd h p.1 p.2) ∧ (∀ (s : Shared) (u : Value), BindsTo s fd ⟨[u], []⟩ [(x, u)]) ∧
        (∀ (H : Hp) (a : Addr) (ns : List Int), ns.length ≤ n → (∀ p ∈ cs, H p.2 = some (.tbl #[])) → SqL K H a (ns.map V.int) → sp [.ref a] H (fun v _ => v = .bl true) fun _ _ _ => False) ∧
        ∀ base : Heap, K.In base → base.Ns mainGlobals mg → (∀ p ∈ cs, LamX.TabB base mg p.1 p.2) → FnOk l.prog w K mg base (CX w) k fa fd [x] sp)
    (hC : ∀ (w : World) (H : Hp) (s : Shared) (e : Value) (s' : Shared), CX w [] H s (fun _ _ _ => False) e s' → False) :
    PySem.W.WalkO q loose XP YP l.row.toRowW d [] (fun f vs => PySem.call f vs) := by
  refine Att.attach_callB hn hdf fun w s₀ s₁ mg mb fa o pm cd doc a vs ns G Y ho hd hcd hmg hobj hints hlen hbits hg => ?_
  obtain ⟨K, cs, fd, sp, KX, hT, nT, C, hb, hsp, hF⟩ := F w mg fa _ Y G.T.g hmg
  exact LamX.law_callTs KX G.T.g G.T.b G.T.builtins G.T.nolimit hg hT nT C G.T.bmain hobj hints (Nat.le_trans hlen hs) hr hF hb (fun H hH hS => hsp H a ns hlen hH hS) fun H e s' => hC w H s₁ e s'
/-- what is frozen: all but the tables -/
def noTbl (H : Hp) : Hp := fun a => match H a with
  | some (.tbl _) => none
  | o => o
theorem noTbl_of {H : Hp} {a : Addr} {o : HO} (h : H a = some o) (n : ∀ ps, o ≠ .tbl ps) : noTbl H a = some o := by
  unfold noTbl
  rw [h]
  cases o <;> first | rfl | exact absurd rfl (n _)
theorem law_spT {g : Gx} {call : Nat → List D → Res D} {i : Nat} {H : Hp} {a : Addr} {ns : List Int} (hT : LamX.Tabs g.T H) (hS : SqL g.K H a (ns.map V.int)) (hc : call i [.scr ns] = .ok (.bl true)) :
    spF g call i [.ref a] H (fun v _ => v = .bl true) fun _ _ _ => False := by
  have ok : Ok g (noTbl H) H := ⟨fun a o e => by
    unfold noTbl at e
    split at e
    · cases e
    · exact e, fun a ps e => by
    unfold noTbl at e
    split at e
    · cases e
    · rename_i h
      exact h _ e, hT⟩
  have hS' : SqL g.K (noTbl H) a (ns.map V.int) := by
    rcases hS with h | h
    · rcases h with h | ⟨o, h⟩
      · exact .inl (.inl (noTbl_of h (fun ps z => by cases z)))
      · exact .inl (.inr ⟨o, noTbl_of h (fun ps z => by cases z)⟩)
    · exact .inr h
  refine ⟨noTbl H, [.scr ns], ok, Reps.cons (by simp only [Rep]; exact ⟨a, rfl, hS'⟩) Reps.nil, ?_⟩
  rw [hc]
  intro R' H' o s v r
  simpa [Rep] using r
end Ev
set_option Elab.async false
set_option linter.all false
set_option maxRecDepth 100000
set_option maxHeartbeats 4000000
/-! EvO: the plain law's tools: what the terms tell, by computing. -/
namespace Ev
open PySem PySem.Spec PyProof.Rows L2 PySem.NumText
/-- a def's end -/
def fin : Out → Res D
  | .nx _ => .ok .non
  | .rt d => .ok d
theorem fin_nx (ρ : Env) : fin (.nx ρ) = .ok .non := rfl
theorem fin_rt (d : D) : fin (.rt d) = .ok d := rfl
/-- a statement's follow-up -/
theorem binD_add (i j : Int) : binD .add (.int i) (.int j) = .ok (.int (i + j)) := rfl
theorem binD_sub (i j : Int) : binD .sub (.int i) (.int j) = .ok (.int (i - j)) := rfl
theorem mulOk_r {i j : Int} (h : -18446744073709551616 < j) (h2 : j < 18446744073709551616) : MulOk i j := .inr (.inl ⟨h, h2⟩)
theorem mulOk_l {i j : Int} (h : -18446744073709551616 < i) (h2 : i < 18446744073709551616) : MulOk i j := .inl ⟨h, h2⟩
theorem binD_mul {i j : Int} (h : -18446744073709551616 < j ∧ j < 18446744073709551616 ∨ -18446744073709551616 < i ∧ i < 18446744073709551616) : binD .mul (.int i) (.int j) = .ok (.int (i * j)) := by
  have : MulOk i j := by
    rcases h with ⟨a, b⟩ | ⟨a, b⟩
    · exact mulOk_r a b
    · exact mulOk_l a b
  show (if MulOk i j then _ else _) = _
  rw [if_pos this]
theorem binD_mulB {i j : Int} (h : -BIG < i ∧ i < BIG) (h2 : -BIG < j ∧ j < BIG) : binD .mul (.int i) (.int j) = .ok (.int (i * j)) := by
  show (if MulOk i j then _ else _) = _
  rw [if_pos (.inr (.inr ⟨h, h2⟩))]
theorem maxl_num : MAXL = 16777216 := rfl
theorem big_gt : (10 : Int) ^ 499 < BIG := by unfold BIG; decide +kernel
theorem big64 : (18446744073709551616 : Int) < BIG := by unfold BIG; decide +kernel
theorem binD_fdiv {i j : Int} (h : 0 < j) (h2 : j < 18446744073709551616) : binD .fdiv (.int i) (.int j) = .ok (.int (i / j)) := by
  show (if DivOk j then _ else _) = _
  rw [if_pos ⟨h, Int.lt_trans h2 big64⟩]
theorem binD_fdivB {i j : Int} (h : 0 < j) (h2 : j < BIG) : binD .fdiv (.int i) (.int j) = .ok (.int (i / j)) := by
  show (if DivOk j then _ else _) = _
  rw [if_pos ⟨h, h2⟩]
theorem binD_mod {i j : Int} (h : 0 < j) : binD .mod (.int i) (.int j) = .ok (.int (i % j)) := by
  show (if 0 < j then _ else _) = _
  rw [if_pos h]
theorem binD_lst {a b : List D} (h : a.length + b.length ≤ 16777216) : binD .add (.lst a) (.lst b) = .ok (.lst (a ++ b)) := if_pos h
theorem binD_tup {a b : List D} (h : a.length + b.length ≤ 16777216) : binD .add (.tup a) (.tup b) = .ok (.tup (a ++ b)) := if_pos h
theorem binD_str {a b : List Nat} (h : a.length + b.length ≤ 16777216) : binD .add (.str a) (.str b) = .ok (.str (a ++ b)) := if_pos h
theorem binD_rep {a : List Nat} {j : Int} (h : -1000000 ≤ j) (h2 : j ≤ 1000000) (h3 : a.length * j.toNat ≤ 16777216) : binD .mul (.str a) (.int j) = .ok (.str (reps j.toNat a)) := if_pos ⟨h, h2, h3⟩
theorem cmp_lt (i j : Int) : cmpD .lt (.int i) (.int j) = .ok (.bl (decide (i < j))) := rfl
theorem cmp_le (i j : Int) : cmpD .le (.int i) (.int j) = .ok (.bl (decide (i ≤ j))) := rfl
theorem cmp_gt (i j : Int) : cmpD .gt (.int i) (.int j) = .ok (.bl (decide (j < i))) := rfl
theorem cmp_ge (i j : Int) : cmpD .ge (.int i) (.int j) = .ok (.bl (decide (j ≤ i))) := rfl
theorem eqD_int (i j : Int) : eqD (.int i) (.int j) = some (decide (i = j)) := by
  show some (i == j) = _
  rw [← Bool.beq_eq_decide_eq]
theorem eqD_bl (a b : Bool) : eqD (.bl a) (.bl b) = some (a == b) := by cases a <;> cases b <;> rfl
theorem cmp_eqi (i j : Int) : cmpD .eq (.int i) (.int j) = .ok (.bl (decide (i = j))) := by
  show (match eqD (.int i) (.int j) with | some k => Res.ok (D.bl k) | none => .bad) = _
  rw [eqD_int]
theorem cmp_nei (i j : Int) : cmpD .ne (.int i) (.int j) = .ok (.bl (decide (i ≠ j))) := by
  show (match eqD (.int i) (.int j) with | some k => Res.ok (D.bl (!k)) | none => .bad) = _
  rw [eqD_int]
  simp
theorem cmp_eqb (i j : Bool) : cmpD .eq (.bl i) (.bl j) = .ok (.bl (i == j)) := by
  show (match eqD (.bl i) (.bl j) with | some k => Res.ok (D.bl k) | none => .bad) = _
  rw [eqD_bl]
theorem cmp_neb (i j : Bool) : cmpD .ne (.bl i) (.bl j) = .ok (.bl (!(i == j))) := by
  show (match eqD (.bl i) (.bl j) with | some k => Res.ok (D.bl (!k)) | none => .bad) = _
  rw [eqD_bl]
theorem cmp_is (d : D) : cmpD .is_ d .non = .ok (.bl (isNonD d)) := by cases d <;> rfl
theorem cmp_isNot (d : D) : cmpD .isNot d .non = .ok (.bl (!isNonD d)) := by cases d <;> rfl
theorem at_pos {α : Type} {l : List α} {i : Int} (h : 0 ≤ i) (h2 : i < l.length) : atD l i = l[i.toNat]? := by
  unfold atD place
  rw [if_pos h, if_pos h2]
  rfl
theorem at_neg {α : Type} {l : List α} {i : Int} (h : i < 0) (h2 : -(l.length : Int) ≤ i) : atD l i = l[(i + l.length).toNat]? := by
  unfold atD place
  rw [if_neg (by omega), if_pos h2]
  rfl
theorem getD_some {l : List D} {j : Nat} (h : j < l.length) : l[j]? = some (l.getD j .non) := by
  rw [List.getD_eq_getElem?_getD, List.getElem?_eq_getElem h]
  rfl
theorem getD_mem {l : List D} {j : Nat} (h : j < l.length) : l.getD j .non ∈ l := by
  rw [List.getD_eq_getElem?_getD, List.getElem?_eq_getElem h]
  exact List.getElem_mem h
theorem idx_lst {l : List D} {i : Int} (h : 0 ≤ i) (h2 : i < l.length) : idxD (.lst l) (.int i) = .ok (l.getD i.toNat .non) := by
  show (match atD l i with | some d => Res.ok d | none => .bad) = _
  rw [at_pos h h2, getD_some (by omega)]
theorem idx_tup {l : List D} {i : Int} (h : 0 ≤ i) (h2 : i < l.length) : idxD (.tup l) (.int i) = .ok (l.getD i.toNat .non) := by
  show (match atD l i with | some d => Res.ok d | none => .bad) = _
  rw [at_pos h h2, getD_some (by omega)]
theorem idx_lstN {l : List D} {i : Int} (h : i < 0) (h2 : -(l.length : Int) ≤ i) : idxD (.lst l) (.int i) = .ok (l.getD (i + l.length).toNat .non) := by
  show (match atD l i with | some d => Res.ok d | none => .bad) = _
  rw [at_neg h h2, getD_some (by omega)]
theorem idx_tupN {l : List D} {i : Int} (h : i < 0) (h2 : -(l.length : Int) ≤ i) : idxD (.tup l) (.int i) = .ok (l.getD (i + l.length).toNat .non) := by
  show (match atD l i with | some d => Res.ok d | none => .bad) = _
  rw [at_neg h h2, getD_some (by omega)]
theorem idx_scr {l : List Int} {i : Int} (h : 0 ≤ i) (h2 : i < l.length) : idxD (.scr l) (.int i) = .ok (.int (l.getD i.toNat 0)) := by
  show (match atD l i with | some d => Res.ok (D.int d) | none => .bad) = _
  rw [at_pos h h2, List.getD_eq_getElem?_getD, List.getElem?_eq_getElem (by omega)]
  rfl
theorem idx_str {l : List Nat} {i : Int} (h : 0 ≤ i) (h2 : i < l.length) (h3 : l.length ≤ 16777216) : idxD (.str l) (.int i) = .ok (.str [l.getD i.toNat 0]) := by
  show (if l.length ≤ MAXL then (match atD l i with | some c => Res.ok (D.str [c]) | none => .bad) else .bad) = _
  rw [if_pos (show l.length ≤ MAXL from h3), at_pos h h2, List.getD_eq_getElem?_getD, List.getElem?_eq_getElem (by omega)]
  rfl
theorem slice_str {l : List Nat} {lo hi : Option Int} (h : l.length ≤ 16777216) : sliceD (.str l) lo hi = .ok (.str (cutD l lo hi)) := if_pos h
theorem slice_tup (l : List D) (lo hi : Option Int) : sliceD (.tup l) lo hi = .ok (.tup (cutD l lo hi)) := rfl
theorem slice_lst (l : List D) (lo hi : Option Int) : sliceD (.lst l) lo hi = .ok (.lst (cutD l lo hi)) := rfl
theorem blt_lens {l : List Nat} (h : l.length ≤ 16777216) : bltD .len [.str l] = .ok (.int l.length) := if_pos h
theorem blt_lent (l : List D) : bltD .len [.tup l] = .ok (.int l.length) := rfl
theorem blt_lenl (l : List D) : bltD .len [.lst l] = .ok (.int l.length) := rfl
theorem blt_lenc (l : List Int) : bltD .len [.scr l] = .ok (.int l.length) := rfl
theorem blt_abs (i : Int) : bltD .abs [.int i] = .ok (.int (if i < 0 then -i else i)) := rfl
theorem blt_inti (i : Int) : bltD .int [.int i] = .ok (.int i) := rfl
theorem blt_intb (b : Bool) : bltD .int [.bl b] = .ok (.int (if b then 1 else 0)) := rfl
theorem blt_stri {i : Int} (h : -BIG < i) (h2 : i < BIG) : bltD .str [.int i] = .ok (.str (numS i)) := if_pos ⟨h, h2⟩
theorem blt_tupt (l : List D) : bltD .tuple [.tup l] = .ok (.tup l) := rfl
theorem blt_tupl (l : List D) : bltD .tuple [.lst l] = .ok (.tup l) := rfl
theorem blt_lstt (l : List D) : bltD .list [.tup l] = .ok (.lst l) := rfl
theorem blt_lstl (l : List D) : bltD .list [.lst l] = .ok (.lst l) := rfl
theorem blt_max (i j : Int) : bltD .max [.int i, .int j] = .ok (.int (if j > i then j else i)) := rfl
theorem blt_min (i j : Int) : bltD .min [.int i, .int j] = .ok (.int (if j < i then j else i)) := rfl
theorem isn_int (i : Int) : isNonD (.int i) = false := rfl
theorem isn_non : isNonD .non = true := rfl
theorem isn_tup (l : List D) : isNonD (.tup l) = false := rfl
theorem isn_lst (l : List D) : isNonD (.lst l) = false := rfl
theorem isn_str (l : List Nat) : isNonD (.str l) = false := rfl
theorem told_ok (d : D) : toldD (.ok d) = .ok (.tup [.str [116, 111, 108, 100], d]) := rfl
theorem told_x0 : toldD (.exc 0) = .ok (.tup [.str [114, 101, 102, 117, 115, 101, 100], .int 0]) := rfl
theorem told_x1 : toldD (.exc 1) = .ok (.tup [.str [114, 101, 102, 117, 115, 101, 100], .int 1]) := rfl
theorem told_x2 : toldD (.exc 2) = .ok (.tup [.str [114, 101, 102, 117, 115, 101, 100], .int 2]) := rfl
theorem told_x3 : toldD (.exc 3) = .ok (.tup [.str [114, 101, 102, 117, 115, 101, 100], .int 3]) := rfl
theorem told_x4 : toldD (.exc 4) = .ok (.tup [.str [114, 101, 102, 117, 115, 101, 100], .int 4]) := rfl
/-! ### loops -/
section
variable {c : Env → Res Bool} {b : Env → Res Out}
theorem while_stop {ρ : Env} (h : c ρ = .ok false) : whileD c b ρ = .ok (.nx ρ) := whileD_of (n := 1) (by unfold whileN; rw [h])
theorem while_rt {ρ : Env} {d : D} (h : c ρ = .ok true) (h2 : b ρ = .ok (.rt d)) : whileD c b ρ = .ok (.rt d) := whileD_of (n := 1) (by unfold whileN; rw [h]; simp only [h2])
theorem while_exc {ρ : Env} {k : Nat} (h : c ρ = .ok true) (h2 : b ρ = .exc k) : whileD c b ρ = .exc k := whileD_of (n := 1) (by unfold whileN; rw [h]; simp only [h2])
theorem while_step {ρ ρ' : Env} (h : c ρ = .ok true) (h2 : b ρ = .ok (.nx ρ')) : whileD c b ρ = whileD c b ρ' := by
  by_cases he : ∃ r n, whileN c b n ρ' = some r
  · obtain ⟨r, n, e⟩ := he
    rw [whileD_of e, whileD_of (n := n + 1) (r := r) (by unfold whileN; rw [h]; simp only [h2]; exact e)]
  · have he2 : ¬∃ r n, whileN c b n ρ = some r := fun ⟨r, n, e⟩ => by
      cases n with
      | zero => cases e
      | succ n =>
        unfold whileN at e
        rw [h] at e
        simp only [h2] at e
        exact he ⟨r, n, e⟩
    unfold whileD
    rw [dif_neg he, dif_neg he2]
end
theorem for_nil (t : Tg) (b : Env → Res Out) (ρ : Env) : forD t b [] ρ = .ok (.nx ρ) := rfl
theorem for_name (i : Nat) (b : Env → Res Out) (d : D) (r : List D) (ρ : Env) : forD (.name i) b (d :: r) ρ = (b (setV ρ i (.pu d))).bind fun o => match o with
    | .nx ρ2 => forD (.name i) b r ρ2
    | .rt x => .ok (.rt x) := rfl
/-- a loop over things that keeps I and doesn't return -/
theorem for_keep {t : Tg} {b : Env → Res Out} (I : List D → Env → Prop) : ∀ (l : List D) (ρ : Env), I l ρ → (∀ d r ρ, I (d :: r) ρ → ∃ ρ1 ρ2, storeT t d ρ = .ok ρ1 ∧ b ρ1 = .ok (.nx ρ2) ∧ I r ρ2) → ∃ ρ', forD t b l ρ = .ok (.nx ρ') ∧ I [] ρ'
  | [], ρ, h, _ => ⟨ρ, rfl, h⟩
  | d :: r, ρ, h, k => by
    obtain ⟨ρ1, ρ2, e1, e2, e3⟩ := k d r ρ h
    obtain ⟨ρ', e4, e5⟩ := for_keep I r ρ2 e3 k
    refine ⟨ρ', ?_, e5⟩
    unfold forD
    rw [e1]
    show (b ρ1).bind _ = _
    rw [e2]
    exact e4
theorem comp_nil (f : D → Res (Option D)) : compD f [] = .ok [] := rfl
theorem comp_cons {f : D → Res (Option D)} {d x : D} {r : List D} (h : f d = .ok (some x)) : compD f (d :: r) = (compD f r).bind fun l => .ok (x :: l) := by
  conv => lhs; unfold compD
  rw [h]
theorem comp_skip {f : D → Res (Option D)} {d : D} {r : List D} (h : f d = .ok none) : compD f (d :: r) = compD f r := by
  conv => lhs; unfold compD
  rw [h]
/-- a comprehension that keeps all -/
theorem comp_map {f : D → Res (Option D)} {u : D → D} : ∀ (l : List D), (∀ d ∈ l, f d = .ok (some (u d))) → compD f l = .ok (l.map u)
  | [], _ => rfl
  | d :: r, h => by
    rw [comp_cons (h d List.mem_cons_self), comp_map r fun e he => h e (List.mem_cons_of_mem _ he)]
    rfl
theorem comp_filter {f : D → Res (Option D)} {u : D → Option D} : ∀ (l : List D), (∀ d ∈ l, f d = .ok (u d)) → compD f l = .ok (l.filterMap u)
  | [], _ => rfl
  | d :: r, h => by
    have e := h d List.mem_cons_self
    have ih := comp_filter r fun e he => h e (List.mem_cons_of_mem _ he)
    cases q : u d with
    | none => rw [comp_skip (by rw [e, q]), ih, List.filterMap_cons, q]
    | some x =>
      rw [comp_cons (by rw [e, q]), ih, List.filterMap_cons, q]
      rfl
theorem numS_len {i : Int} (h : -BIG < i) (h2 : i < BIG) : (numS i).length ≤ 501 := by
  have hb : i.natAbs < 10 ^ 500 := by
    have : ((i.natAbs : Nat) : Int) < ((10 ^ 500 : Nat) : Int) := by
      have e : ((10 ^ 500 : Nat) : Int) = BIG := by unfold BIG; push_cast; rfl
      rw [e]
      omega
    exact Int.ofNat_lt.mp this
  have e := int_text_length_le10 (k := 500) (by decide) hb
  clear hb h h2
  have e2 : (numS i).length = (Str.ofString (toString i)).length := by
    show _ = (Str.ofString (toString i)).cps.size
    rw [← Array.length_toList]
    rfl
  rw [e2, PySem.ofString_length]
  exact e
/-! ### short tuples -/
theorem ix0 (a : D) (l : List D) : idxD (.tup (a :: l)) (.int 0) = .ok a := by
  rw [idx_tup (by omega) (by simp only [List.length_cons]; omega)]; rfl
theorem ix1 (a b : D) (l : List D) : idxD (.tup (a :: b :: l)) (.int 1) = .ok b := by
  rw [idx_tup (by omega) (by simp only [List.length_cons]; omega)]; rfl
theorem ix2 (a b c : D) (l : List D) : idxD (.tup (a :: b :: c :: l)) (.int 2) = .ok c := by
  rw [idx_tup (by omega) (by simp only [List.length_cons]; omega)]; rfl
theorem ix3 (a b c d : D) (l : List D) : idxD (.tup (a :: b :: c :: d :: l)) (.int 3) = .ok d := by
  rw [idx_tup (by omega) (by simp only [List.length_cons]; omega)]; rfl
theorem ix4 (a b c d e : D) (l : List D) : idxD (.tup (a :: b :: c :: d :: e :: l)) (.int 4) = .ok e := by
  rw [idx_tup (by omega) (by simp only [List.length_cons]; omega)]; rfl
theorem ix5 (a b c d e f : D) (l : List D) : idxD (.tup (a :: b :: c :: d :: e :: f :: l)) (.int 5) = .ok f := by
  rw [idx_tup (by omega) (by simp only [List.length_cons]; omega)]; rfl
theorem ixm1 (a b : D) : idxD (.tup [a, b]) (.int (-1)) = .ok b := by
  rw [idx_tupN (by omega) (by simp only [List.length_cons, List.length_nil]; omega)]; rfl
/-! ### numbers -/
/-- the signs of a size -/
def fig (a : Int) : Int := (numS (if a < 0 then -a else a)).length
theorem absB {a : Int} (h : -BIG < a ∧ a < BIG) : -BIG < (if a < 0 then -a else a) ∧ (if a < 0 then -a else a) < BIG := by
  split <;> omega
theorem numS_pos {i : Int} : 1 ≤ (numS i).length := by
  have e2 : (numS i).length = (Str.ofString (toString i)).length := by
    show _ = (Str.ofString (toString i)).cps.size
    rw [← Array.length_toList]
    rfl
  rw [e2, PySem.ofString_length]
  cases i with
  | ofNat m =>
    have e : toString (Int.ofNat m) = Nat.repr m := rfl
    rw [e]
    have := Nat.length_repr_pos (n := m)
    omega
  | negSucc m =>
    have e : toString (Int.negSucc m) = "-" ++ Nat.repr (m + 1) := rfl
    rw [e, String.length_append]
    have e1 : "-".length = 1 := rfl
    omega
theorem numS_le {i : Int} {k : Nat} (hk : 0 < k) (h0 : 0 ≤ i) (h : i < 10 ^ k) : (numS i).length ≤ k := by
  have e2 : (numS i).length = (Str.ofString (toString i)).length := by
    show _ = (Str.ofString (toString i)).cps.size
    rw [← Array.length_toList]
    rfl
  rw [e2, PySem.ofString_length]
  obtain ⟨m, rfl⟩ := Int.eq_ofNat_of_zero_le h0
  have e : toString ((m : Nat) : Int) = Nat.repr m := rfl
  rw [e]
  exact (Nat.length_repr_le_iff hk).mpr (by exact_mod_cast h)
theorem numS_le' {i : Int} {k : Nat} (hk : 0 < k) (h0 : 0 ≤ i) (h : (numS i).length ≤ k) : i < 10 ^ k := by
  have e2 : (numS i).length = (Str.ofString (toString i)).length := by
    show _ = (Str.ofString (toString i)).cps.size
    rw [← Array.length_toList]
    rfl
  rw [e2, PySem.ofString_length] at h
  obtain ⟨m, rfl⟩ := Int.eq_ofNat_of_zero_le h0
  have e : toString ((m : Nat) : Int) = Nat.repr m := rfl
  rw [e] at h
  have := (Nat.length_repr_le_iff hk).mp h
  exact_mod_cast this
theorem fig_ok {a : Int} (h : -BIG < a ∧ a < BIG) : 1 ≤ fig a ∧ fig a ≤ 501 := by
  have := numS_len (absB h).1 (absB h).2
  have := numS_pos (i := if a < 0 then -a else a)
  unfold fig
  omega
theorem big_lt {a : Int} (h : -18446744073709551616 < a) (h2 : a < 18446744073709551616) : -BIG < a ∧ a < BIG := by
  have := big64
  omega
/-- a number of the program -/
def Numb (a b : Int) : Prop := (a = 0 ∧ b = 0) ∨ (a ≠ 0 ∧ -100000000 < a ∧ a < 100000000 ∧ a % 10 ≠ 0 ∧ -40 ≤ b + fig a - 1 ∧ b + fig a - 1 ≤ 40)
instance (a b : Int) : Decidable (Numb a b) := by unfold Numb; infer_instance
/-! ### texts read as numbers -/
theorem int_text {l : List Nat} (h : AllDigits l) (hn : l ≠ []) (hl : l.length ≤ 640) : bltD .int [.str l] = .ok (.int (digitsVal l : Nat)) := by
  show (match intText? ⟨l.toArray⟩ with | some n => if l.length ≤ 640 then Res.ok (D.int n) else .bad | none => .bad) = _
  have e := intText_digits (x := ⟨l.toArray⟩) (by simpa using h) (by simpa using hn) (by show l.toArray.size ≤ 4300; simp; omega)
  rw [e]
  simp [hl]
theorem reps_one {α : Type} (a : α) (k : Nat) : reps k [a] = List.replicate k a := by
  unfold reps
  induction k with
  | zero => rfl
  | succ k ih => rw [List.replicate_succ, List.flatten_cons, ih, List.replicate_succ]; rfl
theorem val_zeros : ∀ k : Nat, digitsVal (49 :: List.replicate k 48) = 10 ^ k
  | 0 => rfl
  | k + 1 => by
    rw [List.replicate_succ', ← List.cons_append, digitsVal_snoc, val_zeros k, Nat.pow_succ]
    omega
theorem ten_text {k : Nat} (h : k ≤ 600) : bltD .int [.str ([49] ++ reps k [48])] = .ok (.int (10 ^ k)) := by
  rw [reps_one, List.singleton_append, int_text (fun c hc => ?_) (by simp) (by simp; omega), val_zeros]
  · simp
  · simp only [List.mem_cons, List.mem_replicate] at hc
    omega
def numB : D → Bool
  | .tup [.int a, .int b] => decide (Numb a b)
  | _ => false
def FineI : D → Prop
  | .fn _ => False
  | .scr _ => False
  | .int a => -BIG < a ∧ a < BIG
  | _ => True
/-- what may be asked whether it is a number -/
def Fine : D → Prop
  | .tup l => ∀ x ∈ l, FineI x
  | .fn _ => False
  | .scr _ => False
  | _ => True
theorem isNumb_eq {a b : Int} (h : ¬a = 0) : decide (Numb a b) = (decide ((if a < 0 then -a else a) < 100000000) && (decide (¬a % 10 = 0) && (decide (-40 ≤ b + fig a - 1) && decide (b + fig a - 1 ≤ 40)))) := by
  rw [Bool.eq_iff_iff]
  simp only [decide_eq_true_eq, Bool.and_eq_true]
  unfold Numb
  constructor
  · rintro (⟨e, _⟩ | ⟨_, h1, h2, h3, h4, h5⟩)
    · exact absurd e h
    · exact ⟨by split <;> omega, h3, h4, h5⟩
  · rintro ⟨h1, h2, h3, h4⟩
    refine .inr ⟨h, ?_, ?_, h2, h3, h4⟩ <;> (split at h1 <;> omega)
theorem isNumb_zero {b : Int} : decide (Numb 0 b) = decide (b = 0) := by
  rw [Bool.eq_iff_iff]
  simp only [decide_eq_true_eq]
  unfold Numb
  constructor
  · rintro (⟨_, e⟩ | ⟨h, _⟩)
    · exact e
    · exact absurd rfl h
  · exact fun e => .inl ⟨rfl, e⟩
theorem nc0 : ((0 : Nat) : Int) = 0 := rfl
theorem nc1 : ((1 : Nat) : Int) = 1 := rfl
theorem nc2 : ((2 : Nat) : Int) = 2 := rfl
theorem nc3 : ((3 : Nat) : Int) = 3 := rfl
theorem nc4 : ((4 : Nat) : Int) = 4 := rfl
theorem nc5 : ((5 : Nat) : Int) = 5 := rfl
theorem nc6 : ((6 : Nat) : Int) = 6 := rfl
theorem nc7 : ((7 : Nat) : Int) = 7 := rfl
theorem nc8 : ((8 : Nat) : Int) = 8 := rfl
theorem nc9 : ((9 : Nat) : Int) = 9 := rfl
theorem nc10 : ((10 : Nat) : Int) = 10 := rfl
theorem nc11 : ((11 : Nat) : Int) = 11 := rfl
theorem nc12 : ((12 : Nat) : Int) = 12 := rfl
theorem numB1 (x : D) : numB (.tup [x]) = false := by cases x <;> rfl
theorem numB3 (x y z : D) (r : List D) : numB (.tup (x :: y :: z :: r)) = false := by cases x <;> first | rfl | (cases y <;> rfl)
theorem fine_getD {l : List D} {j : Nat} (h : ∀ x ∈ l, Fine x) : Fine (l.getD j .non) := by
  rw [List.getD_eq_getElem?_getD]
  cases e : l[j]? with
  | none => exact True.intro
  | some x => exact h x (List.mem_of_getElem? e)
theorem tup_getD_int {l : List D} {j : Nat} (h : ∀ x ∈ l, ∃ i : Int, x = .int i) (hj : j < l.length) : ∃ i : Int, l.getD j .non = .int i := h _ (getD_mem hj)
theorem rev_eq2 (a b : D) : [a, b].reverse = [b, a] := rfl
theorem cut_to1 (a b : D) : cutD [a, b] none (some 1) = [a] := rfl
/-! ### statement by statement -/
section
variable {call : Cl} {gl : Nat → Option D} {a : Sm} {r : Sms} {ρ ρ' : Env} {X : Res D} {Y : Res Out} {d : D} {c : Ex} {x y : Sms}
theorem st_ (h : denS call gl a ρ = .ok (.nx ρ')) (k : (denSs call gl r ρ').bind fin = X) : (denSs call gl (.cons a r) ρ).bind fin = X := by
  rw [denSs, h]; exact k
theorem sr_ (h : denS call gl a ρ = .ok (.rt d)) : (denSs call gl (.cons a r) ρ).bind fin = .ok d := by
  rw [denSs, h]; rfl
theorem sx_ {k : Nat} (h : denS call gl a ρ = .exc k) : (denSs call gl (.cons a r) ρ).bind fin = .exc k := by
  rw [denSs, h]; rfl
theorem sn_ : (denSs call gl .nil ρ).bind fin = .ok .non := by rw [denSs]; rfl
/-- an if that returns -/
theorem sit_ (h : den call gl c ρ = .ok (.bl true)) (k : (denSs call gl x ρ).bind fin = X) (hr : ∀ ρ', denSs call gl x ρ ≠ .ok (.nx ρ')) : (denSs call gl (.cons (.iff c x y) r) ρ).bind fin = X := by
  rw [denSs, denS, h]
  simp only [Res.bind_ok, truth, ↓reduceIte]
  cases e : denSs call gl x ρ with
  | ok o =>
    cases o with
    | nx ρ' => exact absurd e (hr ρ')
    | rt d => rw [e] at k; exact k
  | exc c => rw [e] at k; exact k
  | bad => rw [e] at k; exact k
theorem sif_ (h : den call gl c ρ = .ok (.bl false)) (k : (denSs call gl r ρ).bind fin = X) : (denSs call gl (.cons (.iff c x .nil) r) ρ).bind fin = X := by
  rw [denSs, denS, h]
  simp only [Res.bind_ok, truth, denSs, Bool.false_eq_true, ↓reduceIte]
  exact k
theorem sb_ (h : denSs call gl (.cons a r) ρ = Y) (k : Y.bind fin = X) : (denSs call gl (.cons a r) ρ).bind fin = X := by rw [h]; exact k
/-- the same with an outcome -/
theorem ot_ (h : denS call gl a ρ = .ok (.nx ρ')) (k : denSs call gl r ρ' = Y) : denSs call gl (.cons a r) ρ = Y := by
  rw [denSs, h]; exact k
theorem or_ (h : denS call gl a ρ = .ok (.rt d)) : denSs call gl (.cons a r) ρ = .ok (.rt d) := by
  rw [denSs, h]; rfl
theorem ox_ {k : Nat} (h : denS call gl a ρ = .exc k) : denSs call gl (.cons a r) ρ = .exc k := by
  rw [denSs, h]; rfl
theorem on_ : denSs call gl .nil ρ = .ok (.nx ρ) := by rw [denSs]
theorem oit_ (h : den call gl c ρ = .ok (.bl true)) (k : denSs call gl x ρ = Y) : denS call gl (.iff c x y) ρ = Y := by
  rw [denS, h]; exact k
theorem oif_ (h : den call gl c ρ = .ok (.bl false)) (k : denSs call gl y ρ = Y) : denS call gl (.iff c x y) ρ = Y := by
  rw [denS, h]; exact k
end
/-! ### texts -/
theorem cut_le {α : Type} (l : List α) (lo hi : Option Int) : (cutD l lo hi).length ≤ l.length := by
  unfold cutD
  rw [List.length_take, List.length_drop]
  omega
theorem cutIx_nat (n d m : Nat) : cutIx n d (some (m : Int)) = min m n := by
  show (if (m : Int) < 0 then ((m : Int) + (n : Int)).toNat else min (m : Int).toNat n) = _
  rw [if_neg (by omega)]
  rfl
theorem cut_take {α : Type} (l : List α) (n : Nat) : cutD l none (some (n : Int)) = l.take n := by
  unfold cutD
  rw [cutIx_nat]
  show (l.drop 0).take (min n l.length - 0) = _
  rw [List.drop_zero, Nat.sub_zero]
  by_cases h : n ≤ l.length
  · rw [Nat.min_eq_left (by omega)]
  · rw [Nat.min_eq_right (by omega), List.take_of_length_le (by omega), List.take_of_length_le (by omega)]
theorem cut_drop {α : Type} (l : List α) (n : Nat) : cutD l (some (n : Int)) none = l.drop n := by
  unfold cutD
  rw [cutIx_nat]
  show (l.drop (min n l.length)).take (l.length - min n l.length) = _
  rw [List.take_of_length_le (by rw [List.length_drop]; omega)]
  by_cases h : n ≤ l.length
  · rw [Nat.min_eq_left (by omega)]
  · rw [Nat.min_eq_right (by omega), List.drop_of_length_le (by omega), List.drop_of_length_le (by omega)]
theorem cut_take1 {α : Type} (l : List α) : cutD l none (some 1) = l.take 1 := cut_take l 1
theorem cut_drop1 {α : Type} (l : List α) : cutD l (some 1) none = l.drop 1 := cut_drop l 1
theorem mth_rjust {s : List Nat} {i : Int} {c : Nat} (h : -1000000 ≤ i) (h2 : i ≤ 1000000) : mthD .rjust (.str s) [.int i, .str [c]] = .ok (.str (List.replicate (i.toNat - s.length) c ++ s)) := if_pos ⟨h, h2⟩
theorem mthTy_rjust (s : List Nat) : mthTy .rjust (.str s) = true := rfl
/-- the text of figures at a power -/
def plainT (f : List Nat) (p : Int) : List Nat :=
  if 0 ≤ p then f ++ List.replicate p.toNat 48
  else cutD (List.replicate ((1 - p).toNat - f.length) 48 ++ f) none (some p) ++ [46] ++ cutD (List.replicate ((1 - p).toNat - f.length) 48 ++ f) (some p) none
/-- the signs of a size -/
def figS (a : Int) : List Nat := numS (if a < 0 then -a else a)
def signT (a : Int) : List Nat := if a < 0 then [45] else []
/-- the text of a number -/
def textT (a b : Int) : List Nat :=
  if -4 ≤ b + fig a - 1 ∧ b + fig a - 1 ≤ 9 then signT a ++ plainT (figS a) b
  else signT a ++ ((figS a).take 1 ++ ((if 1 < (figS a).length then [46] else []) ++ ((figS a).drop 1 ++ ([101] ++ numS (b + fig a - 1)))))
theorem reps_sign (a : Int) : reps (Int.toNat (if a < 0 then 1 else 0)) [45] = signT a := by
  unfold signT
  split <;> rfl
theorem figS_len {a : Int} (h : -BIG < a ∧ a < BIG) : 1 ≤ (figS a).length ∧ (figS a).length ≤ 501 ∧ ((figS a).length : Int) = fig a := by
  have := fig_ok h
  refine ⟨?_, ?_, rfl⟩ <;> (have e : ((figS a).length : Int) = fig a := rfl; omega)
theorem sign_len (a : Int) : (signT a).length ≤ 1 := by
  unfold signT
  split <;> simp
theorem big_small {a : Int} (h : -1000000 < a) (h2 : a < 1000000) : -BIG < a ∧ a < BIG := big_lt (by omega) (by omega)
theorem eqD_str (s t : List Nat) : eqD (.str s) (.str t) = some (decide (s = t)) := by
  show some (s == t) = _
  rw [← Bool.beq_eq_decide_eq]
theorem cmp_eqs (s t : List Nat) : cmpD .eq (.str s) (.str t) = .ok (.bl (decide (s = t))) := by
  show (match eqD (.str s) (.str t) with | some k => Res.ok (D.bl k) | none => .bad) = _
  rw [eqD_str]
theorem cmp_nes (s t : List Nat) : cmpD .ne (.str s) (.str t) = .ok (.bl (!decide (s = t))) := by
  show (match eqD (.str s) (.str t) with | some k => Res.ok (D.bl (!k)) | none => .bad) = _
  rw [eqD_str]
/-! ### comprehensions, as terms -/
section
variable {call : Cl} {gl : Nat → Option D} {own : List Nat} {t : Tg} {it : Itr_} {c : Exo} {e : Ex} {ρ : Env} {ds : List D}
theorem comp_filt (u : D → Option D) (hi : deni call gl it ρ = .ok ds) (hl : ds.length ≤ 16777216)
    (h : ∀ d ∈ ds, ∃ ρ2, storeT t d (wipeV ρ own) = .ok ρ2 ∧ ((∃ y, denc call gl c ρ2 = .ok true ∧ den call gl e ρ2 = .ok y ∧ u d = some y) ∨ (denc call gl c ρ2 = .ok false ∧ u d = none))) :
    den call gl (.comp own t it c e) ρ = .ok (.lst (ds.filterMap u)) := by
  have key : compD (fun d => (storeT t d (wipeV ρ own)).bind fun ρ2 => (denc call gl c ρ2).bind fun k => if k = true then (den call gl e ρ2).bind fun y => .ok (some y) else .ok none) ds = .ok (ds.filterMap u) := by
    refine comp_filter ds fun d hd => ?_
    obtain ⟨ρ2, e1, h2⟩ := h d hd
    rcases h2 with ⟨y, e2, e3, e4⟩ | ⟨e2, e4⟩
    · rw [e1, e4]
      show (denc call gl c ρ2).bind _ = _
      rw [e2]
      show (den call gl e ρ2).bind _ = _
      rw [e3]
      rfl
    · rw [e1, e4]
      show (denc call gl c ρ2).bind _ = _
      rw [e2]
      rfl
  have hl2 : (ds.filterMap u).length ≤ MAXL := Nat.le_trans (List.length_filterMap_le _ _) hl
  rw [den, hi]
  show (compD _ ds).bind _ = _
  rw [key]
  show (if (ds.filterMap u).length ≤ MAXL then _ else _) = _
  rw [if_pos hl2]
theorem comp_all (u : D → D) (hi : deni call gl it ρ = .ok ds) (hl : ds.length ≤ 16777216)
    (h : ∀ d ∈ ds, ∃ ρ2, storeT t d (wipeV ρ own) = .ok ρ2 ∧ denc call gl c ρ2 = .ok true ∧ den call gl e ρ2 = .ok (u d)) :
    den call gl (.comp own t it c e) ρ = .ok (.lst (ds.map u)) := by
  rw [comp_filt (fun d => some (u d)) hi hl fun d hd => by
    obtain ⟨ρ2, e1, e2, e3⟩ := h d hd
    exact ⟨ρ2, e1, .inl ⟨_, e2, e3, rfl⟩⟩]
  congr 2
  exact congrFun (List.filterMap_eq_map (f := u)) ds
theorem comp_some (P : D → Prop) (hi : deni call gl it ρ = .ok ds) (hl : ds.length ≤ 16777216)
    (h : ∀ d ∈ ds, ∃ ρ2 y, storeT t d (wipeV ρ own) = .ok ρ2 ∧ denc call gl c ρ2 = .ok true ∧ den call gl e ρ2 = .ok y ∧ P y) :
    ∃ ys, den call gl (.comp own t it c e) ρ = .ok (.lst ys) ∧ ys.length = ds.length ∧ ∀ y ∈ ys, P y := by
  classical
  let u : D → D := fun d => if hd : d ∈ ds then Classical.choose (Classical.choose_spec (h d hd)) else d
  refine ⟨ds.map u, comp_all u hi hl fun d hd => ?_, List.length_map _, fun y hy => ?_⟩
  · have := Classical.choose_spec (Classical.choose_spec (h d hd))
    refine ⟨_, this.1, this.2.1, ?_⟩
    show _ = Res.ok (if hd : d ∈ ds then Classical.choose (Classical.choose_spec (h d hd)) else d)
    rw [dif_pos hd]
    exact this.2.2.1
  · obtain ⟨d, hd, rfl⟩ := List.mem_map.mp hy
    have := Classical.choose_spec (Classical.choose_spec (h d hd))
    show P (if hd : d ∈ ds then Classical.choose (Classical.choose_spec (h d hd)) else d)
    rw [dif_pos hd]
    exact this.2.2.2
end
theorem upFrom_len : ∀ (n : Nat) (lo : Int), (upFrom lo n).length = n
  | 0, _ => rfl
  | n + 1, lo => by simp only [upFrom, List.length_cons, upFrom_len n]
theorem upFrom_mem : ∀ (n : Nat) (lo : Int) (d : D), d ∈ upFrom lo n → ∃ i : Int, d = .int i ∧ lo ≤ i ∧ i < lo + n
  | 0, _, _, h => by cases h
  | n + 1, lo, d, h => by
    simp only [upFrom, List.mem_cons] at h
    rcases h with rfl | h
    · exact ⟨lo, rfl, by omega, by omega⟩
    · obtain ⟨i, e, h1, h2⟩ := upFrom_mem n (lo + 1) d h
      exact ⟨i, e, by omega, by omega⟩
theorem range_ok {j : Int} (h : -4611686018427387904 ≤ j) (h2 : j < 4611686018427387904) : (if -(2 ^ 62) ≤ j ∧ j < 2 ^ 62 then Res.ok (upFrom 0 j.toNat) else .bad) = .ok (upFrom 0 j.toNat) := if_pos ⟨h, h2⟩
theorem allBl_map : ∀ (bs : List Bool), allBl (bs.map D.bl) = some bs
  | [] => rfl
  | b :: bs => by
    show (allBl (bs.map D.bl)).map _ = _
    rw [allBl_map bs]
    rfl
theorem blt_all (bs : List Bool) : bltD .all [.lst (bs.map D.bl)] = .ok (.bl (bs.all id)) := by
  show (match allBl (bs.map D.bl) with | some bs => Res.ok (D.bl (bs.all id)) | none => .bad) = _
  rw [allBl_map]
/-- data that == compares deep -/
def okE (y : D) : Bool := match toP y with
  | some p => p.canLay0 && decide (p.depth ≤ 60)
  | none => false
theorem okE_list : ∀ {ys : List D}, (∀ y ∈ ys, okE y = true) → ∃ ps, toPs ys = some ps ∧ ps.length = ys.length ∧ PyData.canLayAll0 ps = true ∧ PyData.depthAll ps ≤ 60
  | [], _ => ⟨[], rfl, rfl, rfl, by simp [PyData.depthAll]⟩
  | y :: ys, h => by
    obtain ⟨ps, e1, e2, e3, e4⟩ := okE_list fun z hz => h z (List.mem_cons_of_mem _ hz)
    have hy := h y List.mem_cons_self
    unfold okE at hy
    cases e : toP y with
    | none => rw [e] at hy; cases hy
    | some p =>
      rw [e] at hy
      simp only [Bool.and_eq_true, decide_eq_true_eq] at hy
      refine ⟨p :: ps, by simp [toPs, e, e1], by simp [e2], by simp [PyData.canLayAll0, hy.1, e3], ?_⟩
      simp only [PyData.depthAll]
      omega
theorem eq_empty_lst {ys : List D} (h : ∀ y ∈ ys, okE y = true) : cmpD .eq (.lst ys) (.lst []) = .ok (.bl ys.isEmpty) := by
  obtain ⟨ps, e1, e2, e3, e4⟩ := okE_list h
  have : eqD (.lst ys) (.lst []) = some ys.isEmpty := by
    show eqP (.lst ys) (.lst []) = _
    unfold eqP
    simp only [toP, e1, toPs, Option.map_some]
    rw [if_pos ⟨by
      have e5 : PyData.depthAll ps + 1 ≤ 64 := by omega
      simp [SeqAt.shaped, PyData.canLay0, e3, PyData.depth, e5], by simp [SeqAt.shaped, PyData.canLay0, PyData.canLayAll0, PyData.depth, PyData.depthAll]⟩]
    congr 1
    simp only [PyData.eqv]
    cases ps <;> cases ys <;> first | rfl | (simp at e2; done) | simp [PyData.eqvAll]
  show (match eqD (.lst ys) (.lst []) with | some k => Res.ok (D.bl k) | none => .bad) = _
  rw [this]
theorem eq_empty_tup {ys : List D} (h : ∀ y ∈ ys, okE y = true) : cmpD .eq (.tup ys) (.tup []) = .ok (.bl ys.isEmpty) := by
  obtain ⟨ps, e1, e2, e3, e4⟩ := okE_list h
  have : eqD (.tup ys) (.tup []) = some ys.isEmpty := by
    show eqP (.tup ys) (.tup []) = _
    unfold eqP
    simp only [toP, e1, toPs, Option.map_some]
    rw [if_pos ⟨by
      have e5 : PyData.depthAll ps + 1 ≤ 64 := by omega
      simp [SeqAt.shaped, PyData.canLay0, e3, PyData.depth, e5], by simp [SeqAt.shaped, PyData.canLay0, PyData.canLayAll0, PyData.depth, PyData.depthAll]⟩]
    congr 1
    simp only [PyData.eqv]
    cases ps <;> cases ys <;> first | rfl | (simp at e2; done) | simp [PyData.eqvAll]
  show (match eqD (.tup ys) (.tup []) with | some k => Res.ok (D.bl k) | none => .bad) = _
  rw [this]
/-! ### terms by their parts -/
section
variable {call : Cl} {gl : Nat → Option D} {ρ ρ' : Env} {e a b : Ex} {x y d : D} {t : Tg}
theorem ret_ (h : den call gl e ρ = .ok d) : denS call gl (.ret e) ρ = .ok (.rt d) := by rw [denS, h]; rfl
theorem set_ (h : den call gl e ρ = .ok d) (h2 : storeT t d ρ = .ok ρ') : denS call gl (.set t e) ρ = .ok (.nx ρ') := by
  rw [denS, h]
  show (storeT t d ρ).bind _ = _
  rw [h2]
  rfl
theorem den_blt1 {f : Blt} (h : den call gl a ρ = .ok x) : den call gl (.blt f (.cons a .nil)) ρ = bltD f [x] := by
  rw [den, dens, dens, h]
  rfl
theorem den_cmp {o : COp} (h : den call gl a ρ = .ok x) (h2 : den call gl b ρ = .ok y) : den call gl (.cmp o a b) ρ = cmpD o x y := by
  rw [den, h]
  show (den call gl b ρ).bind _ = _
  rw [h2]
  rfl
theorem den_andT (h : den call gl a ρ = .ok (.bl true)) {k : Bool} (h2 : den call gl b ρ = .ok (.bl k)) : den call gl (.and a b) ρ = .ok (.bl k) := by
  rw [den, h]
  simp only [Res.bind_ok, truth, ↓reduceIte, h2]
theorem den_andF (h : den call gl a ρ = .ok (.bl false)) : den call gl (.and a b) ρ = .ok (.bl false) := by
  rw [den, h]
  rfl
end
/-! ### texts joined -/
theorem join_len (s : List Nat) (ys : List (List Nat)) : (Txt.join (mkS s) (ys.map mkS)).cps.toList.length ≤ (ys.map List.length).sum + ys.length * s.length := by
  have e : Txt.join (mkS s) (ys.map mkS) = Str.join (mkS s) (ys.map mkS) := PySem.StrLaws.glued_eq_join _ _
  rw [e]
  have h := PySem.StrLaws.join_length_le (mkS s) (ys.map mkS)
  have e1 : ((ys.map mkS).map (·.length)).sum = (ys.map List.length).sum := by
    rw [List.map_map]
    congr 1
  rw [e1, List.length_map, str_len] at h
  have e2 : ∀ z : Str, z.cps.toList.length = z.length := fun z => by rw [Array.length_toList]; rfl
  rw [e2]
  exact h
theorem mth_joinT {s : List Nat} {l : List D} {ys : List (List Nat)} (h : allStr l = some ys) (hb : (ys.map List.length).sum + ys.length * s.length ≤ 16777216) : mthD .join (.str s) [.tup l] = .ok (.str (Txt.join (mkS s) (ys.map mkS)).cps.toList) := by
  simp only [mthD, h]
  exact if_pos hb
theorem mth_joinL {s : List Nat} {l : List D} {ys : List (List Nat)} (h : allStr l = some ys) (hb : (ys.map List.length).sum + ys.length * s.length ≤ 16777216) : mthD .join (.str s) [.lst l] = .ok (.str (Txt.join (mkS s) (ys.map mkS)).cps.toList) := by
  simp only [mthD, h]
  exact if_pos hb
theorem mthTy_join (s : List Nat) : mthTy .join (.str s) = true := rfl
theorem allStr_of (n : Nat) : ∀ {l : List D}, (∀ d ∈ l, ∃ s : List Nat, d = .str s ∧ s.length ≤ n) → ∃ ys, allStr l = some ys ∧ ys.length = l.length ∧ (ys.map List.length).sum ≤ n * l.length
  | [], _ => ⟨[], rfl, rfl, by simp⟩
  | d :: l, h => by
    obtain ⟨s, rfl, hs⟩ := h d List.mem_cons_self
    obtain ⟨ys, e1, e2, e3⟩ := allStr_of n fun z hz => h z (List.mem_cons_of_mem _ hz)
    refine ⟨s :: ys, by simp [allStr, e1], by simp [e2], ?_⟩
    rw [List.map_cons, List.sum_cons, List.length_cons, Nat.mul_succ]
    omega
end Ev
set_option Elab.async false
set_option linter.all false
set_option maxRecDepth 100000
set_option maxHeartbeats 4000000
/-! EvQ: numbers of eight figures, in plain Lean. -/
namespace Ev
open PySem PySem.Spec PyProof.Rows L2
/-! ### loops, by their parts -/
theorem for_cons {t : Tg} {b : Env → Res Out} {d : D} {r : List D} {ρ ρ1 ρ2 : Env} {Y : Res Out} (hs : storeT t d ρ = .ok ρ1) (h : b ρ1 = .ok (.nx ρ2)) (k : forD t b r ρ2 = Y) : forD t b (d :: r) ρ = Y := by
  rw [forD, hs]
  show (b ρ1).bind _ = _
  rw [h]
  exact k
theorem for_ret {t : Tg} {b : Env → Res Out} {d x : D} {r : List D} {ρ ρ1 : Env} (hs : storeT t d ρ = .ok ρ1) (h : b ρ1 = .ok (.rt x)) : forD t b (d :: r) ρ = .ok (.rt x) := by
  rw [forD, hs]
  show (b ρ1).bind _ = _
  rw [h]
  rfl
theorem for_exc {t : Tg} {b : Env → Res Out} {d : D} {c : Nat} {r : List D} {ρ ρ1 : Env} (hs : storeT t d ρ = .ok ρ1) (h : b ρ1 = .exc c) : forD t b (d :: r) ρ = .exc c := by
  rw [forD, hs]
  show (b ρ1).bind _ = _
  rw [h]
  rfl
theorem dfor_ {call : Cl} {gl : Nat → Option D} {t : Tg} {it : Itr_} {b : Sms} {ρ : Env} {ds : List D} {Y : Res Out} (hi : deni call gl it ρ = .ok ds) (h : forD t (fun ρ => denSs call gl b ρ) ds ρ = Y) : denS call gl (.for_ t it b) ρ = Y := by
  rw [denS, hi]
  exact h
theorem dwhile_ {call : Cl} {gl : Nat → Option D} {c : Ex} {b : Sms} {ρ : Env} {Y : Res Out} (h : whileD (fun ρ => (den call gl c ρ).bind truth) (fun ρ => denSs call gl b ρ) ρ = Y) : denS call gl (.while_ c b) ρ = Y := by
  rw [denS]
  exact h
/-- a statement whose outcome is told by a property -/
theorem ex_st {call : Cl} {gl : Nat → Option D} {a : Sm} {r : Sms} {ρ : Env} {Q : Res D → Prop} {P : Env → Prop} (h : ∃ ρ', denS call gl a ρ = .ok (.nx ρ') ∧ P ρ') (k : ∀ ρ', P ρ' → Q ((denSs call gl r ρ').bind fin)) : Q ((denSs call gl (.cons a r) ρ).bind fin) := by
  obtain ⟨ρ', e, p⟩ := h
  have : (denSs call gl (.cons a r) ρ).bind fin = (denSs call gl r ρ').bind fin := by rw [denSs, e]; rfl
  rw [this]
  exact k ρ' p
theorem mul_bd {x y a b : Int} (hx : 0 < x ∧ x < a) (hy : 0 < y ∧ y ≤ b) : 0 < x * y ∧ x * y < a * b := by
  have e1 := Int.mul_pos hx.1 hy.1
  have e2 : x * y < a * y := Int.mul_lt_mul_of_pos_right hx.2 hy.1
  have e3 : a * y ≤ a * b := Int.mul_le_mul_of_nonneg_left hy.2 (by omega)
  omega
theorem den_orT {call : Cl} {gl : Nat → Option D} {ρ : Env} {a b : Ex} (h : den call gl a ρ = .ok (.bl true)) : den call gl (.or a b) ρ = .ok (.bl true) := by
  rw [den, h]
  rfl
theorem den_orF {call : Cl} {gl : Nat → Option D} {ρ : Env} {a b : Ex} (h : den call gl a ρ = .ok (.bl false)) {k : Bool} (h2 : den call gl b ρ = .ok (.bl k)) : den call gl (.or a b) ρ = .ok (.bl k) := by
  rw [den, h]
  simp only [Res.bind_ok, truth, Bool.false_eq_true, if_false, h2]
/-! ### powers of ten -/
def T (p : Int) : Int := 10 ^ p.toNat
theorem T_nat (n : Nat) : T n = 10 ^ n := rfl
theorem T_pos (p : Int) : 0 < T p := by
  unfold T
  exact Int.pow_pos (by omega)
theorem T_neg {p : Int} (h : p ≤ 0) : T p = 1 := by
  unfold T
  rw [show p.toNat = 0 by omega]
  rfl
theorem T_add {a b : Int} (ha : 0 ≤ a) (hb : 0 ≤ b) : T (a + b) = T a * T b := by
  unfold T
  rw [show (a + b).toNat = a.toNat + b.toNat by omega, Int.pow_add]
theorem T_succ {a : Int} (ha : 0 ≤ a) : T (a + 1) = 10 * T a := by
  rw [T_add ha (by omega), Int.mul_comm]
  rfl
theorem T_ge1 (p : Int) : 1 ≤ T p := T_pos p
theorem T_mono {a b : Int} (h : a ≤ b) : T a ≤ T b := by
  by_cases ha : a ≤ 0
  · rw [T_neg ha]; exact T_pos b
  · have e : T b = T a * T (b - a) := by rw [← T_add (by omega) (by omega)]; congr 1; omega
    rw [e]
    have := Int.mul_le_mul_of_nonneg_left (T_ge1 (b - a)) (Int.le_of_lt (T_pos a))
    omega
theorem T_lt {a b : Int} (h : a < b) (hb : 0 < b) : T a < T b := by
  have e : T b = 10 * T (b - 1) := by rw [← T_succ (by omega)]; congr 1; omega
  have := T_mono (a := a) (b := b - 1) (by omega)
  have := T_pos (b - 1)
  omega
theorem T500 : T 500 = BIG := rfl
theorem T_big {p : Int} (h : p < 500) : T p < BIG := by
  rw [← T500]; exact T_lt h (by omega)
theorem T_mul {a b x y : Int} (ha : 0 ≤ a) (hb : 0 ≤ b) (hx : 0 ≤ x) (h1 : x < T a) (h2 : y < T b) (hy : 0 ≤ y) : x * y < T (a + b) := by
  rw [T_add ha hb]
  have e1 : x * y ≤ x * T b := Int.mul_le_mul_of_nonneg_left (Int.le_of_lt h2) hx
  have e2 : x * T b < T a * T b := Int.mul_lt_mul_of_pos_right h1 (T_pos b)
  omega
/-! ### figures -/
theorem figP {a : Int} (h : 0 < a) (hb : a < BIG) : 1 ≤ fig a ∧ T (fig a - 1) ≤ a ∧ a < T (fig a) := by
  have hf := fig_ok (a := a) ⟨by have := big64; omega, hb⟩
  have e : fig a = ((numS a).length : Int) := by unfold fig; rw [if_neg (by omega)]
  refine ⟨hf.1, ?_, ?_⟩
  · by_cases h1 : (numS a).length = 1
    · rw [T_neg (by omega)]; omega
    · refine Int.not_lt.mp fun hz => ?_
      have := numS_le (i := a) (k := (numS a).length - 1) (by omega) (by omega) (by
        have e2 : T (fig a - 1) = 10 ^ ((numS a).length - 1) := by
          unfold T
          rw [show (fig a - 1).toNat = (numS a).length - 1 by omega]
        rw [← e2]; exact hz)
      omega
  · have := numS_le' (i := a) (k := (numS a).length) numS_pos (by omega) (Nat.le_refl _)
    rw [e]
    exact this
theorem figU {a n : Int} (h : 0 < a) (hb : a < BIG) (hn : 1 ≤ n) (h1 : T (n - 1) ≤ a) (h2 : a < T n) : fig a = n := by
  obtain ⟨f1, f2, f3⟩ := figP h hb
  by_cases c : fig a < n
  · have := T_mono (a := fig a) (b := n - 1) (by omega)
    omega
  · by_cases c2 : n < fig a
    · have := T_mono (a := n) (b := fig a - 1) (by omega)
      omega
    · omega
theorem fig_abs (a : Int) : fig (-a) = fig a := by
  unfold fig
  congr 2
  congr 1
  split <;> split <;> omega
theorem fig10 {a : Int} (h : 0 < a) (hb : 10 * a < BIG) : fig (10 * a) = fig a + 1 := by
  obtain ⟨f1, f2, f3⟩ := figP h (by omega)
  refine figU (by omega) hb (by omega) ?_ ?_
  · rw [show fig a + 1 - 1 = (fig a - 1) + 1 by omega, T_succ (by omega)]; omega
  · rw [T_succ (by omega)]; omega
/-! ### the power of ten under a fraction -/
def pU (u p : Int) : Int := u * T (-p)
def pL (l p : Int) : Int := l * T p
def p0 (u l : Int) : Int := fig u - fig l - 8
def pw (u l : Int) : Int := if 100000000 * pL l (p0 u l) ≤ pU u (p0 u l) then p0 u l + 1 else p0 u l
theorem t7 : T 7 = 10000000 := rfl
theorem t8 : T 8 = 100000000 := rfl
theorem t9 : T 9 = 1000000000 := rfl
section
variable {u l : Int}
theorem p0_low (hu : 0 < u) (hl : 0 < l) (bu : u < BIG) (bl : l < BIG) : 10000000 * pL l (p0 u l) ≤ pU u (p0 u l) := by
  obtain ⟨f1, f2, f3⟩ := figP hu bu
  obtain ⟨g1, g2, g3⟩ := figP hl bl
  unfold pL pU
  by_cases h : 0 ≤ p0 u l
  · rw [T_neg (p := -p0 u l) (by omega), Int.mul_one]
    have e : T (fig u - 1) = 10000000 * (T (fig l) * T (p0 u l)) := by
      rw [← T_add (by omega) h, ← t7, ← T_add (by omega) (by omega)]
      congr 1
      unfold p0
      omega
    have := Int.mul_le_mul_of_nonneg_right (Int.le_of_lt g3) (Int.le_of_lt (T_pos (p0 u l)))
    omega
  · rw [T_neg (p := p0 u l) (by omega), Int.mul_one]
    have e : T (fig u - 1) * T (-p0 u l) = 10000000 * T (fig l) := by
      rw [← T_add (by omega) (by omega), ← t7, ← T_add (by omega) (by omega)]
      congr 1
      unfold p0
      omega
    have := Int.mul_le_mul_of_nonneg_right f2 (Int.le_of_lt (T_pos (-p0 u l)))
    omega
theorem p0_high (hu : 0 < u) (hl : 0 < l) (bu : u < BIG) (bl : l < BIG) : pU u (p0 u l) < 1000000000 * pL l (p0 u l) := by
  obtain ⟨f1, f2, f3⟩ := figP hu bu
  obtain ⟨g1, g2, g3⟩ := figP hl bl
  unfold pL pU
  by_cases h : 0 ≤ p0 u l
  · rw [T_neg (p := -p0 u l) (by omega), Int.mul_one]
    have e : T (fig u) = 1000000000 * (T (fig l - 1) * T (p0 u l)) := by
      rw [← T_add (by omega) h, ← t9, ← T_add (by omega) (by omega)]
      congr 1
      unfold p0
      omega
    have := Int.mul_le_mul_of_nonneg_right g2 (Int.le_of_lt (T_pos (p0 u l)))
    omega
  · rw [T_neg (p := p0 u l) (by omega), Int.mul_one]
    have e : T (fig u) * T (-p0 u l) = 1000000000 * T (fig l - 1) := by
      rw [← T_add (by omega) (by omega), ← t9, ← T_add (by omega) (by omega)]
      congr 1
      unfold p0
      omega
    have := Int.mul_lt_mul_of_pos_right f3 (T_pos (-p0 u l))
    omega
theorem p_step (u l p : Int) : (pU u (p + 1) = pU u p ∧ pL l (p + 1) = 10 * pL l p) ∨ (pU u p = 10 * pU u (p + 1) ∧ pL l (p + 1) = pL l p) := by
  unfold pU pL
  by_cases h : 0 ≤ p
  · left
    rw [T_neg (p := -p) (by omega), T_neg (p := -(p + 1)) (by omega), T_succ h]
    refine ⟨rfl, ?_⟩
    rw [← Int.mul_assoc, Int.mul_comm l 10, Int.mul_assoc]
  · right
    rw [T_neg (p := p) (by omega), T_neg (p := p + 1) (by omega), show -p = -(p + 1) + 1 by omega, T_succ (by omega)]
    refine ⟨?_, rfl⟩
    rw [← Int.mul_assoc, Int.mul_comm u 10, Int.mul_assoc]
theorem pw_ok (hu : 0 < u) (hl : 0 < l) (bu : u < BIG) (bl : l < BIG) : 10000000 * pL l (pw u l) ≤ pU u (pw u l) ∧ pU u (pw u l) < 100000000 * pL l (pw u l) := by
  have h1 := p0_low hu hl bu bl
  have h2 := p0_high hu hl bu bl
  unfold pw
  by_cases h : 100000000 * pL l (p0 u l) ≤ pU u (p0 u l)
  · rw [if_pos h]
    rcases p_step u l (p0 u l) with ⟨e1, e2⟩ | ⟨e1, e2⟩ <;> rw [e2] <;> omega
  · rw [if_neg h]
    exact ⟨h1, by omega⟩
theorem pL_pos (hl : 0 < l) (p : Int) : 0 < pL l p := Int.mul_pos hl (T_pos p)
end
/-! ### noughts behind -/
def stripN : Nat → Int → Int → Int × Int
  | 0, w, p => (w, p)
  | n + 1, w, p => if w % 10 = 0 then stripN n (w / 10) (p + 1) else (w, p)
def strip (w p : Int) : Int × Int := stripN w.natAbs w p
theorem stripN_ok : ∀ (n : Nat) (w p : Int), w ≠ 0 → w.natAbs ≤ n → -BIG < w ∧ w < BIG → (stripN n w p).1 ≠ 0 ∧ (stripN n w p).1 % 10 ≠ 0 ∧ p ≤ (stripN n w p).2 ∧ w = (stripN n w p).1 * T ((stripN n w p).2 - p) ∧ (stripN n w p).2 + fig (stripN n w p).1 = p + fig w ∧ (stripN n w p).1.natAbs ≤ w.natAbs ∧ (0 < w → 0 < (stripN n w p).1)
  | 0, w, p, h, hn, hb => by omega
  | n + 1, w, p, h, hn, hb => by
    unfold stripN
    by_cases e : w % 10 = 0
    · rw [if_pos e]
      obtain ⟨i1, i2, i3, i4, i5, i6, i7⟩ := stripN_ok n (w / 10) (p + 1) (by omega) (by omega) (by omega)
      refine ⟨i1, i2, by omega, ?_, ?_, by omega, fun hp => i7 (by omega)⟩
      · rw [show (stripN n (w / 10) (p + 1)).2 - p = ((stripN n (w / 10) (p + 1)).2 - (p + 1)) + 1 by omega, T_succ (by omega), ← Int.mul_assoc, Int.mul_comm _ 10, Int.mul_assoc, ← i4]
        omega
      · rw [i5]
        have hw : w = 10 * (w / 10) := by omega
        have : fig w = fig (w / 10) + 1 := by
          by_cases hp : 0 < w
          · conv => lhs; rw [hw]
            exact fig10 (by omega) (by omega)
          · have q := fig10 (a := -(w / 10)) (by omega) (by omega)
            rw [fig_abs, show 10 * -(w / 10) = -w by omega, fig_abs] at q
            exact q
        omega
    · rw [if_neg e]
      refine ⟨h, e, by omega, ?_, rfl, Nat.le_refl _, fun z => z⟩
      show w = w * T (p - p)
      rw [show p - p = 0 by omega]
      show w = w * 1
      omega
theorem stripN_neg : ∀ (n : Nat) (w p : Int), stripN n (-w) p = (-(stripN n w p).1, (stripN n w p).2)
  | 0, w, p => rfl
  | n + 1, w, p => by
    unfold stripN
    by_cases e : w % 10 = 0
    · rw [if_pos e, if_pos (by omega), show -w / 10 = -(w / 10) by omega, stripN_neg n]
    · rw [if_neg e, if_neg (by omega)]
theorem stripN_more : ∀ (n m : Nat) (w p : Int), w ≠ 0 → w.natAbs ≤ n → n ≤ m → stripN m w p = stripN n w p
  | 0, m, w, p, h, hn, hm => by omega
  | n + 1, 0, w, p, h, hn, hm => by omega
  | n + 1, m + 1, w, p, h, hn, hm => by
    unfold stripN
    by_cases e : w % 10 = 0
    · rw [if_pos e, if_pos e]
      exact stripN_more n m (w / 10) (p + 1) (by omega) (by omega) (by omega)
    · rw [if_neg e, if_neg e]
theorem strip_neg (w p : Int) : strip (-w) p = (-(strip w p).1, (strip w p).2) := by
  unfold strip
  rw [Int.natAbs_neg]
  exact stripN_neg _ w p
/-! ### rounding -/
abbrev sEven : List Nat := [101, 118, 101, 110]
abbrev sAway : List Nat := [97, 119, 97, 121]
abbrev sNought : List Nat := [110, 111, 117, 103, 104, 116]
abbrev sUp : List Nat := [117, 112]
abbrev sDown : List Nat := [100, 111, 119, 110]
abbrev sMore : List Nat := [109, 111, 114, 101]
def isM (m : List Nat) : Prop := m = sEven ∨ m = sAway ∨ m = sNought ∨ m = sUp ∨ m = sDown
def byS (m : List Nat) (below : Bool) : List Nat := if m = sUp then (if below = true then sNought else sMore) else if m = sDown then (if below = true then sMore else sNought) else m
def takenF (W r L : Int) (m : List Nat) : Int :=
  if r = 0 then W else if m = sNought then W else if m = sMore then W + 1 else if 2 * r = L then W + (if m = sAway then 1 else if W % 2 = 1 then 1 else 0) else W + (if L < 2 * r then 1 else 0)
/-- a whole number times a power of ten, cut to size -/
def fitF (W p : Int) (below : Bool) (m : List Nat) : Option (Int × Int) :=
  if W = 0 then some (0, 0)
  else if 40 < (strip W p).2 + fig (strip W p).1 - 1 then none
  else if (strip W p).2 + fig (strip W p).1 - 1 < -40 then (if m = sMore then some (if below = true then -1 else 1, -40) else some (0, 0))
  else some ((if below = true then -1 else 1) * (strip W p).1, (strip W p).2)
def absI (a : Int) : Int := if a < 0 then -a else a
/-- what a fraction is rounded to -/
def exactV (u l : Int) (m : List Nat) : Option (Int × Int) :=
  if u = 0 then some (0, 0)
  else fitF (takenF (pU (absI u) (pw (absI u) (absI l)) / pL (absI l) (pw (absI u) (absI l))) (pU (absI u) (pw (absI u) (absI l)) % pL (absI l) (pw (absI u) (absI l))) (pL (absI l) (pw (absI u) (absI l))) (byS m (decide (u < 0) != decide (l < 0))))
    (pw (absI u) (absI l)) (decide (u < 0) != decide (l < 0)) (byS m (decide (u < 0) != decide (l < 0)))
theorem taken_le (W r L : Int) (m : List Nat) : W ≤ takenF W r L m ∧ takenF W r L m ≤ W + 1 := by
  unfold takenF
  repeat' split
  all_goals omega
/-- the same as the law reckons it -/
def eLaw (X L : Int) (m : List Nat) : Int :=
  if 0 < X % L then (if (m = sEven ∨ m = sAway) ∧ 2 * X - (2 * (X / L) + 1) * L = 0 then X / L + (if m = sAway then (if 0 < X then 1 else 0) else X / L % 2)
    else if m = sEven ∨ m = sAway then X / L + (if 0 < 2 * X - (2 * (X / L) + 1) * L then 1 else 0)
    else X / L + (if m = sUp ∨ (m = sNought ∧ X < 0) then 1 else 0)) else X / L
theorem twice_eq (X L : Int) : 2 * X - (2 * (X / L) + 1) * L = 2 * (X % L) - L := by
  have h := Int.emod_add_mul_ediv X L
  rw [Int.add_mul, Int.one_mul, Int.mul_assoc, Int.mul_comm (X / L) L]
  omega
theorem neg_div {U L : Int} (hL : 0 < L) (h : U % L = 0) : -U / L = -(U / L) ∧ -U % L = 0 := by
  have e := Int.emod_add_mul_ediv U L
  have := (Int.ediv_emod_unique (a := -U) (b := L) (r := 0) (q := -(U / L)) hL).mpr ⟨by rw [Int.mul_neg]; omega, by omega, hL⟩
  exact this
theorem neg_div2 {U L : Int} (hL : 0 < L) (h : U % L ≠ 0) : -U / L = -(U / L) - 1 ∧ -U % L = L - U % L := by
  have e := Int.emod_add_mul_ediv U L
  have h1 := Int.emod_nonneg U (show L ≠ 0 by omega)
  have h2 := Int.emod_lt_of_pos U hL
  exact (Int.ediv_emod_unique (a := -U) (b := L) (r := L - U % L) (q := -(U / L) - 1) hL).mpr ⟨by rw [Int.mul_sub, Int.mul_neg, Int.mul_one]; omega, by omega, by omega⟩
theorem eLaw_pos {U L : Int} (hU : 0 < U) (hL : 0 < L) {m : List Nat} (hm : isM m) : eLaw U L m = takenF (U / L) (U % L) L (byS m false) := by
  have h1 := Int.emod_nonneg U (show L ≠ 0 by omega)
  have h2 := Int.emod_lt_of_pos U hL
  have hw : (U / L) % 2 = 0 ∨ (U / L) % 2 = 1 := by omega
  unfold eLaw takenF byS
  rw [twice_eq]
  generalize U / L = W at *
  generalize U % L = r at *
  rcases hm with rfl | rfl | rfl | rfl | rfl
  all_goals simp (decide := true) only [if_true, if_false, true_and, and_true, false_and, true_or, or_true, or_false, false_or, ↓reduceIte]
  all_goals (repeat' split)
  all_goals omega
theorem eLaw_neg {U L : Int} (hU : 0 < U) (hL : 0 < L) {m : List Nat} (hm : isM m) : eLaw (-U) L m = -takenF (U / L) (U % L) L (byS m true) := by
  have h1 := Int.emod_nonneg U (show L ≠ 0 by omega)
  have h2 := Int.emod_lt_of_pos U hL
  have hw : (U / L) % 2 = 0 ∨ (U / L) % 2 = 1 := by omega
  unfold eLaw takenF byS
  rw [twice_eq]
  by_cases hz : U % L = 0
  · obtain ⟨e1, e2⟩ := neg_div hL hz
    rw [e1, e2, if_neg (by omega), if_pos hz]
  · obtain ⟨e1, e2⟩ := neg_div2 hL hz
    rw [e1, e2]
    generalize U / L = W at *
    generalize U % L = r at *
    rcases hm with rfl | rfl | rfl | rfl | rfl
    all_goals simp (decide := true) only [if_true, if_false, true_and, and_true, false_and, true_or, or_true, or_false, false_or, ↓reduceIte]
    all_goals (repeat' split)
    all_goals omega
/-! ### == of data, deep -/
def okS (s : List Nat) : Bool := s.all fun c => decide (c < 1114112)
/-- data that == compares, at most so deep -/
def pl : Nat → D → Bool
  | _, .non => true
  | _, .bl _ => true
  | _, .int _ => true
  | _, .str s => okS s
  | n + 1, .tup l => l.all (pl n)
  | n + 1, .lst l => l.all (pl n)
  | _, _ => false
mutual
def eqvD : D → D → Bool
  | .non, .non => true
  | .bl a, .bl b => a == b
  | .bl a, .int j => (if a then 1 else 0) == j
  | .int i, .bl b => i == (if b then 1 else 0)
  | .int i, .int j => i == j
  | .str x, .str y => x == y
  | .tup xs, .tup ys => eqvs xs ys
  | .lst xs, .lst ys => eqvs xs ys
  | _, _ => false
def eqvs : List D → List D → Bool
  | [], [] => true
  | x :: xs, y :: ys => eqvD x y && eqvs xs ys
  | _, _ => false
end
theorem okS_str {s : List Nat} (h : okS s = true) : PyData.strOk ⟨s.toArray⟩ = true := by
  unfold PyData.strOk
  show (s.toArray.all fun x => decide (x < 0x110000)) = true
  rw [List.all_toArray]
  exact h
mutual
theorem pl_toP : ∀ (d : D) (n : Nat), pl n d = true → ∃ p, toP d = some p ∧ p.canLay0 = true ∧ p.depth ≤ n
  | .non, n, _ => ⟨_, rfl, rfl, by simp [PyData.depth]⟩
  | .bl b, n, _ => ⟨_, rfl, rfl, by simp [PyData.depth]⟩
  | .int i, n, _ => ⟨_, rfl, rfl, by simp [PyData.depth]⟩
  | .str s, n, h => ⟨_, rfl, by
      have h : okS s = true := by cases n <;> exact h
      exact okS_str h, by simp [PyData.depth]⟩
  | .tup l, 0, h => by cases h
  | .lst l, 0, h => by cases h
  | .tup l, n + 1, h => by
    obtain ⟨ps, e1, e2, e3⟩ := pls_toP l n h
    exact ⟨.tuple ps, by simp [toP, e1], by simp [PyData.canLay0, e2], by simp [PyData.depth, e3]⟩
  | .lst l, n + 1, h => by
    obtain ⟨ps, e1, e2, e3⟩ := pls_toP l n h
    exact ⟨.list ps, by simp [toP, e1], by simp [PyData.canLay0, e2], by simp [PyData.depth, e3]⟩
  | .fn i, n, h => by cases n <;> cases h
  | .scr l, n, h => by cases n <;> cases h
theorem pls_toP : ∀ (l : List D) (n : Nat), l.all (pl n) = true → ∃ ps, toPs l = some ps ∧ PyData.canLayAll0 ps = true ∧ PyData.depthAll ps ≤ n
  | [], n, _ => ⟨[], rfl, rfl, by simp [PyData.depthAll]⟩
  | d :: l, n, h => by
    simp only [List.all_cons, Bool.and_eq_true] at h
    obtain ⟨p, e1, e2, e3⟩ := pl_toP d n h.1
    obtain ⟨ps, f1, f2, f3⟩ := pls_toP l n h.2
    exact ⟨p :: ps, by simp [toPs, e1, f1], by simp [PyData.canLayAll0, e2, f2], by simp only [PyData.depthAll]; omega⟩
end
mutual
theorem eqv_of : ∀ (a b : D) (p q : PyData), toP a = some p → toP b = some q → PyData.eqv p q = eqvD a b
  | .non, b, p, q, h1, h2 => by
    cases h1
    cases b <;> simp only [toP, Option.map_eq_some_iff, Option.some.injEq, reduceCtorEq] at h2 <;> first | (subst h2; rfl) | (obtain ⟨_, _, rfl⟩ := h2; rfl)
  | .bl x, b, p, q, h1, h2 => by
    cases h1
    cases b <;> simp only [toP, Option.map_eq_some_iff, Option.some.injEq, reduceCtorEq] at h2 <;> first | (subst h2; rfl) | (obtain ⟨_, _, rfl⟩ := h2; rfl)
  | .int x, b, p, q, h1, h2 => by
    cases h1
    cases b <;> simp only [toP, Option.map_eq_some_iff, Option.some.injEq, reduceCtorEq] at h2 <;> first | (subst h2; rfl) | (obtain ⟨_, _, rfl⟩ := h2; rfl)
  | .str x, b, p, q, h1, h2 => by
    cases h1
    cases b <;> simp only [toP, Option.map_eq_some_iff, Option.some.injEq, reduceCtorEq] at h2 <;> first | (subst h2; rfl; done) | (obtain ⟨_, _, rfl⟩ := h2; rfl; done) | skip
    rename_i y
    subst h2
    show ((⟨x.toArray⟩ : Str) == ⟨y.toArray⟩) = (x == y)
    rw [Bool.eq_iff_iff]
    simp
  | .tup x, b, p, q, h1, h2 => by
    simp only [toP, Option.map_eq_some_iff] at h1
    obtain ⟨ps, e1, rfl⟩ := h1
    cases b <;> simp only [toP, Option.map_eq_some_iff, Option.some.injEq, reduceCtorEq] at h2 <;> first | (subst h2; rfl; done) | skip
    · obtain ⟨qs, e2, rfl⟩ := h2
      exact eqvs_of x _ ps qs e1 e2
    · obtain ⟨qs, e2, rfl⟩ := h2
      rfl
  | .lst x, b, p, q, h1, h2 => by
    simp only [toP, Option.map_eq_some_iff] at h1
    obtain ⟨ps, e1, rfl⟩ := h1
    cases b <;> simp only [toP, Option.map_eq_some_iff, Option.some.injEq, reduceCtorEq] at h2 <;> first | (subst h2; rfl; done) | skip
    · obtain ⟨qs, e2, rfl⟩ := h2
      rfl
    · obtain ⟨qs, e2, rfl⟩ := h2
      exact eqvs_of x _ ps qs e1 e2
  | .fn i, b, p, q, h1, h2 => by cases h1
  | .scr i, b, p, q, h1, h2 => by cases h1
theorem eqvs_of : ∀ (a b : List D) (p q : List PyData), toPs a = some p → toPs b = some q → PyData.eqvAll p q = eqvs a b
  | [], [], p, q, h1, h2 => by cases h1; cases h2; rfl
  | [], y :: b, p, q, h1, h2 => by
    cases h1
    simp only [toPs, Option.bind_eq_some_iff, Option.map_eq_some_iff] at h2
    obtain ⟨_, _, _, _, rfl⟩ := h2
    rfl
  | x :: a, [], p, q, h1, h2 => by
    cases h2
    simp only [toPs, Option.bind_eq_some_iff, Option.map_eq_some_iff] at h1
    obtain ⟨_, _, _, _, rfl⟩ := h1
    rfl
  | x :: a, y :: b, p, q, h1, h2 => by
    simp only [toPs, Option.bind_eq_some_iff, Option.map_eq_some_iff] at h1 h2
    obtain ⟨p1, e1, ps, e2, rfl⟩ := h1
    obtain ⟨q1, f1, qs, f2, rfl⟩ := h2
    simp only [PyData.eqvAll, eqvs, eqv_of x y p1 q1 e1 f1, eqvs_of a b ps qs e2 f2]
end
theorem eqD_deep {a b : D} (ha : pl 60 a = true) (hb : pl 60 b = true) : eqD a b = some (eqvD a b) := by
  unfold eqD
  split
  · rename_i h
    cases a <;> cases b <;> first | (cases h; done) | rfl
  · obtain ⟨p, e1, e2, e3⟩ := pl_toP a 60 ha
    obtain ⟨q, f1, f2, f3⟩ := pl_toP b 60 hb
    unfold eqP
    simp only [e1, f1]
    rw [if_pos ⟨by simp only [SeqAt.shaped, e2, Bool.true_and, decide_eq_true_eq]; omega, by simp only [SeqAt.shaped, f2, Bool.true_and, decide_eq_true_eq]; omega⟩, eqv_of a b p q e1 f1]
theorem cmp_eqd {a b : D} (ha : pl 60 a = true) (hb : pl 60 b = true) : cmpD .eq a b = .ok (.bl (eqvD a b)) := by
  show (match eqD a b with | some k => Res.ok (D.bl k) | none => .bad) = _
  rw [eqD_deep ha hb]
theorem cmp_ned {a b : D} (ha : pl 60 a = true) (hb : pl 60 b = true) : cmpD .ne a b = .ok (.bl (!eqvD a b)) := by
  show (match eqD a b with | some k => Res.ok (D.bl (!k)) | none => .bad) = _
  rw [eqD_deep ha hb]
mutual
theorem eqvD_refl : ∀ (d : D) (n : Nat), pl n d = true → eqvD d d = true
  | .non, _, _ => rfl
  | .bl b, _, _ => by simp [eqvD]
  | .int i, _, _ => by simp [eqvD]
  | .str s, _, _ => by simp [eqvD]
  | .tup l, 0, h => by cases h
  | .lst l, 0, h => by cases h
  | .tup l, n + 1, h => eqvs_refl l n h
  | .lst l, n + 1, h => eqvs_refl l n h
  | .fn i, n, h => by cases n <;> cases h
  | .scr l, n, h => by cases n <;> cases h
theorem eqvs_refl : ∀ (l : List D) (n : Nat), l.all (pl n) = true → eqvs l l = true
  | [], _, _ => rfl
  | d :: l, n, h => by
    simp only [List.all_cons, Bool.and_eq_true] at h
    simp only [eqvs, eqvD_refl d n h.1, eqvs_refl l n h.2, Bool.and_self]
end
theorem cmp_self {d : D} (h : pl 60 d = true) : cmpD .eq d d = .ok (.bl true) := by rw [cmp_eqd h h, eqvD_refl d 60 h]
theorem cmp_nself {d : D} (h : pl 60 d = true) : cmpD .ne d d = .ok (.bl false) := by rw [cmp_ned h h, eqvD_refl d 60 h]; rfl
/-- a written tuple of ints, asked at a place -/
theorem idx_all {l : List Int} {P : Int → Prop} (i : Int) (h0 : 0 ≤ i) (h1 : i < (l.length : Int)) (hP : ∀ x ∈ l, P x) : ∃ v, idxD (.tup (l.map .int)) (.int i) = .ok (.int v) ∧ P v := by
  have hl : i.toNat < l.length := by omega
  refine ⟨l[i.toNat], ?_, hP _ (List.getElem_mem hl)⟩
  rw [idx_tup h0 (by rw [List.length_map]; exact h1), List.getD_eq_getElem?_getD, List.getElem?_map, List.getElem?_eq_getElem hl]
  rfl
/-! ### deeds -/
def pmin (b d : Int) : Int := if d < b then d else b
def lv (a b p : Int) : Int := a * T (b - p)
def sumV (a b c d : Int) (m : List Nat) : Option (Int × Int) := exactV ((lv a b (pmin b d) + lv c d (pmin b d)) * T (pmin b d)) (T (-pmin b d)) m
def prodV (a b c d : Int) (m : List Nat) : Option (Int × Int) := exactV (a * c * T (b + d)) (T (-(b + d))) m
def overV (a b c d : Int) (m : List Nat) : Option (Int × Int) := exactV (a * T (b - d)) (c * T (-(b - d))) m
def lessV (a b c d : Int) : Bool := decide (lv a b (pmin b d) < lv c d (pmin b d))
/-- a number's size, roughly -/
def Nm (a b : Int) : Prop := (-100000000 < a ∧ a < 100000000) ∧ -60 ≤ b ∧ b ≤ 60
theorem Numb.nm {a b : Int} (h : Numb a b) : Nm a b := by
  rcases h with ⟨rfl, rfl⟩ | ⟨h0, h1, h2, h3, h4, h5⟩
  · exact ⟨by omega, by omega, by omega⟩
  · have f := fig_ok (a := a) ⟨by have := big64; omega, by have := big64; omega⟩
    have f8 : fig a ≤ 8 := by
      unfold fig
      have := numS_le (i := if a < 0 then -a else a) (k := 8) (by omega) (by split <;> omega) (by split <;> omega)
      omega
    exact ⟨by omega, by omega, by omega⟩
theorem Nm.neg {a b : Int} (h : Nm a b) : Nm (-a) b := ⟨by have := h.1; omega, h.2⟩
def resD (e : Nat) : Option (Int × Int) → Res D
  | some (x, y) => .ok (.tup [.int x, .int y])
  | none => .exc e
def optD : Option (Int × Int) → D
  | some (x, y) => .tup [.int x, .int y]
  | none => .non
/-- what is told of such an outcome -/
def tV : Option (Int × Int) → D
  | some (x, y) => .tup [.str [116, 111, 108, 100], .tup [.int x, .int y]]
  | none => .tup [.str [114, 101, 102, 117, 115, 101, 100], .int 0]
theorem toldRes (v : Option (Int × Int)) : toldD (resD 0 v) = .ok (tV v) := by
  cases v <;> rfl
theorem absI_mul {a : Int} {p : Int} {c : Int} (h : -c < a ∧ a < c) : absI (a * T p) < c * T p := by
  have tp := T_pos p
  have e1 : a * T p < c * T p := Int.mul_lt_mul_of_pos_right h.2 tp
  have e2 : -c * T p < a * T p := Int.mul_lt_mul_of_pos_right h.1 tp
  rw [Int.neg_mul] at e2
  unfold absI
  split <;> omega
theorem lv_bd {a b p : Int} (h : Nm a b) (h1 : p ≤ b) (h2 : -60 ≤ p) : -T (8 + (b - p)) < lv a b p ∧ lv a b p < T (8 + (b - p)) := by
  have := absI_mul (a := a) (p := b - p) (c := 100000000) h.1
  rw [T_add (by omega) (by omega), t8]
  unfold lv
  unfold absI at this
  split at this <;> omega
theorem pmin_le (b d : Int) : pmin b d ≤ b ∧ pmin b d ≤ d ∧ (pmin b d = b ∨ pmin b d = d) := by unfold pmin; split <;> omega
theorem sum_bd {a b c d : Int} (h1 : Nm a b) (h2 : Nm c d) : absI ((lv a b (pmin b d) + lv c d (pmin b d)) * T (pmin b d)) < T 150 ∧ -T 130 < lv a b (pmin b d) + lv c d (pmin b d) ∧ lv a b (pmin b d) + lv c d (pmin b d) < T 130 := by
  obtain ⟨p1, p2, p3⟩ := pmin_le b d
  have hp : -60 ≤ pmin b d ∧ pmin b d ≤ 60 := by have := h1.2; have := h2.2; omega
  have l1 := lv_bd h1 p1 hp.1
  have l2 := lv_bd h2 p2 hp.1
  generalize pmin b d = p at *
  have hb := h1.2
  have hd := h2.2
  -- the greater of both exponents
  have ex : ∃ e, 8 + (b - p) ≤ e ∧ 8 + (d - p) ≤ e ∧ e ≤ 128 ∧ (0 ≤ p → e ≤ 68) := by
    by_cases c : b ≤ d
    · exact ⟨8 + (d - p), by omega, by omega, by omega, by omega⟩
    · exact ⟨8 + (b - p), by omega, by omega, by omega, by omega⟩
  obtain ⟨e, e1, e2, e3, e4⟩ := ex
  have m1 := T_mono e1
  have m2 := T_mono e2
  have m3 : T (e + 1) = 10 * T e := T_succ (by omega)
  have pe := T_pos e
  have hs : -T (e + 1) < lv a b p + lv c d p ∧ lv a b p + lv c d p < T (e + 1) := by omega
  refine ⟨?_, ?_⟩
  · have := absI_mul (p := p) hs
    by_cases hq : 0 ≤ p
    · rw [← T_add (by omega) hq] at this
      have := T_mono (a := e + 1 + p) (b := 150) (by omega)
      omega
    · rw [T_neg (p := p) (by omega), Int.mul_one] at this ⊢
      have := T_mono (a := e + 1) (b := 150) (by omega)
      omega
  · have := T_mono (a := e + 1) (b := 130) (by omega)
    omega
theorem prod_bd {a b c d : Int} (h1 : Nm a b) (h2 : Nm c d) : absI (a * c * T (b + d)) < T 150 ∧ (-10000000000000000 < a * c ∧ a * c < 10000000000000000) := by
  have hs : -10000000000000000 < a * c ∧ a * c < 10000000000000000 := by
    have e : (a * c).natAbs = a.natAbs * c.natAbs := Int.natAbs_mul a c
    have e2 : a.natAbs * c.natAbs ≤ 99999999 * 99999999 := Nat.mul_le_mul (by have := h1.1; omega) (by have := h2.1; omega)
    omega
  refine ⟨?_, hs⟩
  have := absI_mul (p := b + d) hs
  by_cases hq : 0 ≤ b + d
  · have e : (10000000000000000 : Int) * T (b + d) = T (16 + (b + d)) := by rw [T_add (by omega) hq]; rfl
    rw [e] at this
    have := T_mono (a := 16 + (b + d)) (b := 150) (by have := h1.2; have := h2.2; omega)
    omega
  · rw [T_neg (by omega)] at this ⊢
    have := T_mono (a := 16) (b := 150) (by omega)
    have : T 16 = 10000000000000000 := rfl
    omega
theorem one_bd {a b : Int} (h1 : -100000000 < a ∧ a < 100000000) (h2 : b ≤ 120) : absI (a * T b) < T 150 := by
  have := absI_mul (p := b) h1
  by_cases hq : 0 ≤ b
  · rw [← t8, ← T_add (by omega) hq] at this
    have := T_mono (a := 8 + b) (b := 150) (by omega)
    omega
  · rw [T_neg (by omega)] at this ⊢
    have := T_mono (a := 8) (b := 150) (by omega)
    have := t8
    omega
theorem T150 {p : Int} (h : p ≤ 149) : absI (T p) < T 150 ∧ T p ≠ 0 := by
  have := T_pos p
  have := T_lt (a := p) (b := 150) (by omega) (by omega)
  unfold absI
  rw [if_neg (by omega)]
  omega
/-- the law's level: low is no more than 0 -/
theorem sum_low {a b c d : Int} (m : List Nat) : exactV (a * T (b - (if (0 : Int) < pmin b d then 0 else pmin b d)) + c * T (d - (if (0 : Int) < pmin b d then 0 else pmin b d))) (T (-(if (0 : Int) < pmin b d then 0 else pmin b d))) m = sumV a b c d m := by
  unfold sumV
  obtain ⟨p1, p2, p3⟩ := pmin_le b d
  by_cases h : 0 < pmin b d
  · rw [if_pos h]
    generalize pmin b d = p at *
    rw [show T (-(0 : Int)) = T (-p) by rw [T_neg (p := -p) (by omega)]; rfl]
    congr 1
    unfold lv
    rw [Int.add_mul, Int.mul_assoc, Int.mul_assoc, ← T_add (by omega) (by omega), ← T_add (by omega) (by omega)]
    congr 2 <;> (congr 1; omega)
  · rw [if_neg h]
    generalize pmin b d = p at *
    rw [T_neg (p := p) (by omega), Int.mul_one]
    rfl
/-! ### statements on lists of one's own -/
section
variable {call : Cl} {gl : Nat → Option D} {ρ : Env} {i : Nat} {l : List D}
theorem own_C {own : List Nat} {t : Tg} {it : Itr_} {e : Ex} {ds : List D} (u : D → D) (hi : deni call gl it ρ = .ok ds) (hl : ds.length ≤ 16777216)
    (h : ∀ d ∈ ds, ∃ ρ2, storeT t d (wipeV ρ own) = .ok ρ2 ∧ den call gl e ρ2 = .ok (u d)) : denS call gl (.ownC i own t it .no e) ρ = .ok (.nx (setV ρ i (.own (ds.map u)))) := by
  have key : compD (fun d => (storeT t d (wipeV ρ own)).bind fun ρ2 => (denc call gl .no ρ2).bind fun k => if k = true then (den call gl e ρ2).bind fun y => .ok (some y) else .ok none) ds = .ok (ds.map u) := comp_map ds fun d hd => by
    obtain ⟨ρ2, e1, e2⟩ := h d hd
    rw [e1]
    simp only [Res.bind_ok, denc, if_true, e2]
  rw [denS, hi]
  show (compD _ ds).bind _ = _
  rw [key]
  show ownS i ρ (ds.map u) = _
  unfold ownS
  rw [if_pos (by rw [List.length_map]; exact hl)]
theorem app_ {e : Ex} {d : D} (hv : getV ρ i = .own l) (he : den call gl e ρ = .ok d) (hl : l.length < 16777216) : denS call gl (.app i e) ρ = .ok (.nx (setV ρ i (.own (l ++ [d])))) := by
  rw [denS, hv]
  show (den call gl e ρ).bind _ = _
  rw [he]
  exact if_pos hl
theorem setc_ {e : Ex} {d : D} {ρ' : Env} (h : den call gl e ρ = .ok d) (h2 : storeT (.name i) d ρ = .ok ρ') : denS call gl (.setc i e) ρ = .ok (.nx ρ') := by
  rw [denS, h]
  simp only [Res.bind_ok, h2]
theorem frz_ (hv : getV ρ i = .own l) : denS call gl (.frz i) ρ = .ok (.nx (setV ρ i (.pu (.lst l)))) := by
  rw [denS, hv]
end
/-! ### ranges -/
def Nm2 (a b : Int) : Prop := (-100000000000000000 < a ∧ a < 100000000000000000) ∧ -130 ≤ b ∧ b ≤ 130
theorem Nm.two {a b : Int} (h : Nm a b) : Nm2 a b := ⟨by have := h.1; omega, by have := h.2; omega⟩
/-- at a lower level the order is the same -/
theorem lv_down {a b p low : Int} (h1 : low ≤ p) (h2 : p ≤ b) : lv a b low = lv a b p * T (p - low) := by
  unfold lv
  rw [Int.mul_assoc, ← T_add (by omega) (by omega)]
  congr 2
  omega
theorem less_at {a b c d low : Int} (h1 : low ≤ b) (h2 : low ≤ d) : lessV a b c d = decide (lv a b low < lv c d low) := by
  obtain ⟨p1, p2, p3⟩ := pmin_le b d
  unfold lessV
  have hp : low ≤ pmin b d := by omega
  rw [lv_down hp p1, lv_down hp p2, Bool.eq_iff_iff]
  simp only [decide_eq_true_eq]
  have tp := T_pos (pmin b d - low)
  exact ⟨fun h => Int.mul_lt_mul_of_pos_right h tp, fun h => Int.lt_of_mul_lt_mul_right h (Int.le_of_lt tp)⟩
/-- two numbers -/
abbrev PR := (Int × Int) × (Int × Int)
def PD (p : PR) : D := .tup [.tup [.int p.1.1, .int p.1.2], .tup [.int p.2.1, .int p.2.2]]
def PRok (p : PR) : Prop := Nm p.1.1 p.1.2 ∧ Nm p.2.1 p.2.2
def szP (low : Int) (p : PR) : Int := lv (p.1.1 * p.2.1) (p.1.2 + p.2.2) low
def lessP (p q : PR) : Bool := lessV (p.1.1 * p.2.1) (p.1.2 + p.2.2) (q.1.1 * q.2.1) (q.1.2 + q.2.2)
def loP (p q : PR) : PR := if lessP q p = true then q else p
def hiP (p q : PR) : PR := if lessP p q = true then q else p
def lo4 (p q r s : PR) : PR := loP (loP (loP p q) r) s
def hi4 (p q r s : PR) : PR := hiP (hiP (hiP p q) r) s
def prodP (p : PR) (m : List Nat) : Option (Int × Int) := prodV p.1.1 p.1.2 p.2.1 p.2.2 m
theorem loP_ok {p q : PR} (h : PRok p) (h2 : PRok q) : PRok (loP p q) := by unfold loP; split <;> assumption
theorem hiP_ok {p q : PR} (h : PRok p) (h2 : PRok q) : PRok (hiP p q) := by unfold hiP; split <;> assumption
def resR (e : Nat) : Option (Int × Int) → Option (Int × Int) → Res D
  | some x, some y => .ok (PD (x, y))
  | _, _ => .exc e
def optR : Option (Int × Int) → Option (Int × Int) → D
  | some x, some y => PD (x, y)
  | _, _ => .non
def tR : Option (Int × Int) → Option (Int × Int) → D
  | some x, some y => .tup [.str [116, 111, 108, 100], PD (x, y)]
  | _, _ => .tup [.str [114, 101, 102, 117, 115, 101, 100], .int 0]
theorem toldR (v w : Option (Int × Int)) : toldD (resR 0 v w) = .ok (tR v w) := by
  cases v <;> cases w <;> rfl
theorem strip8 {W p : Int} (h0 : W ≠ 0) (hW : -100000000 ≤ W ∧ W ≤ 100000000) : -100000000 < (strip W p).1 ∧ (strip W p).1 < 100000000 ∧ fig (strip W p).1 ≤ 8 := by
  have st := stripN_ok W.natAbs W p h0 (Nat.le_refl _) (by have := big64; omega)
  obtain ⟨s1, s2, s3, s4, s5, s6, s7⟩ := st
  change (strip W p).1 % 10 ≠ 0 at s2
  change (strip W p).1.natAbs ≤ W.natAbs at s6
  have hb : -100000000 < (strip W p).1 ∧ (strip W p).1 < 100000000 := by
    constructor <;> (refine Int.not_le.mp fun z => ?_) <;> omega
  refine ⟨hb.1, hb.2, ?_⟩
  unfold fig
  have := numS_le (i := if (strip W p).1 < 0 then -(strip W p).1 else (strip W p).1) (k := 8) (by omega) (by split <;> omega) (by split <;> omega)
  omega
/-- what comes is a number -/
theorem exact_numb {u l : Int} (hl : l ≠ 0) (bu : absI u < BIG) (bl : absI l < BIG) {m : List Nat} {x y : Int} (h : exactV u l m = some (x, y)) : Numb x y := by
  unfold exactV at h
  by_cases h0 : u = 0
  · rw [if_pos h0] at h; cases h; exact .inl ⟨rfl, rfl⟩
  rw [if_neg h0] at h
  have hu' : 0 < absI u := by unfold absI; split <;> omega
  have hl' : 0 < absI l := by unfold absI; split <;> omega
  have ok := pw_ok hu' hl' bu bl
  generalize pw (absI u) (absI l) = p at *
  have m4 := pL_pos hl' p
  have tl := taken_le (pU (absI u) p / pL (absI l) p) (pU (absI u) p % pL (absI l) p) (pL (absI l) p) (byS m (decide (u < 0) != decide (l < 0)))
  have w1 : pU (absI u) p / pL (absI l) p < 100000000 := Int.ediv_lt_of_lt_mul m4 ok.2
  have w0 : 10000000 ≤ pU (absI u) p / pL (absI l) p := (Int.le_ediv_iff_mul_le m4).mpr ok.1
  generalize takenF (pU (absI u) p / pL (absI l) p) (pU (absI u) p % pL (absI l) p) (pL (absI l) p) (byS m (decide (u < 0) != decide (l < 0))) = W at *
  generalize (decide (u < 0) != decide (l < 0)) = b at *
  generalize byS m b = mm at *
  unfold fitF at h
  rw [if_neg (by omega)] at h
  obtain ⟨s1, s2, s3, s4, s5, s6, s7⟩ := stripN_ok W.natAbs W p (by omega) (Nat.le_refl _) (by have := big64; omega)
  have s8 := strip8 (W := W) (p := p) (by omega) (by omega)
  change (strip W p).1 ≠ 0 at s1
  change (strip W p).1 % 10 ≠ 0 at s2
  split at h
  · cases h
  · rename_i c1
    split at h
    · split at h
      · cases h
        have f1 : fig 1 = 1 := rfl
        have f2 : fig (-1) = 1 := rfl
        right
        cases b
        · rw [if_neg (by simp)]
          rw [f1]
          omega
        · rw [if_pos rfl]
          rw [f2]
          omega
      · cases h; exact .inl ⟨rfl, rfl⟩
    · rename_i c2
      cases h
      right
      cases b
      · rw [if_neg (by simp), Int.one_mul]
        omega
      · rw [if_pos rfl, show -1 * (strip W p).1 = -(strip W p).1 by omega, fig_abs]
        omega
theorem T150B' {u : Int} (h : absI u < T 150) : absI u < BIG := by
  have hb := T_mono (a := 150) (b := 499) (by omega)
  have hb2 := T_big (p := 499) (by omega)
  omega
theorem sum_numb {a b c d : Int} (h1 : Nm a b) (h2 : Nm c d) {m : List Nat} {x y : Int} (h : sumV a b c d m = some (x, y)) : Numb x y := by
  obtain ⟨p1, p2, p3⟩ := pmin_le b d
  have := T150 (p := -pmin b d) (by have := h1.2; have := h2.2; omega)
  exact exact_numb this.2 (T150B' (sum_bd h1 h2).1) (T150B' this.1) h
theorem prod_numb {a b c d : Int} (h1 : Nm a b) (h2 : Nm c d) {m : List Nat} {x y : Int} (h : prodV a b c d m = some (x, y)) : Numb x y := by
  have := T150 (p := -(b + d)) (by have := h1.2; have := h2.2; omega)
  exact exact_numb this.2 (T150B' (prod_bd h1 h2).1) (T150B' this.1) h
/-! ### formulas -/
inductive W2 where
  | plus | minus | times
inductive Fm where
  | name (i : Nat) | num (i : Nat) | sign (f : Fm) | two (w : W2) (f g : Fm)
def W2.t : W2 → List Nat
  | .plus => [112, 108, 117, 115]
  | .minus => [109, 105, 110, 117, 115]
  | .times => [116, 105, 109, 101, 115]
def fD : Fm → D
  | .name i => .tup [.str [110, 97, 109, 101], .int i]
  | .num i => .tup [.str [110, 117, 109, 98, 101, 114], .int i]
  | .sign f => .tup [.str [115, 105, 103, 110], fD f]
  | .two w f g => .tup [.str w.t, fD f, fD g]
def Fm.ok : Fm → Prop
  | .name i => i < 3
  | .num i => i < 10
  | .sign f => f.ok
  | .two _ f g => f.ok ∧ g.ok
def Fm.deep : Fm → Nat
  | .name _ => 1
  | .num _ => 1
  | .sign f => f.deep + 1
  | .two _ f g => max f.deep g.deep + 1
theorem Fm.deep_pos : ∀ f : Fm, 1 ≤ f.deep
  | .name _ => Nat.le_refl _
  | .num _ => Nat.le_refl _
  | .sign f => by simp only [Fm.deep]; omega
  | .two _ f g => by simp only [Fm.deep]; omega
theorem fD_pl : ∀ (f : Fm) (n : Nat), f.deep ≤ n → pl n (fD f) = true
  | f, 0, h => by have := f.deep_pos; omega
  | .name i, n + 1, h => by simp only [fD, pl, List.all_cons, List.all_nil, Bool.and_true]; cases n <;> rfl
  | .num i, n + 1, h => by simp only [fD, pl, List.all_cons, List.all_nil, Bool.and_true]; cases n <;> rfl
  | .sign f, n + 1, h => by
    have e : pl n (.str [115, 105, 103, 110]) = true := by cases n <;> rfl
    simp only [Fm.deep] at h
    simp only [fD, pl, List.all_cons, List.all_nil, Bool.and_true, e, fD_pl f n (by omega), Bool.and_self]
  | .two w f g, n + 1, h => by
    have e : pl n (.str w.t) = true := by cases n <;> cases w <;> rfl
    simp only [Fm.deep] at h
    simp only [fD, pl, List.all_cons, List.all_nil, Bool.and_true, e, fD_pl f n (by omega), fD_pl g n (by omega), Bool.and_self]
theorem fD_notNon (f : Fm) : isNonD (fD f) = false := by cases f <;> rfl
/-! ### formulas bounded -/
def bothV : Option (Int × Int) → Option (Int × Int) → Option PR
  | some x, some y => some (x, y)
  | _, _ => none
def opR : W2 → PR → PR → Option PR
  | .plus, p, q => bothV (sumV p.1.1 p.1.2 q.1.1 q.1.2 sDown) (sumV p.2.1 p.2.2 q.2.1 q.2.2 sUp)
  | .minus, p, q => bothV (sumV p.1.1 p.1.2 (-q.2.1) q.2.2 sDown) (sumV p.2.1 p.2.2 (-q.1.1) q.1.2 sUp)
  | .times, p, q => bothV (prodP (lo4 (p.1, q.1) (p.1, q.2) (p.2, q.1) (p.2, q.2)) sDown) (prodP (hi4 (p.1, q.1) (p.1, q.2) (p.2, q.1) (p.2, q.2)) sUp)
def negR (p : PR) : PR := ((-p.2.1, p.2.2), (-p.1.1, p.1.2))
def boundsV (R : Nat → PR) : Fm → Option PR
  | .name i => some (R i)
  | .num i => some ((i, 0), (i, 0))
  | .sign f => (boundsV R f).map negR
  | .two w f g => (boundsV R f).bind fun p => (boundsV R g).bind fun q => opR w p q
/-- both numbers -/
def PRn (p : PR) : Prop := Numb p.1.1 p.1.2 ∧ Numb p.2.1 p.2.2
theorem PRn.ok {p : PR} (h : PRn p) : PRok p := ⟨h.1.nm, h.2.nm⟩
theorem Numb.neg {a b : Int} (h : Numb a b) : Numb (-a) b := by
  rcases h with ⟨rfl, rfl⟩ | ⟨h0, h1, h2, h3, h4, h5⟩
  · exact .inl ⟨rfl, rfl⟩
  · refine .inr ⟨by omega, by omega, by omega, by omega, ?_, ?_⟩ <;> rw [fig_abs] <;> assumption
theorem Numb.fig1 {i : Nat} (h : i < 10) : Numb i 0 := by
  match i, h with
  | 0, _ => exact .inl ⟨rfl, rfl⟩
  | 1, _ | 2, _ | 3, _ | 4, _ | 5, _ | 6, _ | 7, _ | 8, _ | 9, _ => exact .inr ⟨by decide, by decide, by decide, by decide, by decide, by decide⟩
theorem both_some {v w : Option (Int × Int)} {p : PR} (h : bothV v w = some p) : v = some p.1 ∧ w = some p.2 := by
  cases v <;> cases w <;> simp only [bothV, reduceCtorEq, Option.some.injEq] at h
  subst h
  exact ⟨rfl, rfl⟩
theorem opR_numb {w : W2} {p q r : PR} (hp : PRn p) (hq : PRn q) (h : opR w p q = some r) : PRn r := by
  have ho := hp.ok
  have hk := hq.ok
  cases w with
  | plus =>
    obtain ⟨h1, h2⟩ := both_some h
    exact ⟨sum_numb ho.1 hk.1 h1, sum_numb ho.2 hk.2 h2⟩
  | minus =>
    obtain ⟨h1, h2⟩ := both_some h
    exact ⟨sum_numb ho.1 hk.2.neg h1, sum_numb ho.2 hk.1.neg h2⟩
  | times =>
    obtain ⟨h1, h2⟩ := both_some h
    have o0 : PRok (p.1, q.1) := ⟨ho.1, hk.1⟩
    have o1 : PRok (p.1, q.2) := ⟨ho.1, hk.2⟩
    have o2 : PRok (p.2, q.1) := ⟨ho.2, hk.1⟩
    have o3 : PRok (p.2, q.2) := ⟨ho.2, hk.2⟩
    have l3 : PRok (lo4 (p.1, q.1) (p.1, q.2) (p.2, q.1) (p.2, q.2)) := loP_ok (loP_ok (loP_ok o0 o1) o2) o3
    have h3 : PRok (hi4 (p.1, q.1) (p.1, q.2) (p.2, q.1) (p.2, q.2)) := hiP_ok (hiP_ok (hiP_ok o0 o1) o2) o3
    exact ⟨prod_numb l3.1 l3.2 h1, prod_numb h3.1 h3.2 h2⟩
theorem bounds_numb {R : Nat → PR} (hR : ∀ i, i < 3 → PRn (R i)) : ∀ (f : Fm) {p : PR}, f.ok → boundsV R f = some p → PRn p
  | .name i, p, h, e => by
    simp only [boundsV, Option.some.injEq] at e
    subst e
    exact hR i h
  | .num i, p, h, e => by
    simp only [boundsV, Option.some.injEq] at e
    subst e
    exact ⟨Numb.fig1 h, Numb.fig1 h⟩
  | .sign f, p, h, e => by
    simp only [boundsV, Option.map_eq_some_iff] at e
    obtain ⟨q, e1, rfl⟩ := e
    have := bounds_numb hR f h e1
    exact ⟨this.2.neg, this.1.neg⟩
  | .two w f g, p, h, e => by
    simp only [boundsV, Option.bind_eq_some_iff] at e
    obtain ⟨q, e1, r, e2, e3⟩ := e
    exact opR_numb (bounds_numb hR f h.1 e1) (bounds_numb hR g h.2 e2) e3
def resP (e : Nat) : Option PR → Res D
  | some p => .ok (PD p)
  | none => .exc e
def optP : Option PR → D
  | some p => PD p
  | none => .non
def tP : Option PR → D
  | some p => .tup [.str [116, 111, 108, 100], PD p]
  | none => .tup [.str [114, 101, 102, 117, 115, 101, 100], .int 0]
theorem toldP (v : Option PR) : toldD (resP 0 v) = .ok (tP v) := by cases v <;> rfl
theorem resR_both (e : Nat) (v w : Option (Int × Int)) : resR e v w = resP e (bothV v w) := by cases v <;> cases w <;> rfl
theorem optR_both (v w : Option (Int × Int)) : optR v w = optP (bothV v w) := by cases v <;> cases w <;> rfl
end Ev
set_option Elab.async false
set_option linter.all false
set_option maxRecDepth 100000
set_option maxHeartbeats 4000000
/-! EvR: the order of what is rounded, in plain Lean. -/
namespace Ev
open PySem PySem.Spec PyProof.Rows L2
/-- a number's value, scaled -/
def vl (a b : Int) : Int := a * T (b + 600)
theorem T_split {a b c : Int} (ha : 0 ≤ a) (hb : 0 ≤ b) (h : c = a + b) : T c = T a * T b := by rw [h, T_add ha hb]
def rwV (u l : Int) (mm : List Nat) : Int := takenF (pU u (pw u l) / pL l (pw u l)) (pU u (pw u l) % pL l (pw u l)) (pL l (pw u l)) mm
def Esz (u l : Int) (mm : List Nat) : Int := vl (rwV u l mm) (pw u l)
theorem fig500 {a : Int} (h : 0 < a) (hb : a < BIG) : fig a ≤ 500 := by
  obtain ⟨f1, f2, f3⟩ := figP h hb
  refine Int.not_lt.mp fun z => ?_
  have := T_mono (a := 500) (b := fig a - 1) (by omega)
  rw [T500] at this
  omega
theorem pw_lim {u l : Int} (hu : 0 < u) (hl : 0 < l) (bu : u < BIG) (bl : l < BIG) : -510 ≤ pw u l ∧ pw u l ≤ 500 := by
  have a1 := fig500 hu bu
  have a2 := fig500 hl bl
  obtain ⟨f1, _, _⟩ := figP hu bu
  obtain ⟨g1, _, _⟩ := figP hl bl
  unfold pw p0
  split <;> omega
theorem pkey {u l p : Int} (hp : -600 ≤ p) : pU u p * (l * T (p + 600)) = (u * T 600) * pL l p := by
  unfold pU pL
  by_cases h : 0 ≤ p
  · rw [T_neg (p := -p) (by omega), T_add h (by omega)]
    grind
  · have e : T 600 = T (p + 600) * T (-p) := T_split (by omega) (by omega) (by omega)
    rw [T_neg (p := p) (by omega), e]
    grind
theorem mul_le_c {a b c : Int} (hc : 0 < c) (h : a * c ≤ b * c) : a ≤ b := Int.le_of_mul_le_mul_right h hc
theorem mul_lt_c {a b c : Int} (hc : 0 < c) (h : a * c < b * c) : a < b := Int.lt_of_mul_lt_mul_right h (Int.le_of_lt hc)
section
variable {u l : Int}
theorem val_lo (hu : 0 < u) (hl : 0 < l) (bu : u < BIG) (bl : l < BIG) : 10000000 * (l * T (pw u l + 600)) ≤ u * T 600 ∧ u * T 600 < 100000000 * (l * T (pw u l + 600)) := by
  obtain ⟨o1, o2⟩ := pw_ok hu hl bu bl
  have pl := pw_lim hu hl bu bl
  have k := pkey (u := u) (l := l) (p := pw u l) (by omega)
  have m4 := pL_pos hl (pw u l)
  have x := Int.mul_pos hl (T_pos (pw u l + 600))
  generalize pw u l = p at *
  generalize l * T (p + 600) = X at *
  generalize pL l p = L at *
  generalize pU u p = U at *
  constructor
  · refine mul_le_c m4 ?_
    have := Int.mul_le_mul_of_nonneg_right o1 (Int.le_of_lt x)
    rw [← k]
    grind
  · refine mul_lt_c m4 ?_
    have := Int.mul_lt_mul_of_pos_right o2 x
    rw [← k]
    grind
theorem rwV_lim (hu : 0 < u) (hl : 0 < l) (bu : u < BIG) (bl : l < BIG) (mm : List Nat) : 10000000 ≤ rwV u l mm ∧ rwV u l mm ≤ 100000000 := by
  obtain ⟨o1, o2⟩ := pw_ok hu hl bu bl
  have m4 := pL_pos hl (pw u l)
  have w1 : pU u (pw u l) / pL l (pw u l) < 100000000 := Int.ediv_lt_of_lt_mul m4 o2
  have w0 : 10000000 ≤ pU u (pw u l) / pL l (pw u l) := (Int.le_ediv_iff_mul_le m4).mpr o1
  have tl := taken_le (pU u (pw u l) / pL l (pw u l)) (pU u (pw u l) % pL l (pw u l)) (pL l (pw u l)) mm
  unfold rwV
  omega
end
theorem taken_mono {U1 L1 U2 L2 : Int} (h1 : 0 < L1) (h2 : 0 < L2) (h : U1 * L2 ≤ U2 * L1) (mm : List Nat) : takenF (U1 / L1) (U1 % L1) L1 mm ≤ takenF (U2 / L2) (U2 % L2) L2 mm := by
  have e1 := Int.emod_add_mul_ediv U1 L1
  have e2 := Int.emod_add_mul_ediv U2 L2
  have a1 := Int.emod_nonneg U1 (show L1 ≠ 0 by omega)
  have a2 := Int.emod_nonneg U2 (show L2 ≠ 0 by omega)
  have c1 := Int.emod_lt_of_pos U1 h1
  have c2 := Int.emod_lt_of_pos U2 h2
  have hW : U1 / L1 ≤ U2 / L2 := by
    refine (Int.le_ediv_iff_mul_le h2).mpr (mul_le_c h1 ?_)
    have := Int.mul_le_mul_of_nonneg_right (Int.ediv_mul_le U1 (show L1 ≠ 0 by omega)) (Int.le_of_lt h2)
    grind
  have t1 := taken_le (U1 / L1) (U1 % L1) L1 mm
  have t2 := taken_le (U2 / L2) (U2 % L2) L2 mm
  generalize U1 / L1 = W1 at *
  generalize U2 / L2 = W2 at *
  generalize U1 % L1 = r1 at *
  generalize U2 % L2 = r2 at *
  by_cases c : W1 < W2
  · omega
  · obtain rfl : W1 = W2 := by omega
    have hr : r1 * L2 ≤ r2 * L1 := by
      rw [← e1, ← e2] at h
      have z1 : (r1 + L1 * W1) * L2 = r1 * L2 + L1 * L2 * W1 := by grind
      have z2 : (r2 + L2 * W1) * L1 = r2 * L1 + L1 * L2 * W1 := by grind
      omega
    have f1 : r2 = 0 → r1 = 0 := fun z => by
      subst z
      rw [Int.zero_mul] at hr
      have : r1 ≤ 0 := mul_le_c h2 (by omega)
      omega
    have f2 : 2 * r2 ≤ L2 → 2 * r1 ≤ L1 := fun z => by
      have := Int.mul_le_mul_of_nonneg_right z (Int.le_of_lt h1)
      refine mul_le_c h2 ?_
      grind
    have f3 : 2 * r2 < L2 → 2 * r1 < L1 := fun z => by
      have := Int.mul_lt_mul_of_pos_right z h1
      refine mul_lt_c h2 ?_
      grind
    unfold takenF
    by_cases g : mm = sNought
    · repeat' split
      all_goals omega
    · by_cases g2 : mm = sMore
      · simp only [g, g2, if_true]
        repeat' split
        all_goals omega
      · simp only [g, g2, if_false]
        repeat' split
        all_goals omega
theorem E_mono {u1 l1 u2 l2 : Int} (hu1 : 0 < u1) (hl1 : 0 < l1) (hu2 : 0 < u2) (hl2 : 0 < l2) (b1 : u1 < BIG) (c1 : l1 < BIG) (b2 : u2 < BIG) (c2 : l2 < BIG) (h : u1 * l2 ≤ u2 * l1) (mm : List Nat) : Esz u1 l1 mm ≤ Esz u2 l2 mm := by
  have v1 := val_lo hu1 hl1 b1 c1
  have v2 := val_lo hu2 hl2 b2 c2
  have r1 := rwV_lim hu1 hl1 b1 c1 mm
  have r2 := rwV_lim hu2 hl2 b2 c2 mm
  have p1 := pw_lim hu1 hl1 b1 c1
  have p2 := pw_lim hu2 hl2 b2 c2
  unfold Esz vl
  by_cases g : pw u1 l1 = pw u2 l2
  · have m : rwV u1 l1 mm ≤ rwV u2 l2 mm := by
      unfold rwV
      rw [g]
      refine taken_mono (pL_pos hl1 _) (pL_pos hl2 _) ?_ mm
      unfold pU pL
      have := Int.mul_le_mul_of_nonneg_right h (Int.le_of_lt (Int.mul_pos (T_pos (-pw u2 l2)) (T_pos (pw u2 l2))))
      grind
    rw [g]
    exact Int.mul_le_mul_of_nonneg_right m (Int.le_of_lt (T_pos _))
  · by_cases g2 : pw u1 l1 < pw u2 l2
    · have t := T_mono (a := pw u1 l1 + 600 + 1) (b := pw u2 l2 + 600) (by omega)
      rw [T_succ (by omega)] at t
      have x1 := Int.mul_le_mul_of_nonneg_right r1.2 (Int.le_of_lt (T_pos (pw u1 l1 + 600)))
      have x2 := Int.mul_le_mul_of_nonneg_right r2.1 (Int.le_of_lt (T_pos (pw u2 l2 + 600)))
      omega
    · exfalso
      have t := T_mono (a := pw u2 l2 + 600 + 1) (b := pw u1 l1 + 600) (by omega)
      rw [T_succ (by omega)] at t
      have x1 := Int.mul_le_mul_of_nonneg_right v1.1 (Int.le_of_lt hl2)
      have x2 := Int.mul_lt_mul_of_pos_right v2.2 hl1
      have x3 := Int.mul_le_mul_of_nonneg_right h (Int.le_of_lt (T_pos 600))
      have x4 := Int.mul_le_mul_of_nonneg_left t (Int.le_of_lt (Int.mul_pos hl1 hl2))
      generalize T (pw u2 l2 + 600) = X2 at *
      generalize T (pw u1 l1 + 600) = X1 at *
      generalize T 600 = X at *
      have y1 : 10000000 * (l1 * X1) * l2 = 10000000 * (l1 * l2 * X1) := by grind
      have y2 : 100000000 * (l2 * X2) * l1 = 10000000 * (l1 * l2 * (10 * X2)) := by grind
      have y3 : u1 * X * l2 = u1 * l2 * X := by grind
      have y4 : u2 * X * l1 = u2 * l1 * X := by grind
      omega
/-- down takes the least, up the greatest -/
theorem rw_bound {u l : Int} (hu : 0 < u) (hl : 0 < l) (bu : u < BIG) (bl : l < BIG) : Esz u l sNought * l ≤ u * T 600 ∧ u * T 600 ≤ Esz u l sMore * l := by
  have pl := pw_lim hu hl bu bl
  have k := pkey (u := u) (l := l) (p := pw u l) (by omega)
  have m4 := pL_pos hl (pw u l)
  have tp := T_pos (pw u l + 600)
  have e := Int.emod_add_mul_ediv (pU u (pw u l)) (pL l (pw u l))
  have a1 := Int.emod_nonneg (pU u (pw u l)) (show pL l (pw u l) ≠ 0 by omega)
  have a2 := Int.emod_lt_of_pos (pU u (pw u l)) m4
  unfold Esz rwV vl
  generalize pw u l = p at *
  generalize pU u p = U at *
  generalize pL l p = L at *
  generalize U / L = W at *
  generalize U % L = r at *
  have s1 : takenF W r L sNought = W := by
    unfold takenF
    split <;> simp
  have s2 : (r = 0 ∧ takenF W r L sMore = W) ∨ (r ≠ 0 ∧ takenF W r L sMore = W + 1) := by
    unfold takenF
    by_cases z : r = 0
    · exact .inl ⟨z, if_pos z⟩
    · right
      refine ⟨z, ?_⟩
      rw [if_neg z, if_neg (by decide), if_pos rfl]
  have x := Int.mul_pos hl tp
  constructor
  · rw [s1]
    refine mul_le_c m4 ?_
    have : W * L ≤ U := by grind
    have := Int.mul_le_mul_of_nonneg_right this (Int.le_of_lt x)
    grind
  · refine mul_le_c m4 ?_
    have : U ≤ takenF W r L sMore * L := by
      rcases s2 with ⟨z, s⟩ | ⟨z, s⟩
      · rw [s]; grind
      · rw [s]; grind
    have := Int.mul_le_mul_of_nonneg_right this (Int.le_of_lt x)
    grind
theorem rw_in {u l : Int} (hu : 0 < u) (hl : 0 < l) (bu : u < BIG) (bl : l < BIG) (mm : List Nat) : Esz u l sNought ≤ Esz u l mm ∧ Esz u l mm ≤ Esz u l sMore ∧ (Esz u l mm = Esz u l sNought ∨ Esz u l mm = Esz u l sMore) := by
  have tp := T_pos (pw u l + 600)
  unfold Esz rwV vl
  have tl := taken_le (pU u (pw u l) / pL l (pw u l)) (pU u (pw u l) % pL l (pw u l)) (pL l (pw u l)) mm
  generalize pU u (pw u l) / pL l (pw u l) = W at *
  generalize pU u (pw u l) % pL l (pw u l) = r at *
  generalize pL l (pw u l) = L at *
  have s1 : takenF W r L sNought = W := by
    unfold takenF
    split <;> simp
  have s2 : (r = 0 ∧ takenF W r L sMore = W ∧ takenF W r L mm = W) ∨ (r ≠ 0 ∧ takenF W r L sMore = W + 1) := by
    by_cases z : r = 0
    · exact .inl ⟨z, by unfold takenF; exact if_pos z, by unfold takenF; exact if_pos z⟩
    · right
      refine ⟨z, ?_⟩
      unfold takenF
      rw [if_neg z, if_neg (by decide), if_pos rfl]
  rw [s1]
  rcases s2 with ⟨z, s, s3⟩ | ⟨z, s⟩
  · rw [s, s3]; exact ⟨Int.le_refl _, Int.le_refl _, .inl rfl⟩
  · rw [s]
    refine ⟨Int.mul_le_mul_of_nonneg_right tl.1 (Int.le_of_lt tp), Int.mul_le_mul_of_nonneg_right tl.2 (Int.le_of_lt tp), ?_⟩
    by_cases c : takenF W r L mm = W
    · left; rw [c]
    · right; rw [show takenF W r L mm = W + 1 by omega]
/-! ### cut to size -/
def szf (V : Int) (mm : List Nat) : Int := if V < T 560 then (if mm = sMore then T 560 else 0) else V
def Gv (u l : Int) (m : List Nat) : Int := if u = 0 then 0 else if u < 0 then -szf (Esz (absI u) l (byS m true)) (byS m true) else szf (Esz u l (byS m false)) (byS m false)
theorem fit_sz {W p : Int} (h0 : 10000000 ≤ W) (h1 : W ≤ 100000000) (hp : -510 ≤ p) (b : Bool) (m : List Nat) : (fitF W p b m = none ↔ T 641 ≤ vl W p) ∧ ∀ x y, fitF W p b m = some (x, y) → vl x y = (if b = true then -1 else 1) * szf (vl W p) m := by
  obtain ⟨s1, s2, s3, s4, s5, s6, s7⟩ := stripN_ok W.natAbs W p (by omega) (Nat.le_refl _) (by have := big64; omega)
  have s7 := s7 (by omega)
  unfold fitF szf
  rw [if_neg (by omega)]
  unfold strip
  generalize stripN W.natAbs W p = z at *
  obtain ⟨w, q⟩ := z
  simp only at s1 s2 s3 s4 s5 s6 s7 ⊢
  obtain ⟨f1, f2, f3⟩ := figP (a := w) s7 (by have := big64; omega)
  have ev : vl W p = vl w q := by
    unfold vl
    rw [T_split (a := q - p) (b := p + 600) (c := q + 600) (by omega) (by omega) (by omega)]
    conv => lhs; rw [s4]
    rw [Int.mul_assoc]
  rw [ev]
  have g1 : T (q + fig w - 1 + 600) ≤ vl w q := by
    unfold vl
    rw [T_split (a := fig w - 1) (b := q + 600) (c := q + fig w - 1 + 600) (by omega) (by omega) (by omega)]
    exact Int.mul_le_mul_of_nonneg_right f2 (Int.le_of_lt (T_pos _))
  have g2 : vl w q < T (q + fig w - 1 + 601) := by
    unfold vl
    rw [T_split (a := fig w) (b := q + 600) (c := q + fig w - 1 + 601) (by omega) (by omega) (by omega)]
    exact Int.mul_lt_mul_of_pos_right f3 (T_pos _)
  by_cases c1 : 40 < q + fig w - 1
  · rw [if_pos c1]
    have := T_mono (a := 641) (b := q + fig w - 1 + 600) (by omega)
    exact ⟨⟨fun _ => by omega, fun _ => rfl⟩, fun x y h => by cases h⟩
  · rw [if_neg c1]
    have t1 := T_mono (a := q + fig w - 1 + 601) (b := 641) (by omega)
    by_cases c2 : q + fig w - 1 < -40
    · rw [if_pos c2]
      have t2 := T_mono (a := q + fig w - 1 + 601) (b := 560) (by omega)
      rw [if_pos (show vl w q < T 560 by omega)]
      by_cases c3 : m = sMore
      · rw [if_pos c3, if_pos c3]
        refine ⟨⟨fun h => by (cases h), fun h => by omega⟩, fun x y h => ?_⟩
        cases h
        rfl
      · rw [if_neg c3, if_neg c3]
        refine ⟨⟨fun h => by (cases h), fun h => by omega⟩, fun x y h => ?_⟩
        cases h
        show 0 * T (0 + 600) = _
        rw [Int.zero_mul, Int.mul_zero]
    · rw [if_neg c2]
      have t2 := T_mono (a := 560) (b := q + fig w - 1 + 600) (by omega)
      rw [if_neg (show ¬vl w q < T 560 by omega)]
      refine ⟨⟨fun h => by (cases h), fun h => by omega⟩, fun x y h => ?_⟩
      cases h
      unfold vl
      rw [Int.mul_assoc]
theorem Numb_lim {a b : Int} (h : Numb a b) : -60 ≤ b ∧ b ≤ 60 := h.nm.2
/-- numbers of one value are the same -/
theorem numb_uniq {a b c d : Int} (h1 : Numb a b) (h2 : Numb c d) (h : vl a b = vl c d) : a = c ∧ b = d := by
  have l1 := Numb_lim h1
  have l2 := Numb_lim h2
  unfold vl at h
  have aux : ∀ {a b c d : Int}, -60 ≤ b → b < d → a * T (b + 600) = c * T (d + 600) → a % 10 = 0 := by
    intro a b c d hb hd h
    rw [T_split (a := d - b - 1 + 1) (b := b + 600) (c := d + 600) (by omega) (by omega) (by omega), T_succ (by omega)] at h
    have : a * T (b + 600) = (10 * (c * T (d - b - 1))) * T (b + 600) := by rw [h]; grind
    have := Int.eq_of_mul_eq_mul_right (by have := T_pos (b + 600); omega) this
    omega
  rcases h1 with ⟨rfl, rfl⟩ | ⟨n0, n1, n2, n3, n4, n5⟩
  · rw [Int.zero_mul] at h
    have := T_pos (d + 600)
    rcases Int.mul_eq_zero.mp h.symm with z | z
    · rcases h2 with ⟨rfl, rfl⟩ | ⟨m0, _⟩
      · exact ⟨rfl, rfl⟩
      · exact absurd z m0
    · omega
  · rcases h2 with ⟨rfl, rfl⟩ | ⟨m0, m1, m2, m3, m4, m5⟩
    · rw [Int.zero_mul] at h
      have := T_pos (b + 600)
      rcases Int.mul_eq_zero.mp h with z | z
      · exact absurd z n0
      · omega
    · by_cases c1 : b < d
      · exact absurd (aux l1.1 c1 h) n3
      · by_cases c2 : d < b
        · exact absurd (aux l2.1 c2 h.symm) m3
        · obtain rfl : b = d := by omega
          exact ⟨Int.eq_of_mul_eq_mul_right (by have := T_pos (b + 600); omega) h, rfl⟩
section
variable {u l : Int}
theorem absI_pos (h : u ≠ 0) : 0 < absI u := by unfold absI; split <;> omega
theorem absI_of_pos (h : 0 < u) : absI u = u := by unfold absI; rw [if_neg (by omega)]
theorem exact_pos (hu : u ≠ 0) (hl : 0 < l) (m : List Nat) : exactV u l m = fitF (rwV (absI u) l (byS m (decide (u < 0)))) (pw (absI u) l) (decide (u < 0)) (byS m (decide (u < 0))) := by
  unfold exactV rwV
  rw [if_neg hu, absI_of_pos hl]
  have e : (decide (u < 0) != decide (l < 0)) = decide (u < 0) := by
    rw [show decide (l < 0) = false from decide_eq_false (by omega)]
    cases decide (u < 0) <;> rfl
  rw [e]
theorem ex_none (hl : 0 < l) (bu : absI u < BIG) (bl : l < BIG) (m : List Nat) : exactV u l m = none ↔ u ≠ 0 ∧ T 641 ≤ Esz (absI u) l (byS m (decide (u < 0))) := by
  by_cases h0 : u = 0
  · subst h0
    exact ⟨fun h => (by cases h), fun h => absurd rfl h.1⟩
  have hu := absI_pos h0
  have r := rwV_lim hu hl bu bl (byS m (decide (u < 0)))
  have p := pw_lim hu hl bu bl
  have f := fit_sz r.1 r.2 p.1 (decide (u < 0)) (byS m (decide (u < 0)))
  rw [exact_pos h0 hl]
  exact f.1.trans ⟨fun h => ⟨h0, h⟩, fun h => h.2⟩
theorem ex_val (hl : 0 < l) (bu : absI u < BIG) (bl : l < BIG) {m : List Nat} {x y : Int} (h : exactV u l m = some (x, y)) : Numb x y ∧ vl x y = Gv u l m := by
  refine ⟨exact_numb (by omega) bu (by rw [absI_of_pos hl]; exact bl) h, ?_⟩
  unfold Gv
  by_cases h0 : u = 0
  · subst h0
    cases h
    rw [if_pos rfl]
    exact Int.zero_mul _
  rw [if_neg h0]
  have hu := absI_pos h0
  have r := rwV_lim hu hl bu bl (byS m (decide (u < 0)))
  have p := pw_lim hu hl bu bl
  have f := (fit_sz r.1 r.2 p.1 (decide (u < 0)) (byS m (decide (u < 0)))).2 x y (by rw [← exact_pos h0 hl]; exact h)
  rw [f]
  by_cases c : u < 0
  · rw [if_pos c, decide_eq_true c, if_pos rfl]
    unfold Esz
    omega
  · rw [if_neg c, decide_eq_false c, if_neg (by simp), absI_of_pos (by omega), Int.one_mul]
    rfl
end
theorem szf_mono {V W : Int} (h : V ≤ W) (mm : List Nat) : szf V mm ≤ szf W mm := by
  unfold szf
  have := T_pos 560
  repeat' split
  all_goals omega
theorem szf_nn {V : Int} (h : 0 ≤ V) (mm : List Nat) : 0 ≤ szf V mm := by
  unfold szf
  have := T_pos 560
  repeat' split
  all_goals omega
theorem Esz_nn {u l : Int} (hu : 0 < u) (hl : 0 < l) (bu : u < BIG) (bl : l < BIG) (mm : List Nat) : 0 ≤ Esz u l mm := by
  have := rwV_lim hu hl bu bl mm
  unfold Esz vl
  exact Int.mul_nonneg (by omega) (Int.le_of_lt (T_pos _))
theorem absI_of_neg {u : Int} (h : u < 0) : absI u = -u := if_pos h
theorem G_mono {u1 l1 u2 l2 : Int} (hl1 : 0 < l1) (hl2 : 0 < l2) (b1 : absI u1 < BIG) (c1 : l1 < BIG) (b2 : absI u2 < BIG) (c2 : l2 < BIG) (h : u1 * l2 ≤ u2 * l1) (m : List Nat) : Gv u1 l1 m ≤ Gv u2 l2 m := by
  unfold Gv
  have sg1 : 0 < u1 → 0 < u2 := fun z => by
    have := Int.mul_pos z hl2
    have : 0 * l1 < u2 * l1 := by rw [Int.zero_mul]; omega
    exact mul_lt_c hl1 this
  have sg2 : u2 < 0 → u1 < 0 := fun z => by
    have := Int.mul_lt_mul_of_pos_right z hl1
    have : u1 * l2 < 0 * l2 := by rw [Int.zero_mul] at *; omega
    exact mul_lt_c hl2 this
  have sg3 : u2 = 0 → u1 ≤ 0 := fun z => by
    subst z
    exact mul_le_c hl2 (by rw [Int.zero_mul] at *; omega)
  by_cases z1 : u1 = 0
  · rw [if_pos z1]
    by_cases z2 : u2 = 0
    · rw [if_pos z2]; exact Int.le_refl _
    · rw [if_neg z2, if_neg (by omega)]
      rw [absI_of_pos (by omega)] at b2
      exact szf_nn (Esz_nn (by omega) hl2 b2 c2 _) _
  · rw [if_neg z1]
    by_cases n1 : u1 < 0
    · rw [if_pos n1]
      have hp := absI_pos z1
      have e1 := szf_nn (Esz_nn hp hl1 b1 c1 (byS m true)) (byS m true)
      by_cases z2 : u2 = 0
      · rw [if_pos z2]; omega
      · rw [if_neg z2]
        by_cases n2 : u2 < 0
        · rw [if_pos n2]
          have hq := absI_pos z2
          have := szf_mono (E_mono hq hl2 hp hl1 b2 c2 b1 c1 (by rw [absI_of_neg n1, absI_of_neg n2, Int.neg_mul, Int.neg_mul]; omega) (byS m true)) (byS m true)
          omega
        · rw [if_neg n2]
          rw [absI_of_pos (by omega)] at b2
          have := szf_nn (Esz_nn (show 0 < u2 by omega) hl2 b2 c2 (byS m false)) (byS m false)
          omega
    · rw [if_neg n1]
      have := sg1 (by omega)
      rw [if_neg (by omega), if_neg (by omega)]
      rw [absI_of_pos (by omega)] at b1 b2
      exact szf_mono (E_mono (by omega) hl1 (by omega) hl2 b1 c1 b2 c2 h _) _
/-! ### fractions of a scaled value -/
/-- u divided by l is the scaled value X -/
def Is (u l X : Int) : Prop := 0 < l ∧ absI u < BIG ∧ l < BIG ∧ u * T 600 = l * X
theorem Is.le {u1 l1 X1 u2 l2 X2 : Int} (h1 : Is u1 l1 X1) (h2 : Is u2 l2 X2) (h : X1 ≤ X2) : u1 * l2 ≤ u2 * l1 := by
  refine mul_le_c (T_pos 600) ?_
  have e1 : u1 * l2 * T 600 = l1 * l2 * X1 := by have := h1.2.2.2; grind
  have e2 : u2 * l1 * T 600 = l1 * l2 * X2 := by have := h2.2.2.2; grind
  rw [e1, e2]
  exact Int.mul_le_mul_of_nonneg_left h (Int.le_of_lt (Int.mul_pos h1.1 h2.1))
theorem ex_mono {u1 l1 X1 u2 l2 X2 : Int} (h1 : Is u1 l1 X1) (h2 : Is u2 l2 X2) (h : X1 ≤ X2) {m : List Nat} {a b c d : Int} (e1 : exactV u1 l1 m = some (a, b)) (e2 : exactV u2 l2 m = some (c, d)) : vl a b ≤ vl c d := by
  rw [(ex_val h1.1 h1.2.1 h1.2.2.1 e1).2, (ex_val h2.1 h2.2.1 h2.2.2.1 e2).2]
  exact G_mono h1.1 h2.1 h1.2.1 h1.2.2.1 h2.2.1 h2.2.2.1 (h1.le h2 h) m
theorem byS_dt : byS sDown true = sMore := rfl
theorem byS_df : byS sDown false = sNought := rfl
theorem byS_ut : byS sUp true = sNought := rfl
theorem byS_uf : byS sUp false = sMore := rfl
theorem szf_nought (V : Int) (h : 0 ≤ V) : szf V sNought ≤ V := by
  unfold szf
  rw [if_neg (show ¬sNought = sMore by decide)]
  split <;> omega
theorem szf_more (V : Int) : V ≤ szf V sMore := by
  unfold szf
  rw [if_pos rfl]
  split <;> omega
theorem ex_down {u l X : Int} (h : Is u l X) {a b : Int} (e : exactV u l sDown = some (a, b)) : vl a b ≤ X := by
  rw [(ex_val h.1 h.2.1 h.2.2.1 e).2]
  refine mul_le_c h.1 ?_
  have k := h.2.2.2
  rw [Int.mul_comm X l, ← k]
  unfold Gv
  by_cases z : u = 0
  · rw [if_pos z, z, Int.zero_mul, Int.zero_mul]; exact Int.le_refl _
  · rw [if_neg z]
    have hp := absI_pos z
    by_cases n : u < 0
    · rw [if_pos n, byS_dt]
      have r := (rw_bound hp h.1 h.2.1 h.2.2.1).2
      have s := Int.mul_le_mul_of_nonneg_right (szf_more (Esz (absI u) l sMore)) (Int.le_of_lt h.1)
      rw [absI_of_neg n] at *
      rw [Int.neg_mul] at *
      omega
    · rw [if_neg n, byS_df]
      have b := h.2.1
      rw [absI_of_pos (by omega)] at b hp
      have r := (rw_bound hp h.1 b h.2.2.1).1
      have s := Int.mul_le_mul_of_nonneg_right (szf_nought (Esz u l sNought) (Esz_nn hp h.1 b h.2.2.1 _)) (Int.le_of_lt h.1)
      omega
theorem ex_up {u l X : Int} (h : Is u l X) {a b : Int} (e : exactV u l sUp = some (a, b)) : X ≤ vl a b := by
  rw [(ex_val h.1 h.2.1 h.2.2.1 e).2]
  refine mul_le_c h.1 ?_
  have k := h.2.2.2
  rw [Int.mul_comm X l, ← k]
  unfold Gv
  by_cases z : u = 0
  · rw [if_pos z, z, Int.zero_mul, Int.zero_mul]; exact Int.le_refl _
  · rw [if_neg z]
    have hp := absI_pos z
    by_cases n : u < 0
    · rw [if_pos n, byS_ut]
      have r := (rw_bound hp h.1 h.2.1 h.2.2.1).1
      have s := Int.mul_le_mul_of_nonneg_right (szf_nought (Esz (absI u) l sNought) (Esz_nn hp h.1 h.2.1 h.2.2.1 _)) (Int.le_of_lt h.1)
      rw [absI_of_neg n] at *
      rw [Int.neg_mul] at *
      omega
    · rw [if_neg n, byS_uf]
      have b := h.2.1
      rw [absI_of_pos (by omega)] at b hp
      have r := (rw_bound hp h.1 b h.2.2.1).2
      have s := Int.mul_le_mul_of_nonneg_right (szf_more (Esz u l sMore)) (Int.le_of_lt h.1)
      omega
/-- what lies between what is told is told -/
theorem ex_between {u1 l1 X1 u2 l2 X2 u l X : Int} (h1 : Is u1 l1 X1) (h2 : Is u2 l2 X2) (h : Is u l X) (a1 : X1 ≤ X) (a2 : X ≤ X2) (e1 : exactV u1 l1 sDown ≠ none) (e2 : exactV u2 l2 sUp ≠ none) (m : List Nat) : ∃ x y, exactV u l m = some (x, y) := by
  cases e : exactV u l m with
  | some v => exact ⟨v.1, v.2, rfl⟩
  | none =>
    exfalso
    obtain ⟨z, g⟩ := (ex_none h.1 h.2.1 h.2.2.1 m).mp e
    have hp := absI_pos z
    have top := (rw_in hp h.1 h.2.1 h.2.2.1 (byS m (decide (u < 0)))).2.1
    have q1 := h1.le h a1
    have q2 := h.le h2 a2
    by_cases n : u < 0
    · have n1 : u1 < 0 := by
        have := Int.mul_lt_mul_of_pos_right n h1.1
        rw [Int.zero_mul] at this
        exact mul_lt_c h.1 (by rw [Int.zero_mul]; omega)
      refine e1 ((ex_none h1.1 h1.2.1 h1.2.2.1 sDown).mpr ⟨by omega, ?_⟩)
      rw [decide_eq_true n1, byS_dt]
      have := E_mono hp h.1 (absI_pos (u := u1) (by omega)) h1.1 h.2.1 h.2.2.1 h1.2.1 h1.2.2.1 (by rw [absI_of_neg n, absI_of_neg n1, Int.neg_mul, Int.neg_mul]; omega) sMore
      omega
    · have n2 : 0 < u2 := by
        have := Int.mul_pos (show 0 < u by omega) h2.1
        exact mul_lt_c h.1 (by rw [Int.zero_mul]; omega)
      refine e2 ((ex_none h2.1 h2.2.1 h2.2.2.1 sUp).mpr ⟨by omega, ?_⟩)
      rw [decide_eq_false (by omega), byS_uf]
      have := E_mono hp h.1 (absI_pos (u := u2) (by omega)) h2.1 h.2.1 h.2.2.1 h2.2.1 h2.2.2.1 (by rw [absI_of_pos (show 0 < u by omega), absI_of_pos n2]; exact q2) sMore
      omega
/-- what is a number is told as it is -/
theorem ex_num {u l a b : Int} (n : Numb a b) (h : Is u l (vl a b)) (m : List Nat) : exactV u l m = some (a, b) := by
  have lim := Numb_lim n
  have core : ∀ {u a : Int}, 0 < u → Numb a b → Is u l (vl a b) → ∀ mm, Esz u l mm = vl a b := by
    intro u a hu n h mm
    have bu := h.2.1
    rw [absI_of_pos hu] at bu
    have ha : 0 < a := by
      have e : u * T 600 = (l * T (b + 600)) * a := by rw [h.2.2.2]; unfold vl; grind
      have p1 := Int.mul_pos hu (T_pos 600)
      have p2 := Int.mul_pos h.1 (T_pos (b + 600))
      rw [e] at p1
      refine Int.not_le.mp fun z => ?_
      have := Int.mul_le_mul_of_nonneg_left z (Int.le_of_lt p2)
      omega
    have a8 := n.nm.1
    have v := val_lo hu h.1 bu h.2.2.1
    have p := pw_lim hu h.1 bu h.2.2.1
    have k := pkey (u := u) (l := l) (p := pw u l) (by omega)
    have m4 := pL_pos h.1 (pw u l)
    have hpb : pw u l ≤ b := by
      refine Int.not_lt.mp fun z => ?_
      have t := T_mono (a := b + 600 + 1) (b := pw u l + 600) (by omega)
      rw [T_succ (by omega)] at t
      have v1 := v.1
      rw [h.2.2.2] at v1
      have v2 : 10000000 * T (pw u l + 600) ≤ a * T (b + 600) := by
        refine mul_le_c h.1 ?_
        unfold vl at v1
        grind
      have := Int.mul_lt_mul_of_pos_right a8.2 (T_pos (b + 600))
      omega
    have hT : T (b + 600) = T (b - pw u l) * T (pw u l + 600) := T_split (by omega) (by omega) (by omega)
    have hU : pU u (pw u l) = (a * T (b - pw u l)) * pL l (pw u l) := by
      rw [h.2.2.2] at k
      unfold vl at k
      rw [hT] at k
      have x := Int.mul_pos h.1 (T_pos (pw u l + 600))
      refine Int.eq_of_mul_eq_mul_right (show l * T (pw u l + 600) ≠ 0 by omega) ?_
      grind
    unfold Esz rwV
    have d1 : pU u (pw u l) / pL l (pw u l) = a * T (b - pw u l) := by rw [hU]; exact Int.mul_ediv_cancel _ (by omega)
    have d2 : pU u (pw u l) % pL l (pw u l) = 0 := by rw [hU]; exact Int.mul_emod_left _ _
    rw [d1, d2]
    unfold takenF
    rw [if_pos rfl]
    unfold vl
    rw [hT]
    grind
  have hsz : ∀ {a : Int}, 0 < a → Numb a b → T 560 ≤ vl a b ∧ vl a b < T 641 := by
    intro a ha n
    rcases n with ⟨z, _⟩ | ⟨n0, n1, n2, n3, n4, n5⟩
    · omega
    · obtain ⟨f1, f2, f3⟩ := figP ha (by have := big64; omega)
      constructor
      · have t := T_mono (a := 560) (b := fig a - 1 + (b + 600)) (by omega)
        rw [T_add (by omega) (by omega)] at t
        have := Int.mul_le_mul_of_nonneg_right f2 (Int.le_of_lt (T_pos (b + 600)))
        unfold vl
        omega
      · have t := T_mono (a := fig a + (b + 600)) (b := 641) (by omega)
        rw [T_add (by omega) (by omega)] at t
        have := Int.mul_lt_mul_of_pos_right f3 (T_pos (b + 600))
        unfold vl
        omega
  have neg : ∀ {u : Int}, Is u l (vl a b) → Is (-u) l (vl (-a) b) := fun {u} z => ⟨z.1, by have := z.2.1; unfold absI at *; split <;> split at this <;> omega, z.2.2.1, by
    have := z.2.2.2
    unfold vl at *
    grind⟩
  by_cases z : u = 0
  · subst z
    have e : l * vl a b = 0 := by rw [← h.2.2.2, Int.zero_mul]
    have v0 : vl a b = 0 := by
      rcases Int.mul_eq_zero.mp e with q | q
      · have := h.1; omega
      · exact q
    have := numb_uniq n (.inl ⟨rfl, rfl⟩ : Numb 0 0) (v0.trans (Int.zero_mul _).symm)
    rw [this.1, this.2]
    rfl
  · have hp := absI_pos z
    have E : Esz (absI u) l (byS m (decide (u < 0))) = (if u < 0 then -vl a b else vl a b) ∧ T 560 ≤ (if u < 0 then -vl a b else vl a b) ∧ (if u < 0 then -vl a b else vl a b) < T 641 := by
      have sgn : ∀ {u a : Int}, 0 < u → Is u l (vl a b) → 0 < a := by
        intro u a hu h
        have e : u * T 600 = (l * T (b + 600)) * a := by rw [h.2.2.2]; unfold vl; grind
        have p1 := Int.mul_pos hu (T_pos 600)
        have p2 := Int.mul_pos h.1 (T_pos (b + 600))
        rw [e] at p1
        refine Int.not_le.mp fun z => ?_
        have := Int.mul_le_mul_of_nonneg_left z (Int.le_of_lt p2)
        omega
      by_cases c : u < 0
      · rw [if_pos c, absI_of_neg c]
        have nv : vl (-a) b = -vl a b := Int.neg_mul _ _
        have hh := neg h
        rw [← nv]
        exact ⟨core (by omega) n.neg hh _, hsz (sgn (by omega) hh) n.neg⟩
      · rw [if_neg c, absI_of_pos (by omega)]
        exact ⟨core (by omega) n h _, hsz (sgn (by omega) h) n⟩
    cases e : exactV u l m with
    | none =>
      have := (ex_none h.1 h.2.1 h.2.2.1 m).mp e
      omega
    | some v =>
      obtain ⟨x, y⟩ := v
      obtain ⟨n2, g⟩ := ex_val h.1 h.2.1 h.2.2.1 e
      have : vl x y = vl a b := by
        rw [g]
        unfold Gv
        rw [if_neg z]
        by_cases c : u < 0
        · rw [if_pos c, decide_eq_true c] at E
          rw [if_pos c, E.1]
          unfold szf
          rw [if_neg (by omega)]
          omega
        · rw [if_neg c] at E ⊢
          rw [decide_eq_false c, absI_of_pos (by omega)] at E
          rw [E.1]
          unfold szf
          rw [if_neg (by omega)]
      have q := numb_uniq n2 n this
      rw [q.1, q.2]
/-- fractions of one value are rounded alike -/
theorem ex_congr {u1 l1 u2 l2 X : Int} (h1 : Is u1 l1 X) (h2 : Is u2 l2 X) (m : List Nat) : exactV u1 l1 m = exactV u2 l2 m := by
  have q1 := h1.le h2 (Int.le_refl _)
  have q2 := h2.le h1 (Int.le_refl _)
  have g : Gv u1 l1 m = Gv u2 l2 m := by
    have := G_mono h1.1 h2.1 h1.2.1 h1.2.2.1 h2.2.1 h2.2.2.1 q1 m
    have := G_mono h2.1 h1.1 h2.2.1 h2.2.2.1 h1.2.1 h1.2.2.1 q2 m
    omega
  have nn : ∀ {u1 l1 u2 l2 : Int}, Is u1 l1 X → Is u2 l2 X → exactV u1 l1 m = none → exactV u2 l2 m = none := by
    intro u1 l1 u2 l2 h1 h2 e
    have q1 := h1.le h2 (Int.le_refl _)
    have q2 := h2.le h1 (Int.le_refl _)
    obtain ⟨z, g⟩ := (ex_none h1.1 h1.2.1 h1.2.2.1 m).mp e
    by_cases n : u1 < 0
    · have n2 : u2 < 0 := by
        have := Int.mul_lt_mul_of_pos_right n h2.1
        rw [Int.zero_mul] at this
        exact mul_lt_c h1.1 (by rw [Int.zero_mul]; omega)
      refine (ex_none h2.1 h2.2.1 h2.2.2.1 m).mpr ⟨by omega, ?_⟩
      rw [decide_eq_true n] at g
      rw [decide_eq_true n2]
      have := E_mono (absI_pos z) h1.1 (absI_pos (u := u2) (by omega)) h2.1 h1.2.1 h1.2.2.1 h2.2.1 h2.2.2.1 (by rw [absI_of_neg n, absI_of_neg n2, Int.neg_mul, Int.neg_mul]; omega) (byS m true)
      omega
    · have n2 : 0 < u2 := by
        have := Int.mul_pos (show 0 < u1 by omega) h2.1
        exact mul_lt_c h1.1 (by rw [Int.zero_mul]; omega)
      refine (ex_none h2.1 h2.2.1 h2.2.2.1 m).mpr ⟨by omega, ?_⟩
      rw [decide_eq_false n] at g
      rw [decide_eq_false (by omega)]
      have := E_mono (absI_pos z) h1.1 (absI_pos (u := u2) (by omega)) h2.1 h1.2.1 h1.2.2.1 h2.2.1 h2.2.2.1 (by rw [absI_of_pos (show 0 < u1 by omega), absI_of_pos n2]; exact q1) (byS m false)
      omega
  cases e1 : exactV u1 l1 m with
  | none => rw [nn h1 h2 e1]
  | some v =>
    cases e2 : exactV u2 l2 m with
    | none => rw [nn h2 h1 e2] at e1; cases e1
    | some w =>
      obtain ⟨a, b⟩ := v
      obtain ⟨c, d⟩ := w
      obtain ⟨n1, g1⟩ := ex_val h1.1 h1.2.1 h1.2.2.1 e1
      obtain ⟨n2, g2⟩ := ex_val h2.1 h2.2.1 h2.2.2.1 e2
      have q := numb_uniq n1 n2 (by omega)
      rw [q.1, q.2]
/-- turned, in the turned manner -/
def flipM (m : List Nat) : List Nat := if m = sUp then sDown else if m = sDown then sUp else m
theorem byS_flip (m : List Nat) (b : Bool) : byS (flipM m) (!b) = byS m b := by
  unfold byS flipM
  by_cases h1 : m = sUp
  · subst h1; cases b <;> rfl
  · by_cases h2 : m = sDown
    · subst h2; cases b <;> rfl
    · simp only [h1, h2, if_false]
def negO : Option (Int × Int) → Option (Int × Int)
  | some (x, y) => some (-x, y)
  | none => none
theorem fitF_neg (W p : Int) (b : Bool) (m : List Nat) : fitF W p (!b) m = negO (fitF W p b m) := by
  unfold fitF
  by_cases h1 : W = 0
  · rw [if_pos h1, if_pos h1]; rfl
  · rw [if_neg h1, if_neg h1]
    split
    · rfl
    · split
      · split
        · cases b <;> rfl
        · rfl
      · cases b
        · show some (-1 * (strip W p).1, (strip W p).2) = some (-(1 * (strip W p).1), (strip W p).2)
          congr 2
          omega
        · show some (1 * (strip W p).1, (strip W p).2) = some (-(-1 * (strip W p).1), (strip W p).2)
          congr 2
          omega
theorem ex_neg (u l : Int) (m : List Nat) : exactV (-u) l (flipM m) = negO (exactV u l m) := by
  unfold exactV
  by_cases h : u = 0
  · subst h; rfl
  · rw [if_neg h, if_neg (by omega)]
    have e1 : absI (-u) = absI u := by unfold absI; split <;> split <;> omega
    have e2 : (decide (-u < 0) != decide (l < 0)) = !(decide (u < 0) != decide (l < 0)) := by
      by_cases c : u < 0
      · rw [decide_eq_true c, decide_eq_false (by omega)]; cases decide (l < 0) <;> rfl
      · rw [decide_eq_false c, decide_eq_true (by omega)]; cases decide (l < 0) <;> rfl
    rw [e1, e2, byS_flip, fitF_neg]
theorem ex_negneg (u l : Int) (hl : l ≠ 0) (m : List Nat) : exactV (-u) (-l) m = exactV u l m := by
  unfold exactV
  by_cases h : u = 0
  · subst h; rfl
  · rw [if_neg h, if_neg (by omega)]
    have e1 : absI (-u) = absI u := by unfold absI; split <;> split <;> omega
    have e3 : absI (-l) = absI l := by unfold absI; split <;> split <;> omega
    have e2 : (decide (-u < 0) != decide (-l < 0)) = (decide (u < 0) != decide (l < 0)) := by
      by_cases c : u < 0
      · by_cases g : l < 0
        · rw [decide_eq_true c, decide_eq_true g, decide_eq_false (by omega), decide_eq_false (by omega)]; rfl
        · rw [decide_eq_true c, decide_eq_false g, decide_eq_false (by omega), decide_eq_true (by omega)]; rfl
      · by_cases g : l < 0
        · rw [decide_eq_false c, decide_eq_true g, decide_eq_true (by omega), decide_eq_false (by omega)]; rfl
        · rw [decide_eq_false c, decide_eq_false g, decide_eq_true (by omega), decide_eq_true (by omega)]; rfl
    rw [e1, e2, e3]
/-! ### sums and products -/
theorem T150lt {a : Int} (h : a < T 150) : a < BIG := by
  have hb := T_mono (a := 150) (b := 499) (by omega)
  have hb2 := T_big (p := 499) (by omega)
  omega
theorem sum_is {a b c d : Int} (h1 : Nm a b) (h2 : Nm c d) : Is ((lv a b (pmin b d) + lv c d (pmin b d)) * T (pmin b d)) (T (-pmin b d)) (vl a b + vl c d) := by
  obtain ⟨p1, p2, p3⟩ := pmin_le b d
  have y1 := h1.2
  have y2 := h2.2
  have t := T150 (p := -pmin b d) (by omega)
  refine ⟨T_pos _, T150lt (sum_bd h1 h2).1, by have := t.1; rw [absI_of_pos (T_pos _)] at this; exact T150lt this, ?_⟩
  unfold lv vl
  generalize pmin b d = p at *
  by_cases h : 0 ≤ p
  · rw [T_neg (p := -p) (by omega), T_split (a := b - p) (b := p + 600) (c := b + 600) (by omega) (by omega) (by omega), T_split (a := d - p) (b := p + 600) (c := d + 600) (by omega) (by omega) (by omega), T_add h (by omega)]
    grind
  · have e1 : T (-p) * T (b + 600) = T (b - p) * T 600 := by rw [← T_add (by omega) (by omega), ← T_add (by omega) (by omega)]; congr 1; omega
    have e2 : T (-p) * T (d + 600) = T (d - p) * T 600 := by rw [← T_add (by omega) (by omega), ← T_add (by omega) (by omega)]; congr 1; omega
    rw [T_neg (p := p) (by omega)]
    grind
/-- the scaled value of a product -/
def vp (a b c d : Int) : Int := a * c * T (b + d + 600)
theorem vp_mul {a b c d : Int} (h1 : Nm a b) (h2 : Nm c d) : vl a b * vl c d = vp a b c d * T 600 := by
  have y1 := h1.2
  have y2 := h2.2
  unfold vl vp
  have e : T (b + 600) * T (d + 600) = T (b + d + 600) * T 600 := by rw [← T_add (by omega) (by omega), ← T_add (by omega) (by omega)]; congr 1; omega
  grind
theorem prod_is {a b c d : Int} (h1 : Nm a b) (h2 : Nm c d) : Is (a * c * T (b + d)) (T (-(b + d))) (vp a b c d) := by
  have y1 := h1.2
  have y2 := h2.2
  have t := T150 (p := -(b + d)) (by omega)
  refine ⟨T_pos _, T150lt (prod_bd h1 h2).1, by have := t.1; rw [absI_of_pos (T_pos _)] at this; exact T150lt this, ?_⟩
  unfold vp
  by_cases h : 0 ≤ b + d
  · rw [T_neg (p := -(b + d)) (by omega), T_add (a := b + d) h (by omega)]
    grind
  · have e1 : T (-(b + d)) * T (b + d + 600) = T 600 := by rw [← T_add (by omega) (by omega)]; congr 1; omega
    rw [T_neg (p := b + d) (by omega)]
    grind
theorem less_vl {a b c d : Int} (h1 : -600 ≤ b) (h2 : -600 ≤ d) : lessV a b c d = decide (vl a b < vl c d) := by
  rw [less_at (low := -600) h1 h2]
  unfold lv vl
  rw [show b - -600 = b + 600 by omega, show d - -600 = d + 600 by omega]
/-- a number's level -/
def lvl (a b : Int) : Int := a * T (b + 50)
theorem vl_lvl {a b : Int} (h : -50 ≤ b) : vl a b = lvl a b * T 550 := by
  unfold vl lvl
  rw [T_split (a := b + 50) (b := 550) (c := b + 600) (by omega) (by omega) (by omega), Int.mul_assoc]
theorem numb50 {a b : Int} (h : Numb a b) : -50 ≤ b := by
  have n := h.nm
  rcases h with ⟨_, rfl⟩ | ⟨h0, h1, h2, h3, h4, h5⟩
  · omega
  · have f8 : fig a ≤ 8 := by
      unfold fig
      have := numS_le (i := if a < 0 then -a else a) (k := 8) (by omega) (by split <;> omega) (by split <;> omega)
      omega
    omega
theorem lvl_bd {a b : Int} (h : Nm a b) : -T 118 < lvl a b ∧ lvl a b < T 118 := by
  have y := h.2
  have := absI_mul (a := a) (p := b + 50) (c := 100000000) h.1
  have t : 100000000 * T (b + 50) ≤ T 118 := by
    by_cases q : 0 ≤ b + 50
    · rw [← t8, ← T_add (by omega) q]
      exact T_mono (by omega)
    · rw [T_neg (by omega), ← t8, Int.mul_one]
      exact T_mono (by omega)
  unfold lvl
  unfold absI at this
  split at this <;> omega
theorem lessP_at0 {p q : PR} {low : Int} (h1 : low ≤ p.1.2 + p.2.2) (h2 : low ≤ q.1.2 + q.2.2) : lessP p q = decide (szP low p < szP low q) := less_at h1 h2
/-! the least and the greatest of four products -/
def vpP (p : PR) : Int := vp p.1.1 p.1.2 p.2.1 p.2.2
theorem szP_vp (p : PR) : szP (-600) p = vpP p := by
  unfold szP lv vpP vp
  rfl
theorem lessP_vp {p q : PR} (hp : PRok p) (hq : PRok q) : lessP p q = decide (vpP p < vpP q) := by
  have a1 := hp.1.2
  have a2 := hp.2.2
  have a3 := hq.1.2
  have a4 := hq.2.2
  rw [lessP_at0 (low := -600) (by omega) (by omega), szP_vp, szP_vp]
theorem lo_vp {p q : PR} (hp : PRok p) (hq : PRok q) : vpP (loP p q) ≤ vpP p ∧ vpP (loP p q) ≤ vpP q ∧ (loP p q = p ∨ loP p q = q) := by
  unfold loP
  rw [lessP_vp hq hp]
  by_cases c : vpP q < vpP p
  · rw [decide_eq_true c, if_pos rfl]; exact ⟨by omega, by omega, .inr rfl⟩
  · rw [decide_eq_false c, if_neg (by simp)]; exact ⟨by omega, by omega, .inl rfl⟩
theorem hi_vp {p q : PR} (hp : PRok p) (hq : PRok q) : vpP p ≤ vpP (hiP p q) ∧ vpP q ≤ vpP (hiP p q) ∧ (hiP p q = p ∨ hiP p q = q) := by
  unfold hiP
  rw [lessP_vp hp hq]
  by_cases c : vpP p < vpP q
  · rw [decide_eq_true c, if_pos rfl]; exact ⟨by omega, by omega, .inr rfl⟩
  · rw [decide_eq_false c, if_neg (by simp)]; exact ⟨by omega, by omega, .inl rfl⟩
theorem lo4_vp {p q r s : PR} (hp : PRok p) (hq : PRok q) (hr : PRok r) (hs : PRok s) : PRok (lo4 p q r s) ∧ vpP (lo4 p q r s) ≤ vpP p ∧ vpP (lo4 p q r s) ≤ vpP q ∧ vpP (lo4 p q r s) ≤ vpP r ∧ vpP (lo4 p q r s) ≤ vpP s ∧ (vpP (lo4 p q r s) = vpP p ∨ vpP (lo4 p q r s) = vpP q ∨ vpP (lo4 p q r s) = vpP r ∨ vpP (lo4 p q r s) = vpP s) := by
  unfold lo4
  have o1 := loP_ok hp hq
  have o2 := loP_ok o1 hr
  have o3 := loP_ok o2 hs
  obtain ⟨a1, a2, a3⟩ := lo_vp hp hq
  obtain ⟨b1, b2, b3⟩ := lo_vp o1 hr
  obtain ⟨c1, c2, c3⟩ := lo_vp o2 hs
  refine ⟨o3, by omega, by omega, by omega, by omega, ?_⟩
  rcases c3 with c3 | c3
  · rcases b3 with b3 | b3
    · rcases a3 with a3 | a3
      · left; rw [c3, b3, a3]
      · right; left; rw [c3, b3, a3]
    · right; right; left; rw [c3, b3]
  · right; right; right; rw [c3]
theorem hi4_vp {p q r s : PR} (hp : PRok p) (hq : PRok q) (hr : PRok r) (hs : PRok s) : PRok (hi4 p q r s) ∧ vpP p ≤ vpP (hi4 p q r s) ∧ vpP q ≤ vpP (hi4 p q r s) ∧ vpP r ≤ vpP (hi4 p q r s) ∧ vpP s ≤ vpP (hi4 p q r s) ∧ (vpP (hi4 p q r s) = vpP p ∨ vpP (hi4 p q r s) = vpP q ∨ vpP (hi4 p q r s) = vpP r ∨ vpP (hi4 p q r s) = vpP s) := by
  unfold hi4
  have o1 := hiP_ok hp hq
  have o2 := hiP_ok o1 hr
  have o3 := hiP_ok o2 hs
  obtain ⟨a1, a2, a3⟩ := hi_vp hp hq
  obtain ⟨b1, b2, b3⟩ := hi_vp o1 hr
  obtain ⟨c1, c2, c3⟩ := hi_vp o2 hs
  refine ⟨o3, by omega, by omega, by omega, by omega, ?_⟩
  rcases c3 with c3 | c3
  · rcases b3 with b3 | b3
    · rcases a3 with a3 | a3
      · left; rw [c3, b3, a3]
      · right; left; rw [c3, b3, a3]
    · right; right; left; rw [c3, b3]
  · right; right; right; rw [c3]
/-- a product lies between those of the ends -/
theorem bil_lo {x1 x x2 y1 y y2 m : Int} (hx1 : x1 ≤ x) (hx2 : x ≤ x2) (hy1 : y1 ≤ y) (hy2 : y ≤ y2) (a : m ≤ x1 * y1) (b : m ≤ x1 * y2) (c : m ≤ x2 * y1) (d : m ≤ x2 * y2) : m ≤ x * y := by
  have e : ∀ z, m ≤ x1 * z → m ≤ x2 * z → m ≤ x * z := fun z a c => by
    by_cases h : 0 ≤ z
    · have := Int.mul_le_mul_of_nonneg_right hx1 h; omega
    · have := Int.mul_le_mul_of_nonpos_right hx2 (show z ≤ 0 by omega); omega
  by_cases h : 0 ≤ x
  · have := Int.mul_le_mul_of_nonneg_left hy1 h
    have := e y1 a c
    omega
  · have := Int.mul_le_mul_of_nonpos_left (show x ≤ 0 by omega) hy2
    have := e y2 b d
    omega
theorem bil_hi {x1 x x2 y1 y y2 m : Int} (hx1 : x1 ≤ x) (hx2 : x ≤ x2) (hy1 : y1 ≤ y) (hy2 : y ≤ y2) (a : x1 * y1 ≤ m) (b : x1 * y2 ≤ m) (c : x2 * y1 ≤ m) (d : x2 * y2 ≤ m) : x * y ≤ m := by
  have := bil_lo (m := -m) (x1 := -x2) (x := -x) (x2 := -x1) (y1 := y1) (y := y) (y2 := y2) (by omega) (by omega) hy1 hy2 (by rw [Int.neg_mul]; omega) (by rw [Int.neg_mul]; omega) (by rw [Int.neg_mul]; omega) (by rw [Int.neg_mul]; omega)
  rw [Int.neg_mul] at this
  omega
/-- the product of two ranges, rounded outwards, has those within -/
def tlo (p q : PR) : PR := lo4 (p.1, q.1) (p.1, q.2) (p.2, q.1) (p.2, q.2)
def thi (p q : PR) : PR := hi4 (p.1, q.1) (p.1, q.2) (p.2, q.1) (p.2, q.2)
section
variable {p q : PR}
theorem tlo_ok (hp : PRok p) (hq : PRok q) : PRok (tlo p q) := (lo4_vp (p := (p.1, q.1)) (q := (p.1, q.2)) (r := (p.2, q.1)) (s := (p.2, q.2)) ⟨hp.1, hq.1⟩ ⟨hp.1, hq.2⟩ ⟨hp.2, hq.1⟩ ⟨hp.2, hq.2⟩).1
theorem thi_ok (hp : PRok p) (hq : PRok q) : PRok (thi p q) := (hi4_vp (p := (p.1, q.1)) (q := (p.1, q.2)) (r := (p.2, q.1)) (s := (p.2, q.2)) ⟨hp.1, hq.1⟩ ⟨hp.1, hq.2⟩ ⟨hp.2, hq.1⟩ ⟨hp.2, hq.2⟩).1
/-- points of both -/
theorem t_in (hp : PRok p) (hq : PRok q) {x y : Int} (x1 : vl p.1.1 p.1.2 ≤ x) (x2 : x ≤ vl p.2.1 p.2.2) (y1 : vl q.1.1 q.1.2 ≤ y) (y2 : y ≤ vl q.2.1 q.2.2) : vpP (tlo p q) * T 600 ≤ x * y ∧ x * y ≤ vpP (thi p q) * T 600 := by
  have o0 : PRok (p.1, q.1) := ⟨hp.1, hq.1⟩
  have o1 : PRok (p.1, q.2) := ⟨hp.1, hq.2⟩
  have o2 : PRok (p.2, q.1) := ⟨hp.2, hq.1⟩
  have o3 : PRok (p.2, q.2) := ⟨hp.2, hq.2⟩
  obtain ⟨l0, l1, l2, l3, l4, _⟩ := lo4_vp o0 o1 o2 o3
  obtain ⟨h0, h1, h2, h3, h4, _⟩ := hi4_vp o0 o1 o2 o3
  have t := Int.le_of_lt (T_pos 600)
  have m0 := vp_mul hp.1 hq.1
  have m1 := vp_mul hp.1 hq.2
  have m2 := vp_mul hp.2 hq.1
  have m3 := vp_mul hp.2 hq.2
  have sc : ∀ {a b : Int}, a ≤ b → a * T 600 ≤ b * T 600 := fun z => Int.mul_le_mul_of_nonneg_right z t
  constructor
  · refine bil_lo x1 x2 y1 y2 ?_ ?_ ?_ ?_
    · rw [m0]; exact sc l1
    · rw [m1]; exact sc l2
    · rw [m2]; exact sc l3
    · rw [m3]; exact sc l4
  · refine bil_hi x1 x2 y1 y2 ?_ ?_ ?_ ?_
    · rw [m0]; exact sc h1
    · rw [m1]; exact sc h2
    · rw [m2]; exact sc h3
    · rw [m3]; exact sc h4
end
/-- the least and the greatest product of ranges within lie between -/
theorem t_sub {p q r s : PR} (hp : PRok p) (hq : PRok q) (hr : PRok r) (hs : PRok s) (a1 : vl p.1.1 p.1.2 ≤ vl r.1.1 r.1.2) (a2 : vl r.1.1 r.1.2 ≤ vl p.2.1 p.2.2) (a3 : vl p.1.1 p.1.2 ≤ vl r.2.1 r.2.2) (a4 : vl r.2.1 r.2.2 ≤ vl p.2.1 p.2.2)
    (b1 : vl q.1.1 q.1.2 ≤ vl s.1.1 s.1.2) (b2 : vl s.1.1 s.1.2 ≤ vl q.2.1 q.2.2) (b3 : vl q.1.1 q.1.2 ≤ vl s.2.1 s.2.2) (b4 : vl s.2.1 s.2.2 ≤ vl q.2.1 q.2.2) :
    (vpP (tlo p q) ≤ vpP (tlo r s) ∧ vpP (tlo r s) ≤ vpP (thi p q)) ∧ (vpP (tlo p q) ≤ vpP (thi r s) ∧ vpP (thi r s) ≤ vpP (thi p q)) := by
  have o0 : PRok (r.1, s.1) := ⟨hr.1, hs.1⟩
  have o1 : PRok (r.1, s.2) := ⟨hr.1, hs.2⟩
  have o2 : PRok (r.2, s.1) := ⟨hr.2, hs.1⟩
  have o3 : PRok (r.2, s.2) := ⟨hr.2, hs.2⟩
  have t := T_pos 600
  have i0 := t_in hp hq a1 a2 b1 b2
  have i1 := t_in hp hq a1 a2 b3 b4
  have i2 := t_in hp hq a3 a4 b1 b2
  have i3 := t_in hp hq a3 a4 b3 b4
  rw [vp_mul hr.1 hs.1] at i0
  rw [vp_mul hr.1 hs.2] at i1
  rw [vp_mul hr.2 hs.1] at i2
  rw [vp_mul hr.2 hs.2] at i3
  have k0 : vpP (tlo p q) ≤ vpP (r.1, s.1) ∧ vpP (r.1, s.1) ≤ vpP (thi p q) := ⟨mul_le_c t i0.1, mul_le_c t i0.2⟩
  have k1 : vpP (tlo p q) ≤ vpP (r.1, s.2) ∧ vpP (r.1, s.2) ≤ vpP (thi p q) := ⟨mul_le_c t i1.1, mul_le_c t i1.2⟩
  have k2 : vpP (tlo p q) ≤ vpP (r.2, s.1) ∧ vpP (r.2, s.1) ≤ vpP (thi p q) := ⟨mul_le_c t i2.1, mul_le_c t i2.2⟩
  have k3 : vpP (tlo p q) ≤ vpP (r.2, s.2) ∧ vpP (r.2, s.2) ≤ vpP (thi p q) := ⟨mul_le_c t i3.1, mul_le_c t i3.2⟩
  obtain ⟨_, _, _, _, _, l⟩ := lo4_vp o0 o1 o2 o3
  obtain ⟨_, _, _, _, _, h⟩ := hi4_vp o0 o1 o2 o3
  change vpP (tlo r s) = _ ∨ vpP (tlo r s) = _ ∨ vpP (tlo r s) = _ ∨ vpP (tlo r s) = _ at l
  change vpP (thi r s) = _ ∨ vpP (thi r s) = _ ∨ vpP (thi r s) = _ ∨ vpP (thi r s) = _ at h
  omega
end Ev
set_option Elab.async false
set_option linter.all false
set_option maxRecDepth 100000
set_option maxHeartbeats 4000000
/-! EvS: one sign in a text. -/
namespace Ev
open PySem PySem.Spec PyProof.Rows L2 PySem.NumText
def occF (s sub : Str) (hi limit : Nat) (a : Array Nat × Nat) (i : Nat) : Array Nat × Nat := if (decide (a.1.size < limit) && decide (a.2 ≤ i) && decide (i + sub.length ≤ hi) && Builtin.Str.subAt s sub i) = true then (a.1.push i, i + sub.length) else a
theorem occ_run (s sub : Str) (hi limit : Nat) : ∀ (l : List Nat) (a : Array Nat × Nat), (forIn (m := Id) l a fun i __s =>
          if ((__s.fst.size < limit ∧ __s.snd ≤ i) ∧ i + sub.length ≤ hi) ∧ Builtin.Str.subAt s sub i = true then
            pure (ForInStep.yield (__s.fst.push i, i + sub.length))
          else pure (ForInStep.yield (__s.fst, __s.snd))) = l.foldl (occF s sub hi limit) a
  | [], a => rfl
  | i :: l, a => by
    rw [List.forIn_cons, List.foldl_cons, ← occ_run s sub hi limit l]
    unfold occF
    by_cases h : ((a.fst.size < limit ∧ a.snd ≤ i) ∧ i + sub.length ≤ hi) ∧ Builtin.Str.subAt s sub i = true
    · rw [if_pos h, if_pos (by simpa using h)]
      rfl
    · rw [if_neg h, if_neg (by simpa using h)]
      rfl
theorem occ_fold (s sub : Str) (lo hi limit : Nat) : Builtin.Str.occurrences s sub lo hi limit = ((List.range' lo (hi + 1 - lo)).foldl (occF s sub hi limit) (#[], lo)).1.toList := by
  rw [← occ_run]
  unfold Builtin.Str.occurrences
  simp only [Std.Legacy.Range.forIn_eq_forIn_range', Std.Legacy.Range.size]
  simp
  rfl
theorem sub_one (s : List Nat) (c i : Nat) : Builtin.Str.subAt (mkS s) (mkS [c]) i = decide (s[i]? = some c) := by
  unfold Builtin.Str.subAt
  show ((s.toArray.extract i (i + 1)) == [c].toArray) = _
  rw [Bool.eq_iff_iff]
  simp only [beq_iff_eq, decide_eq_true_eq, List.extract_toArray]
  rw [show i + 1 = i + 1 from rfl]
  constructor
  · intro h
    have h : (s.extract i (i + 1)) = [c] := by simpa using h
    rw [List.extract_eq_take_drop] at h
    rw [show i + 1 - i = 1 by omega] at h
    cases e : s.drop i with
    | nil => rw [e] at h; cases h
    | cons x r =>
      rw [e] at h
      cases h
      rw [← List.head?_drop, e]
      rfl
  · intro h
    have : s.extract i (i + 1) = [c] := by
      rw [List.extract_eq_take_drop, show i + 1 - i = 1 by omega]
      cases e : s.drop i with
      | nil => rw [← List.head?_drop, e] at h; cases h
      | cons x r =>
        rw [← List.head?_drop, e] at h
        cases h
        rfl
    simpa using this
theorem occ_skip (s : List Nat) (c : Nat) (hi limit : Nat) : ∀ (l : List Nat) (a : Array Nat × Nat), (∀ i ∈ l, s[i]? ≠ some c) → l.foldl (occF (mkS s) (mkS [c]) hi limit) a = a
  | [], _, _ => rfl
  | i :: l, a, h => by
    rw [List.foldl_cons]
    have : occF (mkS s) (mkS [c]) hi limit a i = a := by
      unfold occF
      rw [sub_one, decide_eq_false (h i List.mem_cons_self), Bool.and_false]
      rfl
    rw [this]
    exact occ_skip s c hi limit l a fun j hj => h j (List.mem_cons_of_mem _ hj)
theorem occ_full (s sub : Str) (hi limit : Nat) : ∀ (l : List Nat) (a : Array Nat × Nat), limit ≤ a.1.size → l.foldl (occF s sub hi limit) a = a
  | [], _, _ => rfl
  | i :: l, a, h => by
    rw [List.foldl_cons]
    have : occF s sub hi limit a i = a := by
      unfold occF
      rw [decide_eq_false (by omega)]
      rfl
    rw [this]
    exact occ_full s sub hi limit l a h
/-- the first place of a sign -/
theorem occ_first {a b : List Nat} {c : Nat} (h : c ∉ a) : Builtin.Str.occurrences (mkS (a ++ c :: b)) (mkS [c]) 0 (a ++ c :: b).length 1 = [a.length] := by
  rw [occ_fold]
  have e : List.range' 0 ((a ++ c :: b).length + 1 - 0) = List.range' 0 a.length ++ (a.length :: List.range' (a.length + 1) (b.length + 1)) := by
    rw [show (a ++ c :: b).length + 1 - 0 = a.length + (b.length + 2) by simp; omega, ← List.range'_append_1, Nat.zero_add]
    rfl
  have sk := occ_skip (a ++ c :: b) c (a ++ c :: b).length 1 (List.range' 0 a.length) (#[], 0) (fun i hi => by
    have hi : i < a.length := by simpa using hi
    rw [List.getElem?_append_left hi]
    intro z
    exact h (List.mem_of_getElem? z))
  have st : occF (mkS (a ++ c :: b)) (mkS [c]) (a ++ c :: b).length 1 (#[], 0) a.length = (#[a.length], a.length + 1) := by
    unfold occF
    rw [sub_one]
    have e1 : (a ++ c :: b)[a.length]? = some c := by simp
    rw [e1]
    have e2 : a.length + (mkS [c]).length ≤ (a ++ c :: b).length := by show a.length + 1 ≤ _; simp
    simp [e2]
    rfl
  rw [e, List.foldl_append, sk, List.foldl_cons, st, occ_full _ _ _ _ _ _ (by simp)]
theorem occ_none {s : List Nat} {c : Nat} (h : c ∉ s) (n limit : Nat) : Builtin.Str.occurrences (mkS s) (mkS [c]) 0 n limit = [] := by
  rw [occ_fold, occ_skip s c _ _ _ _ (fun i _ z => h (List.mem_of_getElem? z))]
theorem inS_one (c : Nat) (s : List Nat) : inS [c] s = decide (c ∈ s) := by
  unfold inS
  exact PySem.StrLaws.found_one (mkS s) c
theorem sub_take (s : List Nat) (i : Nat) : (Builtin.Str.strSub (mkS s) 0 i).cps.toList = s.take i := by
  show (s.toArray.extract 0 i).toList = _
  simp
theorem sub_drop (s : List Nat) (i : Nat) : (Builtin.Str.strSub (mkS s) i s.length).cps.toList = s.drop i := by
  show (s.toArray.extract i s.length).toList = _
  simp only [List.extract_toArray, List.extract_eq_take_drop]
  exact List.take_of_length_le (by simp)
/-- a text parted at a sign -/
theorem part_at {a b : List Nat} {c : Nat} (h : c ∉ a) (hl : (a ++ c :: b).length ≤ 16777216) : mthD .partition (.str (a ++ c :: b)) [.str [c]] = .ok (.tup [.str a, .str [c], .str b]) := by
  have o := occ_first (b := b) h
  have e : Txt.partition (mkS (a ++ c :: b)) (mkS [c]) = (Builtin.Str.strSub (mkS (a ++ c :: b)) 0 a.length, mkS [c], Builtin.Str.strSub (mkS (a ++ c :: b)) (a.length + 1) (a ++ c :: b).length) := by
    unfold Txt.partition
    have : (mkS (a ++ c :: b)).length = (a ++ c :: b).length := rfl
    rw [this, o]
    rfl
  show (if [c] ≠ [] ∧ (a ++ c :: b).length ≤ MAXL then _ else _) = _
  rw [if_pos ⟨by simp, hl⟩, e]
  show Res.ok (D.tup [.str (Builtin.Str.strSub (mkS (a ++ c :: b)) 0 a.length).cps.toList, .str [c], .str (Builtin.Str.strSub (mkS (a ++ c :: b)) (a.length + 1) (a ++ c :: b).length).cps.toList]) = _
  rw [sub_take, sub_drop]
  congr 4
  · simp
  · congr 2
    rw [show a.length + 1 = (a ++ [c]).length by simp, show a ++ c :: b = (a ++ [c]) ++ b by simp, List.drop_left]
theorem part_no {s : List Nat} {c : Nat} (h : c ∉ s) (hl : s.length ≤ 16777216) : mthD .partition (.str s) [.str [c]] = .ok (.tup [.str s, .str [], .str []]) := by
  have e : Txt.partition (mkS s) (mkS [c]) = (mkS s, Str.empty, Str.empty) := by
    unfold Txt.partition
    rw [occ_none h]
  show (if [c] ≠ [] ∧ s.length ≤ MAXL then _ else _) = _
  rw [if_pos ⟨by simp, hl⟩, e]
  rfl
theorem mthTy_part (s : List Nat) : mthTy .partition (.str s) = true := rfl
theorem mthTy_start (s : List Nat) : mthTy .startswith (.str s) = true := rfl
theorem start_one (s : List Nat) (c : Nat) : mthD .startswith (.str s) [.str [c]] = .ok (.bl (decide (s.head? = some c))) := by
  show Res.ok (D.bl (Txt.startswith (mkS s) (mkS [c]))) = _
  unfold Txt.startswith
  rw [sub_one]
  congr 2
  cases s with
  | nil => rfl
  | cons x r =>
    have : (0 + (mkS [c]).length ≤ (mkS (x :: r)).length) := by show 0 + 1 ≤ r.length + 1; omega
    rw [decide_eq_true this, Bool.true_and]
    rfl
/-- texts read as numbers, below 0 -/
theorem int_textN {l : List Nat} (h : AllDigits l) (hn : l ≠ []) (hl : l.length < 640) : bltD .int [.str (45 :: l)] = .ok (.int (-(digitsVal l : Nat))) := by
  show (match intText? ⟨(45 :: l).toArray⟩ with | some n => if (45 :: l).length ≤ 640 then Res.ok (D.int n) else .bad | none => .bad) = _
  have e := intText_neg (x := ⟨(45 :: l).toArray⟩) (cs := l) (by simp) h hn (by show (45 :: l).toArray.size ≤ 4300; simp; omega)
  rw [e]
  simp
  omega
end Ev
set_option Elab.async false
set_option linter.all false
set_option maxRecDepth 100000
set_option maxHeartbeats 4000000
/-! EvU: states and keys, in plain Lean. -/
namespace Ev
open PySem PySem.Spec PyProof.Rows L2 PySem.NumText
abbrev FIGS : List Nat := [48, 49, 50, 51, 52, 53, 54, 55, 56, 57]
theorem mem_figs {c : Nat} : c ∈ FIGS ↔ 48 ≤ c ∧ c ≤ 57 := by
  simp only [FIGS, List.mem_cons, List.not_mem_nil, or_false]
  omega
/-- a number, as data -/
def nD (p : Int × Int) : D := .tup [.int p.1, .int p.2]
/-- a whole number times a power of ten, tidied -/
def tidyV (w p : Int) : Int × Int := if w = 0 then (0, 0) else strip w p
/-- an entry -/
structure En where
  neg : Bool
  ah : List Nat
  pt : Bool
  be : List Nat
def En.t (e : En) : List Nat := (if e.neg = true then [45] else []) ++ (e.ah ++ (if e.pt = true then 46 :: e.be else []))
structure En.ok (e : En) : Prop where
  ne : e.ah ≠ []
  da : AllDigits e.ah
  db : AllDigits e.be
  few : e.ah.length + e.be.length ≤ 8
  np : e.pt = false → e.be = []
def En.w (e : En) : Int := if e.neg = true then -(digitsVal (e.ah ++ e.be) : Nat) else (digitsVal (e.ah ++ e.be) : Nat)
def En.v (e : En) : Int × Int := tidyV e.w (-(e.be.length : Int))
theorem dv_lt : ∀ (n : Nat) (l : List Nat), l.length = n → AllDigits l → digitsVal l < 10 ^ n
  | 0, l, h, _ => by
    obtain rfl : l = [] := List.length_eq_zero_iff.mp h
    decide
  | n + 1, l, h, d => by
    rcases List.eq_nil_or_concat l with rfl | ⟨a, c, rfl⟩
    · cases h
    · rw [List.concat_eq_append] at *
      rw [digitsVal_snoc]
      have h1 : a.length = n := by simp at h; exact h
      have ih := dv_lt n a h1 fun x hx => d x (by simp [hx])
      have hc := d c (by simp)
      rw [Nat.pow_succ]
      omega
theorem dv8 {l : List Nat} (h : l.length ≤ 8) (d : AllDigits l) : digitsVal l < 100000000 := by
  have := dv_lt l.length l rfl d
  have h2 : 10 ^ l.length ≤ 10 ^ 8 := Nat.pow_le_pow_right (by omega) h
  have h3 : (10 : Nat) ^ 8 = 100000000 := rfl
  omega
theorem allD_app {a b : List Nat} (ha : AllDigits a) (hb : AllDigits b) : AllDigits (a ++ b) := fun c hc => (List.mem_append.mp hc).elim (ha c) (hb c)
theorem fig_small {w : Int} (h0 : w ≠ 0) (h : -100000000 < w ∧ w < 100000000) : 1 ≤ fig w ∧ fig w ≤ 8 := by
  have f := fig_ok (a := w) ⟨by have := big64; omega, by have := big64; omega⟩
  have f8 : fig w ≤ 8 := by
    unfold fig
    have := numS_le (i := if w < 0 then -w else w) (k := 8) (by omega) (by split <;> omega) (by split <;> omega)
    omega
  omega
theorem tidy_numb {w p : Int} (h : -100000000 < w ∧ w < 100000000) (hp : -40 ≤ p ∧ p ≤ 33) : Numb (tidyV w p).1 (tidyV w p).2 := by
  unfold tidyV
  by_cases z : w = 0
  · rw [if_pos z]; exact .inl ⟨rfl, rfl⟩
  · rw [if_neg z]
    obtain ⟨s1, s2, s3, s4, s5, s6, s7⟩ := stripN_ok w.natAbs w p z (Nat.le_refl _) (by have := big64; omega)
    have s8 := strip8 (W := w) (p := p) z (by omega)
    change (strip w p).1 ≠ 0 at s1
    change (strip w p).1 % 10 ≠ 0 at s2
    change (strip w p).2 + fig (strip w p).1 = _ at s5
    have := fig_small z h
    exact .inr ⟨s1, s8.1, s8.2.1, s2, by omega, by omega⟩
/-- a fraction over a power of ten that has few figures is told as it is -/
theorem ex_tidy {w : Int} {n : Int} (h : -100000000 < w ∧ w < 100000000) (hn : 0 ≤ n ∧ n ≤ 40) (m : List Nat) : exactV w (T n) m = some (tidyV w (-n)) := by
  have N := tidy_numb (p := -n) h (by omega)
  have tn := T_mono (a := n) (b := 499) (by omega)
  have tb := T_big (p := 499) (by omega)
  have e : Is w (T n) (vl (tidyV w (-n)).1 (tidyV w (-n)).2) := by
    refine ⟨T_pos _, by unfold absI; have := big64; split <;> omega, by omega, ?_⟩
    unfold tidyV
    by_cases z : w = 0
    · rw [if_pos z, z]
      unfold vl
      simp
    · rw [if_neg z]
      obtain ⟨s1, s2, s3, s4, s5, s6, s7⟩ := stripN_ok w.natAbs w (-n) z (Nat.le_refl _) (by have := big64; omega)
      change -n ≤ (strip w (-n)).2 at s3
      change w = (strip w (-n)).1 * T ((strip w (-n)).2 - -n) at s4
      unfold vl
      generalize (strip w (-n)).1 = s at *
      generalize (strip w (-n)).2 = q at *
      have e1 : T (q - -n) * T 600 = T n * T (q + 600) := by rw [← T_add (by omega) (by omega), ← T_add (by omega) (by omega)]; congr 1; omega
      rw [s4]
      grind
  rw [ex_num N e m]
theorem En.w_bd {e : En} (h : e.ok) : -100000000 < e.w ∧ e.w < 100000000 := by
  have := dv8 (l := e.ah ++ e.be) (by simp; exact h.few) (allD_app h.da h.db)
  unfold En.w
  split <;> omega
theorem En.v_numb {e : En} (h : e.ok) : Numb e.v.1 e.v.2 := tidy_numb (En.w_bd h) (by have := h.few; omega)
theorem En.len {e : En} (h : e.ok) : e.t.length ≤ 10 := by
  have := h.few
  unfold En.t
  rw [List.length_append, List.length_append]
  split <;> split <;> simp only [List.length_cons, List.length_nil] <;> omega
theorem dig_not {l : List Nat} (h : AllDigits l) {c : Nat} (hc : c < 48 ∨ 57 < c) : c ∉ l := fun z => by have := h c z; omega
/-! states -/
structure SK where
  m : List Nat
  x : Int × Int
  y : Int × Int
  z : Int × Int
  t : Int × Int
  la : Int × Int
  bx : List (Int × Int)
  en : Option En
  li : Bool
  od : Option Bool
def enD : Option En → D
  | none => .non
  | some e => .str e.t
def odD : Option Bool → D
  | none => .non
  | some false => .str [100, 101, 101, 100]
  | some true => .str [103, 114, 101, 97, 116]
def SK.d (S : SK) : D := .tup [.str S.m, .tup [nD S.x, nD S.y, nD S.z, nD S.t], nD S.la, .tup (S.bx.map nD), enD S.en, .bl S.li, odD S.od]
abbrev NP (p : Int × Int) : Prop := Numb p.1 p.2
structure SK.ok (S : SK) : Prop where
  hm : isM S.m
  hx : NP S.x
  hy : NP S.y
  hz : NP S.z
  ht : NP S.t
  hl : NP S.la
  bl : S.bx.length = 10
  hb : ∀ b ∈ S.bx, NP b
  he : ∀ e, S.en = some e → e.ok ∧ S.x = e.v
/-! roots -/
/-- the root's figures, rounded -/
def rootUp (m : List Nat) (R D : Int) : Int := if (m = sUp ∧ R * R < D) ∨ ((m = sEven ∨ m = sAway) ∧ (2 * R + 1) * (2 * R + 1) < 4 * D) then R + 1 else R
def IsRt (a b D P R : Int) : Prop := a * T (b + 1200) = D * T (2 * P + 1200) ∧ R * R ≤ D ∧ D < (R + 1) * (R + 1) ∧ 10000000 ≤ R ∧ R < 100000000 ∧ -28 < P ∧ P ≤ 13
theorem sq_mono {x y : Int} (h0 : 0 ≤ x) (h : x ≤ y) : x * x ≤ y * y := Int.mul_le_mul h h h0 (by omega)
theorem IsRt.uniq {a b D P R D' P' R' : Int} (h : IsRt a b D P R) (h' : IsRt a b D' P' R') : D = D' ∧ P = P' ∧ R = R' := by
  have aux : ∀ {D P R D' P' R' : Int}, IsRt a b D P R → IsRt a b D' P' R' → P ≤ P' := by
    intro D P R D' P' R' h h'
    obtain ⟨e, r1, r2, r3, r4, p1, p2⟩ := h
    obtain ⟨e', r1', r2', r3', r4', p1', p2'⟩ := h'
    refine Int.not_lt.mp fun z => ?_
    rw [e', T_split (a := 2 * (P - P')) (b := 2 * P' + 1200) (c := 2 * P + 1200) (by omega) (by omega) (by omega), ← Int.mul_assoc] at e
    have e := Int.eq_of_mul_eq_mul_right (by have := T_pos (2 * P' + 1200); omega) e
    have t := T_mono (a := 2) (b := 2 * (P - P')) (by omega)
    have t2 : T 2 = 100 := rfl
    rw [t2] at t
    have g1 := sq_mono (x := 10000000) (y := R) (by omega) r3
    have g2 := sq_mono (x := R' + 1) (y := 100000000) (by omega) (by omega)
    have g3 := Int.mul_le_mul_of_nonneg_left t (show 0 ≤ D by omega)
    omega
  obtain rfl : P = P' := by have := aux h h'; have := aux h' h; omega
  obtain ⟨e, r1, r2, r3, r4, p1, p2⟩ := h
  obtain ⟨e', r1', r2', r3', r4', p1', p2'⟩ := h'
  obtain rfl : D = D' := by
    rw [e'] at e
    exact (Int.eq_of_mul_eq_mul_right (by have := T_pos (2 * P + 1200); omega) e).symm
  refine ⟨rfl, rfl, ?_⟩
  by_cases c : R < R'
  · have := sq_mono (x := R + 1) (y := R') (by omega) (by omega); omega
  · by_cases c2 : R' < R
    · have := sq_mono (x := R' + 1) (y := R) (by omega) (by omega); omega
    · omega
open Classical in
noncomputable def rootV (x : Int × Int) (m : List Nat) : Int × Int := if x.1 = 0 then x else if h : ∃ q : Int × Int × Int, IsRt x.1 x.2 q.1 q.2.1 q.2.2 then strip (rootUp m (Classical.choose h).2.2 (Classical.choose h).1) (Classical.choose h).2.1 else (0, 0)
theorem rootV_eq {x : Int × Int} (m : List Nat) {D P R : Int} (h0 : x.1 ≠ 0) (h : IsRt x.1 x.2 D P R) : rootV x m = strip (rootUp m R D) P := by
  have hx : ∃ q : Int × Int × Int, IsRt x.1 x.2 q.1 q.2.1 q.2.2 := ⟨(D, P, R), h⟩
  obtain ⟨e1, e2, e3⟩ := (Classical.choose_spec hx).uniq h
  unfold rootV
  rw [if_neg h0, dif_pos hx, e1, e2, e3]
theorem rootUp_lim {m : List Nat} {R D : Int} (h1 : 10000000 ≤ R) (h2 : R < 100000000) : 10000000 ≤ rootUp m R D ∧ rootUp m R D ≤ 100000000 := by unfold rootUp; split <;> omega
theorem strip_numb {W P : Int} (h1 : 10000000 ≤ W) (h2 : W ≤ 100000000) (hP : -40 ≤ P ∧ P ≤ 30) : NP (strip W P) := by
  have st := stripN_ok W.natAbs W P (by omega) (Nat.le_refl _) (by have := big64; omega)
  have s8 := strip8 (W := W) (p := P) (by omega) (by omega)
  have fu : 8 ≤ fig W ∧ fig W ≤ 9 := by
    obtain ⟨z1, z2, z3⟩ := figP (a := W) (by omega) (by have := big64; omega)
    constructor
    · refine Int.not_lt.mp fun z => ?_
      have := T_mono (a := fig W) (b := 7) (by omega)
      have := t7
      omega
    · refine Int.not_lt.mp fun z => ?_
      have := T_mono (a := 9) (b := fig W - 1) (by omega)
      have := t9
      omega
  obtain ⟨s1, s2, s3, s4, s5, s6, s7⟩ := st
  change (strip W P).1 ≠ 0 at s1
  change (strip W P).1 % 10 ≠ 0 at s2
  change (strip W P).2 + fig (strip W P).1 = _ at s5
  exact .inr ⟨s1, s8.1, s8.2.1, s2, by omega, by omega⟩
theorem rootV_numb (x : Int × Int) (m : List Nat) (hx : NP x) : NP (rootV x m) := by
  by_cases z : x.1 = 0
  · unfold rootV; rw [if_pos z]; exact hx
  · by_cases h : ∃ q : Int × Int × Int, IsRt x.1 x.2 q.1 q.2.1 q.2.2
    · obtain ⟨⟨D, P, R⟩, h⟩ := h
      have h : IsRt x.1 x.2 D P R := h
      rw [rootV_eq m z h]
      obtain ⟨e, r1, r2, r3, r4, p1, p2⟩ := h
      have u := rootUp_lim (m := m) (D := D) r3 r4
      exact strip_numb u.1 u.2 (by omega)
    · unfold rootV
      rw [if_neg z, dif_neg h]
      exact .inl ⟨rfl, rfl⟩
inductive Dv where
  | plus | minus | times | over
inductive Ky where
  | fig (c : Nat) | pt | sign | enter | two (w : Dv) | root | swap | roll | last | clear | put (c : Nat) | get (c : Nat)
def Dv.s : Dv → List Nat
  | .plus => [112, 108, 117, 115]
  | .minus => [109, 105, 110, 117, 115]
  | .times => [116, 105, 109, 101, 115]
  | .over => [111, 118, 101, 114]
def Ky.s : Ky → List Nat
  | .fig c => [c]
  | .pt => [46]
  | .sign => [115, 105, 103, 110]
  | .enter => [101, 110, 116, 101, 114]
  | .two w => w.s
  | .root => [114, 111, 111, 116]
  | .swap => [115, 119, 97, 112]
  | .roll => [114, 111, 108, 108]
  | .last => [108, 97, 115, 116]
  | .clear => [99, 108, 101, 97, 114]
  | .put c => [112, 117, 116, c]
  | .get c => [103, 101, 116, c]
def Ky.ok : Ky → Prop
  | .fig c => 48 ≤ c ∧ c ≤ 57
  | .put c => 48 ≤ c ∧ c ≤ 57
  | .get c => 48 ≤ c ∧ c ≤ 57
  | _ => True
def negP (p : Int × Int) : Int × Int := (-p.1, p.2)
def due (S : SK) : SK := if S.li = true then { S with y := S.x, z := S.y, t := S.z } else S
def doneV (S : SK) : SK := { S with en := none, li := true }
/-- what a deed of two tells: a number; refused as a deed; too great -/
def deedV (w : Dv) (y x : Int × Int) (m : List Nat) : Except Bool (Int × Int) :=
  match w with
  | .plus => match sumV y.1 y.2 x.1 x.2 m with | some v => .ok v | none => .error true
  | .minus => match sumV y.1 y.2 (-x.1) x.2 m with | some v => .ok v | none => .error true
  | .times => match prodV y.1 y.2 x.1 x.2 m with | some v => .ok v | none => .error true
  | .over => if x.1 = 0 then .error false else match overV y.1 y.2 x.1 x.2 m with | some v => .ok v | none => .error true
def figE (e : En) (c : Nat) : En := if e.ah.length + e.be.length < 8 then (if e.pt = true then { e with be := e.be ++ [c] } else { e with ah := e.ah ++ [c] }) else e
def ptE (e : En) : En := { e with pt := true }
def signE (e : En) : En := { e with neg := !e.neg }
/-- a key pressed; rt tells roots -/
def pressV (rt : Int × Int → List Nat → Int × Int) (S : SK) (κ : Ky) : SK :=
  match S.od with
  | some _ => match κ with
    | .clear => { S with en := none, li := false, od := none }
    | _ => S
  | none => match κ with
    | .fig c => match S.en with
      | none => { due S with en := some ⟨false, [c], false, []⟩, x := En.v ⟨false, [c], false, []⟩ }
      | some e => { S with en := some (figE e c), x := (figE e c).v }
    | .pt => match S.en with
      | none => { due S with en := some ⟨false, [48], true, []⟩, x := En.v ⟨false, [48], true, []⟩ }
      | some e => { S with en := some (ptE e), x := (ptE e).v }
    | .sign => match S.en with
      | none => { S with x := negP S.x, li := true }
      | some e => { S with en := some (signE e), x := (signE e).v }
    | .enter => { S with y := S.x, z := S.y, t := S.z, en := none, li := false }
    | .two w => match deedV w S.y S.x S.m with
      | .ok v => { doneV S with x := v, y := S.z, z := S.t, la := S.x }
      | .error b => { S with en := none, od := some b }
    | .root => if S.x.1 < 0 then { S with en := none, od := some false } else { doneV S with x := rt S.x S.m, la := S.x }
    | .swap => { doneV S with x := S.y, y := S.x }
    | .roll => { doneV S with x := S.y, y := S.z, z := S.t, t := S.x }
    | .last => { doneV (due S) with x := S.la }
    | .clear => { S with x := (0, 0), en := none, li := false }
    | .put c => { doneV S with bx := S.bx.set (c - 48) S.x }
    | .get c => { doneV (due S) with x := S.bx.getD (c - 48) (0, 0) }
theorem numb0 : NP (0, 0) := .inl ⟨rfl, rfl⟩
theorem negP_ok {p : Int × Int} (h : NP p) : NP (negP p) := h.neg
theorem due_ok {S : SK} (h : S.ok) (he : S.en = none) : (due S).ok := by
  unfold due
  split
  · exact ⟨h.hm, h.hx, h.hx, h.hy, h.hz, h.hl, h.bl, h.hb, h.he⟩
  · exact h
theorem figE_ok {e : En} (h : e.ok) {c : Nat} (hc : 48 ≤ c ∧ c ≤ 57) : (figE e c).ok := by
  unfold figE
  split
  · rename_i few
    split
    · rename_i p
      exact ⟨h.ne, h.da, allD_app h.db (fun d hd => by simp at hd; subst hd; exact hc), by simp; omega, fun z => by simp [p] at z⟩
    · rename_i p
      exact ⟨by simp, allD_app h.da (fun d hd => by simp at hd; subst hd; exact hc), h.db, by simp; omega, h.np⟩
  · exact h
theorem ptE_ok {e : En} (h : e.ok) : (ptE e).ok := ⟨h.ne, h.da, h.db, h.few, fun z => by cases z⟩
theorem signE_ok {e : En} (h : e.ok) : (signE e).ok := ⟨h.ne, h.da, h.db, h.few, h.np⟩
theorem over_is {a b c d : Int} (h1 : Nm a b) (h2 : Nm c d) (hc : 0 < c) : 0 < c * T (-(b - d)) ∧ absI (a * T (b - d)) < BIG ∧ c * T (-(b - d)) < BIG := by
  have y1 := h1.2
  have y2 := h2.2
  have o := one_bd (b := b - d) h1.1 (by omega)
  have o2 := one_bd (b := -(b - d)) h2.1 (by omega)
  have p := Int.mul_pos hc (T_pos (-(b - d)))
  rw [absI_of_pos p] at o2
  exact ⟨p, T150lt o, T150lt o2⟩
theorem over_numb {a b c d : Int} (h1 : Nm a b) (h2 : Nm c d) (hc : c ≠ 0) {m : List Nat} {x y : Int} (h : overV a b c d m = some (x, y)) : Numb x y := by
  have y1 := h1.2
  have y2 := h2.2
  have o := one_bd (b := b - d) h1.1 (by omega)
  have o2 := one_bd (b := -(b - d)) h2.1 (by omega)
  exact exact_numb (Int.mul_ne_zero hc (Int.ne_of_gt (T_pos _))) (T150lt o) (T150lt o2) h
theorem deedV_ok {w : Dv} {y x : Int × Int} (hy : NP y) (hx : NP x) {m : List Nat} {v : Int × Int} (h : deedV w y x m = .ok v) : NP v := by
  have n1 := hy.nm
  have n2 := hx.nm
  unfold deedV at h
  cases w <;> simp only at h
  · split at h
    · cases h; rename_i e; exact sum_numb n1 n2 e
    · cases h
  · split at h
    · cases h; rename_i e; exact sum_numb n1 n2.neg e
    · cases h
  · split at h
    · cases h; rename_i e; exact prod_numb n1 n2 e
    · cases h
  · split at h
    · cases h
    · rename_i hc
      split at h
      · cases h; rename_i e; exact over_numb n1 n2 hc e
      · cases h
theorem pressV_ok {rt : Int × Int → List Nat → Int × Int} (hr : ∀ x m, NP x → ¬x.1 < 0 → isM m → NP (rt x m)) {S : SK} (h : S.ok) {κ : Ky} (hκ : κ.ok) : (pressV rt S κ).ok := by
  have no : ∀ e, (none : Option En) = some e → e.ok ∧ S.x = e.v := fun e z => by cases z
  have e1 : ∀ c, 48 ≤ c → c ≤ 57 → En.ok ⟨false, [c], false, []⟩ := fun c h1 h2 => ⟨by simp, fun d hd => by simp at hd; omega, fun d hd => by simp at hd, by simp, fun _ => rfl⟩
  have e2 : En.ok ⟨false, [48], true, []⟩ := ⟨by simp, fun d hd => by simp at hd; omega, fun d hd => by simp at hd, by simp, fun z => by cases z⟩
  have one : ∀ {e e' : En} {x : Int × Int}, e.ok → x = e.v → some e = some e' → e'.ok ∧ x = e'.v := fun h1 h2 h3 => by cases h3; exact ⟨h1, h2⟩
  obtain ⟨dm, dy, dz, dt, dl, db1, db2⟩ : isM (due S).m ∧ NP (due S).y ∧ NP (due S).z ∧ NP (due S).t ∧ NP (due S).la ∧ (due S).bx.length = 10 ∧ (∀ b ∈ (due S).bx, NP b) := by
    unfold due
    split
    · exact ⟨h.hm, h.hx, h.hy, h.hz, h.hl, h.bl, h.hb⟩
    · exact ⟨h.hm, h.hy, h.hz, h.ht, h.hl, h.bl, h.hb⟩
  unfold pressV
  cases ho : S.od with
  | some b =>
    simp only
    cases κ <;> first | exact h | exact ⟨h.hm, h.hx, h.hy, h.hz, h.ht, h.hl, h.bl, h.hb, fun e z => by cases z⟩
  | none =>
    simp only
    cases κ with
    | fig c =>
      simp only
      cases he : S.en with
      | none =>
        have d := due_ok h he
        exact ⟨d.hm, En.v_numb (e1 c hκ.1 hκ.2), d.hy, d.hz, d.ht, d.hl, d.bl, d.hb, fun e z => one (e1 c hκ.1 hκ.2) rfl z⟩
      | some e =>
        have f := figE_ok (h.he e he).1 hκ
        exact ⟨h.hm, En.v_numb f, h.hy, h.hz, h.ht, h.hl, h.bl, h.hb, fun e z => one f rfl z⟩
    | pt =>
      simp only
      cases he : S.en with
      | none =>
        have d := due_ok h he
        exact ⟨d.hm, En.v_numb e2, d.hy, d.hz, d.ht, d.hl, d.bl, d.hb, fun e z => one e2 rfl z⟩
      | some e =>
        have f := ptE_ok (h.he e he).1
        exact ⟨h.hm, En.v_numb f, h.hy, h.hz, h.ht, h.hl, h.bl, h.hb, fun e z => one f rfl z⟩
    | sign =>
      simp only
      cases he : S.en with
      | none => exact ⟨h.hm, negP_ok h.hx, h.hy, h.hz, h.ht, h.hl, h.bl, h.hb, fun e z => by cases z⟩
      | some e =>
        have f := signE_ok (h.he e he).1
        exact ⟨h.hm, En.v_numb f, h.hy, h.hz, h.ht, h.hl, h.bl, h.hb, fun e z => one f rfl z⟩
    | enter => exact ⟨h.hm, h.hx, h.hx, h.hy, h.hz, h.hl, h.bl, h.hb, fun e z => by cases z⟩
    | two w =>
      simp only
      cases hd : deedV w S.y S.x S.m with
      | ok v => exact ⟨h.hm, deedV_ok h.hy h.hx hd, h.hz, h.ht, h.ht, h.hx, h.bl, h.hb, fun e z => by cases z⟩
      | error b => exact ⟨h.hm, h.hx, h.hy, h.hz, h.ht, h.hl, h.bl, h.hb, fun e z => by cases z⟩
    | root =>
      simp only
      split
      · exact ⟨h.hm, h.hx, h.hy, h.hz, h.ht, h.hl, h.bl, h.hb, fun e z => by cases z⟩
      · rename_i n
        exact ⟨h.hm, hr _ _ h.hx n h.hm, h.hy, h.hz, h.ht, h.hx, h.bl, h.hb, fun e z => by cases z⟩
    | swap => exact ⟨h.hm, h.hy, h.hx, h.hz, h.ht, h.hl, h.bl, h.hb, fun e z => by cases z⟩
    | roll => exact ⟨h.hm, h.hy, h.hz, h.ht, h.hx, h.hl, h.bl, h.hb, fun e z => by cases z⟩
    | last => exact ⟨dm, h.hl, dy, dz, dt, dl, db1, db2, fun e z => by cases z⟩
    | clear => exact ⟨h.hm, numb0, h.hy, h.hz, h.ht, h.hl, h.bl, h.hb, fun e z => by cases z⟩
    | put c =>
      refine ⟨h.hm, h.hx, h.hy, h.hz, h.ht, h.hl, (List.length_set ..).trans h.bl, fun b hb => ?_, fun e z => by cases z⟩
      rcases List.mem_or_eq_of_mem_set hb with z | rfl
      · exact h.hb b z
      · exact h.hx
    | get c =>
      have g : NP (S.bx.getD (c - 48) (0, 0)) := by
        rw [List.getD_eq_getElem?_getD]
        cases e : S.bx[c - 48]? with
        | none => exact numb0
        | some b => exact h.hb b (List.mem_of_getElem? e)
      exact ⟨dm, g, dy, dz, dt, dl, db1, db2, fun e z => by cases z⟩
/-- a state that begins -/
def beginV (m : List Nat) : SK := ⟨m, (0, 0), (0, 0), (0, 0), (0, 0), (0, 0), List.replicate 10 (0, 0), none, false, none⟩
theorem begin_ok {m : List Nat} (h : isM m) : (beginV m).ok := ⟨h, numb0, numb0, numb0, numb0, numb0, rfl, fun b hb => by rw [List.eq_of_mem_replicate hb]; exact numb0, fun e z => by cases z⟩
/-! texts of entries -/
theorem t_split {e : En} (h : e.pt = true) : e.t = ((if e.neg = true then [45] else []) ++ e.ah) ++ 46 :: e.be := by
  unfold En.t
  rw [h, if_pos rfl, List.append_assoc]
theorem t_plain {e : En} (h : e.pt = false) : e.t = (if e.neg = true then [45] else []) ++ e.ah := by
  unfold En.t
  rw [h, if_neg (show ¬(false = true) by decide), List.append_nil]
theorem no46 {e : En} (h : e.ok) : 46 ∉ (if e.neg = true then [45] else []) ++ e.ah := by
  intro z
  rcases List.mem_append.mp z with z | z
  · split at z <;> simp at z
  · exact dig_not h.da (by omega) z
theorem in46 {e : En} (h : e.ok) : decide (46 ∈ e.t) = e.pt := by
  cases hp : e.pt with
  | true => rw [t_split hp]; simp
  | false => rw [t_plain hp]; exact decide_eq_false (no46 h)
theorem head45 {e : En} (h : e.ok) : decide (e.t.head? = some 45) = e.neg := by
  unfold En.t
  cases hn : e.neg with
  | true => rfl
  | false =>
    rw [if_neg (by decide), List.nil_append]
    cases ha : e.ah with
    | nil => exact absurd ha h.ne
    | cons c r =>
      have hc := h.da c (by rw [ha]; simp)
      simp
      omega
theorem figE_t {e : En} (h : e.ok) (c : Nat) (few : e.ah.length + e.be.length < 8) : e.t ++ [c] = (figE e c).t := by
  unfold figE
  rw [if_pos few]
  rcases e with ⟨n, a, p, b⟩
  cases p with
  | true =>
    show ((if n = true then [45] else []) ++ (a ++ 46 :: b)) ++ [c] = (if n = true then [45] else []) ++ (a ++ 46 :: (b ++ [c]))
    simp
  | false =>
    show ((if n = true then [45] else []) ++ (a ++ [])) ++ [c] = (if n = true then [45] else []) ++ ((a ++ [c]) ++ [])
    simp
theorem ptE_t {e : En} (h : e.ok) (hp : e.pt = false) : e.t ++ [46] = (ptE e).t := by
  rw [t_plain hp, t_split (e := ptE e) rfl]
  show _ = ((if e.neg = true then [45] else []) ++ e.ah) ++ 46 :: e.be
  rw [h.np hp]
theorem ptE_same {e : En} (hp : e.pt = true) : ptE e = e := by
  cases e
  simp only at hp
  subst hp
  rfl
theorem signE_tT {e : En} (hn : e.neg = true) : cutD e.t (some 1) none = (signE e).t := by
  rw [cut_drop1]
  unfold En.t signE
  rw [hn]
  rfl
theorem signE_tF {e : En} (hn : e.neg = false) : [45] ++ e.t = (signE e).t := by
  unfold En.t signE
  rw [hn]
  rfl
/-- the figures of an entry -/
def isFigD (d : D) : Option D := match d with
  | .str [c] => if c ∈ FIGS then some (.str [c]) else none
  | _ => none
theorem figs_of : ∀ l : List Nat, ((signs l).filterMap isFigD).length = (l.filter (fun c => decide (c ∈ FIGS))).length
  | [] => rfl
  | c :: l => by
    have ih := figs_of l
    show (((D.str [c]) :: signs l).filterMap isFigD).length = _
    rw [List.filterMap_cons, List.filter_cons]
    unfold isFigD
    by_cases h : c ∈ FIGS
    · simp only [h, if_true, decide_true, List.length_cons]
      exact congrArg (· + 1) ih
    · simp only [h, if_false, decide_false, Bool.false_eq_true]
      exact ih
theorem filt_all {l : List Nat} (h : AllDigits l) : l.filter (fun c => decide (c ∈ FIGS)) = l := List.filter_eq_self.mpr fun c hc => decide_eq_true (mem_figs.mpr (h c hc))
theorem fig_count {e : En} (h : e.ok) : ((signs e.t).filterMap isFigD).length = e.ah.length + e.be.length := by
  rw [figs_of]
  have s : List.filter (fun c => decide (c ∈ FIGS)) (if e.neg = true then [45] else []) = [] := by split <;> rfl
  unfold En.t
  rw [List.filter_append, List.filter_append, s, filt_all h.da]
  cases hp : e.pt with
  | true =>
    rw [if_pos rfl, List.filter_cons_of_neg (by decide), filt_all h.db]
    simp
  | false =>
    rw [if_neg (by decide), h.np hp]
    simp
theorem w_join {e : En} (h : e.ok) : bltD .int [.str (((if e.neg = true then [45] else []) ++ e.ah) ++ e.be)] = .ok (.int e.w) := by
  have f := h.few
  have d := allD_app h.da h.db
  have n : e.ah ++ e.be ≠ [] := by simp [h.ne]
  unfold En.w
  cases e.neg with
  | true =>
    rw [if_pos rfl, if_pos rfl, List.append_assoc]
    exact int_textN d n (by simp; omega)
  | false =>
    rw [if_neg (by decide), if_neg (by decide), List.nil_append]
    exact int_text d n (by simp; omega)
/-- a box put -/
theorem box_put {bx : List (Int × Int)} (hl : bx.length = 10) {i : Nat} (hi : i < 10) (x : Int × Int) : cutD (bx.map nD) none (some (i : Int)) ++ [nD x] ++ cutD (bx.map nD) (some ((i : Int) + 1)) none = (bx.set i x).map nD := by
  rw [show ((i : Int) + 1) = ((i + 1 : Nat) : Int) by omega, cut_take, cut_drop, List.map_set, List.set_eq_take_append_cons_drop, if_pos (by rw [List.length_map]; omega)]
  simp
theorem box_get {bx : List (Int × Int)} (hl : bx.length = 10) {i : Nat} (hi : i < 10) : idxD (.tup (bx.map nD)) (.int (i : Int)) = .ok (nD (bx.getD i (0, 0))) := by
  rw [idx_tup (by omega) (by rw [List.length_map]; omega)]
  congr 1
  rw [List.getD_eq_getElem?_getD, List.getD_eq_getElem?_getD, List.getElem?_map, Int.toNat_natCast, List.getElem?_eq_getElem (by omega)]
  rfl
end Ev
set_option Elab.async false
set_option linter.all false
set_option maxRecDepth 100000
set_option maxHeartbeats 4000000
namespace Ev.K03
open PySem PySem.Spec PyProof.Rows L2
def st (i : Nat) : Stmt := PySem.Challenge.pw_pocketpile_k03_whole_read.main.body.getD i (.Pass ⟨0, 0, 0, 0⟩)
/-- is_whole(thing) -/
def B0 : Sms := (.cons (.ret (.and (.isi (.var 0) .int) (.not (.isi (.var 0) .bool)))) .nil)
def F0 : FD := ⟨1, 1, B0⟩
/-- ten(power) -/
def B1 : Sms := (.cons (.ret (.blt .int (.cons (.bin .add (.lit (.str [49])) (.bin .mul (.lit (.str [48])) (.var 0))) .nil))) .nil)
def F1 : FD := ⟨1, 1, B1⟩
/-- figures_of(whole) -/
def B2 : Sms := (.cons (.ret (.blt .len (.cons (.blt .str (.cons (.blt .abs (.cons (.var 0) .nil)) .nil)) .nil))) .nil)
def F2 : FD := ⟨1, 1, B2⟩
/-- height(number) -/
def B3 : Sms := (.cons (.ret (.bin .sub (.bin .add (.idx (.var 0) (.lit (.int 1))) (.call 2 (.cons (.idx (.var 0) (.lit (.int 0))) .nil))) (.lit (.int 1)))) .nil)
def F3 : FD := ⟨1, 1, B3⟩
/-- is_number(thing) -/
def B4 : Sms := (.cons (.iff (.or (.not (.isi (.var 0) .tuple)) (.or (.cmp .ne (.blt .len (.cons (.var 0) .nil)) (.lit (.int 2))) (.or (.not (.call 0 (.cons (.idx (.var 0) (.lit (.int 0))) .nil))) (.not (.call 0 (.cons (.idx (.var 0) (.lit (.int 1))) .nil)))))) (.cons (.ret (.lit (.bl false))) .nil) .nil) (.cons (.iff (.cmp .eq (.idx (.var 0) (.lit (.int 0))) (.lit (.int 0))) (.cons (.ret (.cmp .eq (.idx (.var 0) (.lit (.int 1))) (.lit (.int 0)))) .nil) .nil) (.cons (.iff (.or (.not (.cmp .lt (.blt .abs (.cons (.idx (.var 0) (.lit (.int 0))) .nil)) (.call 1 (.cons (.glob 0) .nil)))) (.cmp .eq (.bin .mod (.idx (.var 0) (.lit (.int 0))) (.lit (.int 10))) (.lit (.int 0)))) (.cons (.ret (.lit (.bl false))) .nil) .nil) (.cons (.ret (.chain .le .le (.neg (.glob 1)) (.call 3 (.cons (.var 0) .nil)) (.glob 1))) .nil))))
def F4 : FD := ⟨1, 1, B4⟩
/-- plain_text(figures, power) -/
def B5 : Sms := (.cons (.iff (.cmp .ge (.var 1) (.lit (.int 0))) (.cons (.ret (.bin .add (.var 0) (.bin .mul (.lit (.str [48])) (.var 1)))) .nil) .nil) (.cons (.set (.name 0) (.meth .rjust (.var 0) (.cons (.bin .sub (.lit (.int 1)) (.var 1)) (.cons (.lit (.str [48])) .nil)))) (.cons (.ret (.bin .add (.bin .add (.slice (.var 0) .no (.yes (.var 1))) (.lit (.str [46]))) (.slice (.var 0) (.yes (.var 1)) .no))) .nil)))
def F5 : FD := ⟨2, 2, B5⟩
/-- written(number, digits, power, sign, figures, high) -/
def B6 : Sms := (.cons (.set (.tup [1, 2]) (.var 0)) (.cons (.set (.name 3) (.bin .mul (.lit (.str [45])) (.blt .int (.cons (.cmp .lt (.var 1) (.lit (.int 0))) .nil)))) (.cons (.set (.name 4) (.blt .str (.cons (.blt .abs (.cons (.var 1) .nil)) .nil))) (.cons (.set (.name 5) (.call 3 (.cons (.var 0) .nil))) (.cons (.iff (.chain .le .le (.glob 2) (.var 5) (.glob 3)) (.cons (.ret (.bin .add (.var 3) (.call 5 (.cons (.var 4) (.cons (.var 2) .nil))))) .nil) .nil) (.cons (.iff (.cmp .gt (.blt .len (.cons (.var 4) .nil)) (.lit (.int 1))) (.cons (.set (.name 4) (.bin .add (.bin .add (.slice (.var 4) .no (.yes (.lit (.int 1)))) (.lit (.str [46]))) (.slice (.var 4) (.yes (.lit (.int 1))) .no))) .nil) .nil) (.cons (.ret (.bin .add (.bin .add (.bin .add (.var 3) (.var 4)) (.lit (.str [101]))) (.blt .str (.cons (.var 5) .nil)))) .nil)))))))
def F6 : FD := ⟨1, 6, B6⟩
/-- whole_of(word, most, figures, sign) -/
def B7 : Sms := (.cons (.set (.name 2) (.var 0)) (.cons (.iff (.meth .startswith (.var 0) (.cons (.lit (.str [45])) .nil)) (.cons (.set (.name 2) (.slice (.var 0) (.yes (.lit (.int 1))) .no)) .nil) .nil) (.cons (.iff (.or (.not (.chain .le .le (.lit (.int 1)) (.blt .len (.cons (.var 2) .nil)) (.var 1))) (.not (.blt .all (.cons (.comp [3] (.name 3) (.of (.var 2)) .no (.cmp .in_ (.var 3) (.glob 4))) .nil)))) (.cons (.raise 1) .nil) .nil) (.cons (.ret (.blt .int (.cons (.var 0) .nil))) .nil))))
def F7 : FD := ⟨2, 4, B7⟩
/-- from_plain(text, ahead, point, behind, digits, power) -/
def B8 : Sms := (.cons (.set (.tup [1, 2, 3]) (.meth .partition (.var 0) (.cons (.lit (.str [46])) .nil))) (.cons (.iff (.and (.cmp .ne (.var 2) (.lit (.str []))) (.cmp .eq (.var 3) (.lit (.str [])))) (.cons (.raise 1) .nil) .nil) (.cons (.set (.name 4) (.call 7 (.cons (.bin .add (.var 1) (.var 3)) (.cons (.lit (.int 20)) .nil)))) (.cons (.set (.name 5) (.neg (.blt .len (.cons (.var 3) .nil)))) (.cons (.iff (.cmp .eq (.var 4) (.lit (.int 0))) (.cons (.ret (.tup (.cons (.lit (.int 0)) (.cons (.lit (.int 0)) .nil)))) .nil) .nil) (.cons (.while_ (.cmp .eq (.bin .mod (.var 4) (.lit (.int 10))) (.lit (.int 0))) (.cons (.set (.name 4) (.bin .fdiv (.var 4) (.lit (.int 10)))) (.cons (.set (.name 5) (.bin .add (.var 5) (.lit (.int 1)))) .nil))) (.cons (.ret (.tup (.cons (.var 4) (.cons (.var 5) .nil)))) .nil)))))))
def F8 : FD := ⟨1, 6, B8⟩
/-- read(text, plain, sign, high, found) -/
def B9 : Sms := (.cons (.iff (.not (.isi (.var 0) .str)) (.cons (.raise 1) .nil) .nil) (.cons (.set (.tup [1, 2, 3]) (.meth .partition (.var 0) (.cons (.lit (.str [101])) .nil))) (.cons (.set (.name 4) (.call 8 (.cons (.var 1) .nil))) (.cons (.iff (.cmp .ne (.var 2) (.lit (.str []))) (.cons (.set (.name 4) (.tup (.cons (.idx (.var 4) (.lit (.int 0))) (.cons (.bin .add (.idx (.var 4) (.lit (.int 1))) (.call 7 (.cons (.var 3) (.cons (.lit (.int 2)) .nil)))) .nil)))) .nil) .nil) (.cons (.iff (.or (.not (.call 4 (.cons (.var 4) .nil))) (.cmp .ne (.call 6 (.cons (.var 4) .nil)) (.var 0))) (.cons (.raise 1) .nil) .nil) (.cons (.ret (.var 4)) .nil))))))
def F9 : FD := ⟨1, 5, B9⟩
/-- _law_cell_at(_law_script, _law_k) -/
def B10 : Sms := (.cons (.iff (.cmp .lt (.var 1) (.blt .len (.cons (.var 0) .nil))) (.cons (.ret (.idx (.var 0) (.var 1))) .nil) .nil) (.cons (.ret (.lit (.int 0))) .nil))
def F10 : FD := ⟨2, 2, B10⟩
/-- _law_mixed(_law_script, _law_k, _law_drawn_here) -/
def B11 : Sms := (.cons (.set (.name 2) (.bin .mod (.bin .mul (.bin .add (.bin .add (.call 10 (.cons (.var 0) (.cons (.var 1) .nil))) (.bin .mul (.lit (.int 7919)) (.var 1))) (.lit (.int 1))) (.lit (.int 48271))) (.lit (.int 2147483647)))) (.cons (.ret (.bin .mod (.bin .add (.bin .add (.bin .mul (.var 2) (.var 2)) (.bin .mul (.lit (.int 7)) (.var 2))) (.var 1)) (.lit (.int 2147483629)))) .nil))
def F11 : FD := ⟨2, 3, B11⟩
/-- _law_drawn(_law_number_here, _law_k, _law_drawn_here) -/
def B12 : Sms := (.cons (.set (.name 2) (.bin .mod (.bin .mul (.bin .add (.bin .add (.var 0) (.bin .mul (.lit (.int 104729)) (.var 1))) (.lit (.int 17))) (.lit (.int 69621))) (.lit (.int 2147483647)))) (.cons (.ret (.bin .mod (.bin .add (.bin .add (.bin .mul (.var 2) (.var 2)) (.bin .mul (.lit (.int 3)) (.var 2))) (.var 1)) (.lit (.int 2147483629)))) .nil))
def F12 : FD := ⟨2, 3, B12⟩
/-- _law_ten(_law_power, _law_found, _law_k) -/
def B13 : Sms := (.cons (.set (.name 1) (.lit (.int 1))) (.cons (.for_ (.name 2) (.range (.var 0)) (.cons (.set (.name 1) (.bin .mul (.var 1) (.lit (.int 10)))) .nil)) (.cons (.ret (.var 1)) .nil)))
def F13 : FD := ⟨1, 3, B13⟩
/-- _law_height(_law_number_here) -/
def B14 : Sms := (.cons (.ret (.bin .sub (.bin .add (.idx (.var 0) (.lit (.int 1))) (.blt .len (.cons (.blt .str (.cons (.blt .abs (.cons (.idx (.var 0) (.lit (.int 0))) .nil)) .nil)) .nil))) (.lit (.int 1)))) .nil)
def F14 : FD := ⟨1, 1, B14⟩
/-- _law_tidy(_law_digits, _law_power) -/
def B15 : Sms := (.cons (.iff (.cmp .eq (.var 0) (.lit (.int 0))) (.cons (.ret (.tup (.cons (.lit (.int 0)) (.cons (.lit (.int 0)) .nil)))) .nil) .nil) (.cons (.while_ (.cmp .eq (.bin .mod (.var 0) (.lit (.int 10))) (.lit (.int 0))) (.cons (.set (.name 0) (.bin .fdiv (.var 0) (.lit (.int 10)))) (.cons (.set (.name 1) (.bin .add (.var 1) (.lit (.int 1)))) .nil))) (.cons (.ret (.tup (.cons (.var 0) (.cons (.var 1) .nil)))) .nil)))
def F15 : FD := ⟨2, 2, B15⟩
/-- _law_number(_law_number_here, _law_high, _law_digits, _law_drawn_here, _law_power, _law_many) -/
def B16 : Sms := (.cons (.set (.name 1) (.idx (.tup (.cons (.lit (.int 10)) (.cons (.lit (.int 100)) (.cons (.lit (.int 1000)) (.cons (.lit (.int 100000)) (.cons (.lit (.int 100000000)) (.cons (.lit (.int 3)) (.cons (.lit (.int 100000000)) (.cons (.lit (.int 10)) .nil))))))))) (.bin .mod (.var 0) (.lit (.int 8))))) (.cons (.set (.name 2) (.bin .mod (.bin .fdiv (.var 0) (.lit (.int 8))) (.var 1))) (.cons (.set (.name 3) (.bin .fdiv (.call 12 (.cons (.var 0) (.cons (.lit (.int 1)) .nil))) (.lit (.int 4)))) (.cons (.set (.name 4) (.idx (.tup (.cons (.lit (.int 0)) (.cons (.lit (.int 0)) (.cons (.neg (.lit (.int 1))) (.cons (.neg (.lit (.int 2))) (.cons (.lit (.int 3)) (.cons (.neg (.lit (.int 7))) (.cons (.bin .sub (.bin .mod (.bin .fdiv (.var 3) (.lit (.int 64))) (.lit (.int 81))) (.lit (.int 40))) (.cons (.bin .sub (.bin .mod (.bin .fdiv (.var 3) (.lit (.int 64))) (.lit (.int 17))) (.lit (.int 8))) .nil))))))))) (.bin .mod (.var 3) (.lit (.int 8))))) (.cons (.set (.tup [2, 4]) (.call 15 (.cons (.var 2) (.cons (.var 4) .nil)))) (.cons (.set (.name 5) (.bin .sub (.blt .len (.cons (.blt .str (.cons (.var 2) .nil)) .nil)) (.lit (.int 1)))) (.cons (.set (.name 4) (.bin .mul (.blt .max (.cons (.bin .sub (.neg (.lit (.int 40))) (.var 5)) (.cons (.blt .min (.cons (.var 4) (.cons (.bin .sub (.lit (.int 40)) (.var 5)) .nil))) .nil))) (.blt .int (.cons (.cmp .gt (.var 2) (.lit (.int 0))) .nil)))) (.cons (.ret (.tup (.cons (.bin .mul (.var 2) (.bin .sub (.lit (.int 1)) (.bin .mul (.bin .mod (.bin .fdiv (.var 3) (.lit (.int 8))) (.lit (.int 2))) (.lit (.int 2))))) (.cons (.var 4) .nil)))) .nil))))))))
def F16 : FD := ⟨1, 6, B16⟩
/-- _law_is_number(_law_thing, _law_part) -/
def B17 : Sms := (.cons (.iff (.or (.not (.isi (.var 0) .tuple)) (.cmp .ne (.blt .len (.cons (.var 0) .nil)) (.lit (.int 2)))) (.cons (.ret (.lit (.bl false))) .nil) .nil) (.cons (.for_ (.name 1) (.of (.var 0)) (.cons (.iff (.or (.not (.isi (.var 1) .int)) (.isi (.var 1) .bool)) (.cons (.ret (.lit (.bl false))) .nil) .nil) .nil)) (.cons (.iff (.cmp .eq (.idx (.var 0) (.lit (.int 0))) (.lit (.int 0))) (.cons (.ret (.cmp .eq (.idx (.var 0) (.lit (.int 1))) (.lit (.int 0)))) .nil) .nil) (.cons (.ret (.and (.cmp .lt (.blt .abs (.cons (.idx (.var 0) (.lit (.int 0))) .nil)) (.lit (.int 100000000))) (.and (.cmp .ne (.bin .mod (.idx (.var 0) (.lit (.int 0))) (.lit (.int 10))) (.lit (.int 0))) (.chain .le .le (.neg (.lit (.int 40))) (.call 14 (.cons (.var 0) .nil)) (.lit (.int 40)))))) .nil))))
def F17 : FD := ⟨1, 2, B17⟩
/-- _law_text(_law_number_here, _law_digits, _law_power, _law_sign, _law_figures, _law_high) -/
def B18 : Sms := (.cons (.set (.tup [1, 2]) (.var 0)) (.cons (.set (.name 3) (.bin .mul (.lit (.str [45])) (.blt .int (.cons (.cmp .lt (.var 1) (.lit (.int 0))) .nil)))) (.cons (.set (.name 4) (.blt .str (.cons (.blt .abs (.cons (.var 1) .nil)) .nil))) (.cons (.set (.name 5) (.call 14 (.cons (.var 0) .nil))) (.cons (.iff (.not (.chain .le .le (.neg (.lit (.int 4))) (.var 5) (.lit (.int 9)))) (.cons (.ret (.bin .add (.bin .add (.bin .add (.bin .add (.bin .add (.var 3) (.slice (.var 4) .no (.yes (.lit (.int 1))))) (.bin .mul (.lit (.str [46])) (.blt .int (.cons (.cmp .gt (.blt .len (.cons (.var 4) .nil)) (.lit (.int 1))) .nil)))) (.slice (.var 4) (.yes (.lit (.int 1))) .no)) (.lit (.str [101]))) (.blt .str (.cons (.var 5) .nil)))) .nil) .nil) (.cons (.iff (.cmp .ge (.var 2) (.lit (.int 0))) (.cons (.ret (.bin .add (.bin .add (.var 3) (.var 4)) (.bin .mul (.lit (.str [48])) (.var 2)))) .nil) .nil) (.cons (.set (.name 4) (.bin .add (.bin .mul (.lit (.str [48])) (.bin .sub (.bin .sub (.lit (.int 1)) (.var 2)) (.blt .len (.cons (.var 4) .nil)))) (.var 4))) (.cons (.ret (.bin .add (.bin .add (.bin .add (.var 3) (.slice (.var 4) .no (.yes (.var 2)))) (.lit (.str [46]))) (.slice (.var 4) (.yes (.var 2)) .no))) .nil))))))))
def F18 : FD := ⟨1, 6, B18⟩
/-- _law_told(_law_deed, _law_found, e, _law_kinds) -/
def B19 : Sms := (.cons .stuck (.cons (.ret (.var 1)) .nil))
def F19 : FD := ⟨1, 4, B19⟩
/-- _law_changed(_law_text_here, _law_number_here, _law_at, _law_letter) -/
def B20 : Sms := (.cons (.set (.name 2) (.bin .mod (.bin .fdiv (.var 1) (.lit (.int 16))) (.bin .add (.blt .len (.cons (.var 0) .nil)) (.lit (.int 1))))) (.cons (.set (.name 3) (.idx (.lit (.str [48, 49, 50, 51, 52, 53, 54, 55, 56, 57, 46, 45, 101, 32, 43, 120])) (.bin .mod (.bin .fdiv (.var 1) (.lit (.int 400))) (.lit (.int 16))))) (.cons (.ret (.idx (.lst (.cons (.bin .add (.bin .add (.slice (.var 0) .no (.yes (.var 2))) (.var 3)) (.slice (.var 0) (.yes (.var 2)) .no)) (.cons (.bin .add (.slice (.var 0) .no (.yes (.var 2))) (.slice (.var 0) (.yes (.bin .add (.var 2) (.lit (.int 1)))) .no)) (.cons (.bin .add (.bin .add (.slice (.var 0) .no (.yes (.var 2))) (.var 3)) (.slice (.var 0) (.yes (.bin .add (.var 2) (.lit (.int 1)))) .no)) .nil)))) (.bin .mod (.var 1) (.lit (.int 3))))) .nil)))
def F20 : FD := ⟨2, 4, B20⟩
/-- _law_due(_law_text_here, _law_plain, _law_figures, _law_high, _law_power, _law_digits, _law_found, _law_sign) -/
def B21 : Sms := (.cons (.set (.name 1) (.idx (.meth .split (.var 0) (.cons (.lit (.str [101])) .nil)) (.lit (.int 0)))) (.cons (.set (.name 2) (.meth .replace (.meth .replace (.var 1) (.cons (.lit (.str [45])) (.cons (.lit (.str [])) (.cons (.lit (.int 1)) .nil)))) (.cons (.lit (.str [46])) (.cons (.lit (.str [])) (.cons (.lit (.int 1)) .nil))))) (.cons (.set (.name 3) (.meth .replace (.slice (.var 0) (.yes (.bin .add (.blt .len (.cons (.var 1) .nil)) (.lit (.int 1)))) .no) (.cons (.lit (.str [45])) (.cons (.lit (.str [])) (.cons (.lit (.int 1)) .nil))))) (.cons (.iff (.or (.cmp .eq (.var 2) (.lit (.str []))) (.or (.cmp .gt (.blt .len (.cons (.var 2) .nil)) (.lit (.int 20))) (.cmp .ne (.comp [7] (.name 7) (.of (.bin .add (.var 2) (.var 3))) (.yes (.cmp .notIn (.var 7) (.lit (.str [48, 49, 50, 51, 52, 53, 54, 55, 56, 57])))) (.var 7)) (.lst .nil)))) (.cons (.ret (.lit .non)) .nil) .nil) (.cons (.iff (.or (.cmp .gt (.meth .find (.var 1) (.cons (.lit (.str [45])) .nil)) (.lit (.int 0))) (.or (.cmp .gt (.blt .len (.cons (.var 3) .nil)) (.lit (.int 2))) (.or (.and (.cmp .ne (.var 1) (.var 0)) (.cmp .eq (.var 3) (.lit (.str [])))) (.cmp .in_ (.lit (.str [45])) (.slice (.var 0) (.yes (.bin .add (.blt .len (.cons (.var 1) .nil)) (.lit (.int 2)))) .no))))) (.cons (.ret (.lit .non)) .nil) .nil) (.cons (.set (.name 4) (.lit (.int 0))) (.cons (.iff (.cmp .ge (.meth .find (.var 1) (.cons (.lit (.str [46])) .nil)) (.lit (.int 0))) (.cons (.set (.name 4) (.bin .sub (.bin .add (.meth .find (.var 1) (.cons (.lit (.str [46])) .nil)) (.lit (.int 1))) (.blt .len (.cons (.var 1) .nil)))) .nil) .nil) (.cons (.set (.name 5) (.bin .mul (.blt .int (.cons (.var 2) .nil)) (.bin .sub (.lit (.int 1)) (.bin .mul (.lit (.int 2)) (.blt .int (.cons (.cmp .eq (.idx (.var 1) (.lit (.int 0))) (.lit (.str [45]))) .nil)))))) (.cons (.iff (.cmp .ne (.var 1) (.var 0)) (.cons (.set (.name 4) (.bin .add (.var 4) (.bin .mul (.blt .int (.cons (.var 3) .nil)) (.bin .sub (.lit (.int 1)) (.bin .mul (.lit (.int 2)) (.blt .int (.cons (.cmp .eq (.idx (.var 0) (.bin .add (.blt .len (.cons (.var 1) .nil)) (.lit (.int 1)))) (.lit (.str [45]))) .nil))))))) .nil) .nil) (.cons (.set (.name 6) (.call 15 (.cons (.var 5) (.cons (.var 4) .nil)))) (.cons (.iff (.or (.not (.call 17 (.cons (.var 6) .nil))) (.cmp .ne (.call 18 (.cons (.var 6) .nil)) (.var 0))) (.cons (.ret (.lit .non)) .nil) .nil) (.cons (.ret (.var 6)) .nil))))))))))))
def F21 : FD := ⟨1, 8, B21⟩
/-- law(_law_script, _law_number_here, _law_text_here, _law_k, _law_due_here) -/
def B22 : Sms := (.cons (.set (.name 1) (.call 11 (.cons (.var 0) (.cons (.lit (.int 0)) .nil)))) (.cons (.set (.name 2) (.call 18 (.cons (.call 16 (.cons (.call 11 (.cons (.var 0) (.cons (.lit (.int 1)) .nil))) .nil)) .nil))) (.cons (.for_ (.name 3) (.range (.idx (.tup (.cons (.lit (.int 0)) (.cons (.lit (.int 1)) (.cons (.lit (.int 2)) (.cons (.lit (.int 4)) (.cons (.lit (.int 0)) (.cons (.lit (.int 1)) .nil))))))) (.bin .mod (.var 1) (.lit (.int 6))))) (.cons (.set (.name 2) (.call 20 (.cons (.var 2) (.cons (.bin .fdiv (.call 12 (.cons (.var 1) (.cons (.var 3) .nil))) (.lit (.int 4))) .nil)))) .nil)) (.cons (.set (.name 4) (.call 21 (.cons (.var 2) .nil))) (.cons (.ret (.cmp .eq (.told (.call 9 (.cons (.var 2) .nil))) (.idx (.lst (.cons (.tup (.cons (.lit (.str [116, 111, 108, 100])) (.cons (.var 4) .nil))) (.cons (.tup (.cons (.lit (.str [114, 101, 102, 117, 115, 101, 100])) (.cons (.lit (.int 1)) .nil))) .nil))) (.blt .int (.cons (.cmp .is_ (.var 4) (.lit .non)) .nil))))) .nil)))))
def F22 : FD := ⟨1, 5, B22⟩
def D0 : DD := ⟨"is_whole", st 10, F0, ["thing"], ["thing"], false⟩
def D1 : DD := ⟨"ten", st 11, F1, ["power"], ["power"], false⟩
def D2 : DD := ⟨"figures_of", st 12, F2, ["whole"], ["whole"], false⟩
def D3 : DD := ⟨"height", st 13, F3, ["number"], ["number"], false⟩
def D4 : DD := ⟨"is_number", st 14, F4, ["thing"], ["thing"], false⟩
def D5 : DD := ⟨"plain_text", st 18, F5, ["figures", "power"], ["figures", "power"], false⟩
def D6 : DD := ⟨"written", st 19, F6, ["number", "digits", "power", "sign", "figures", "high"], ["number"], false⟩
def D7 : DD := ⟨"whole_of", st 22, F7, ["word", "most", "figures", "sign"], ["word", "most"], false⟩
def D8 : DD := ⟨"from_plain", st 23, F8, ["text", "ahead", "point", "behind", "digits", "power"], ["text"], false⟩
def D9 : DD := ⟨"read", st 24, F9, ["text", "plain", "sign", "high", "found"], ["text"], false⟩
def D10 : DD := ⟨"_law_cell_at", st 26, F10, ["_law_script", "_law_k"], ["_law_script", "_law_k"], false⟩
def D11 : DD := ⟨"_law_mixed", st 27, F11, ["_law_script", "_law_k", "_law_drawn_here"], ["_law_script", "_law_k"], false⟩
def D12 : DD := ⟨"_law_drawn", st 28, F12, ["_law_number_here", "_law_k", "_law_drawn_here"], ["_law_number_here", "_law_k"], false⟩
def D13 : DD := ⟨"_law_ten", st 29, F13, ["_law_power", "_law_found", "_law_k"], ["_law_power"], false⟩
def D14 : DD := ⟨"_law_height", st 30, F14, ["_law_number_here"], ["_law_number_here"], false⟩
def D15 : DD := ⟨"_law_tidy", st 31, F15, ["_law_digits", "_law_power"], ["_law_digits", "_law_power"], false⟩
def D16 : DD := ⟨"_law_number", st 32, F16, ["_law_number_here", "_law_high", "_law_digits", "_law_drawn_here", "_law_power", "_law_many"], ["_law_number_here"], false⟩
def D17 : DD := ⟨"_law_is_number", st 33, F17, ["_law_thing", "_law_part"], ["_law_thing"], false⟩
def D18 : DD := ⟨"_law_text", st 34, F18, ["_law_number_here", "_law_digits", "_law_power", "_law_sign", "_law_figures", "_law_high"], ["_law_number_here"], false⟩
def D19 : DD := ⟨"_law_told", st 35, F19, ["_law_deed", "_law_found", "e", "_law_kinds"], ["_law_deed"], false⟩
def D20 : DD := ⟨"_law_changed", st 36, F20, ["_law_text_here", "_law_number_here", "_law_at", "_law_letter"], ["_law_text_here", "_law_number_here"], false⟩
def D21 : DD := ⟨"_law_due", st 37, F21, ["_law_text_here", "_law_plain", "_law_figures", "_law_high", "_law_power", "_law_digits", "_law_found", "_law_sign"], ["_law_text_here"], false⟩
def D22 : DD := ⟨"law", st 38, F22, ["_law_script", "_law_number_here", "_law_text_here", "_law_k", "_law_due_here"], ["_law_script"], true⟩
def DS : List DD := [D0, D1, D2, D3, D4, D5, D6, D7, D8, D9, D10, D11, D12, D13, D14, D15, D16, D17, D18, D19, D20, D21, D22]
def CN : List Str := ["TooGreat", "NoText", "NoDeed", "NoKey", "NoRoom"]
def BN : List Str := ["isinstance", "ValueError", "int", "bool", "len", "str", "abs", "tuple", "all", "range", "max", "min"]
def GS : List (Str × GK) := [("MOST", .int (8)), ("HIGHEST", .int (40)), ("LEAST_PLAIN", .int (-4)), ("MOST_PLAIN", .int (9)), ("FIGURES", .str "0123456789")]
theorem dd_ok : ddB DS CN BN GS = true := by decide +kernel
theorem a0 : ArgsOk D0 := fun _ _ _ _ _ _ us hl => match us, hl with | [_], _ => rfl
theorem a1 : ArgsOk D1 := fun _ _ _ _ _ _ us hl => match us, hl with | [_], _ => rfl
theorem a2 : ArgsOk D2 := fun _ _ _ _ _ _ us hl => match us, hl with | [_], _ => rfl
theorem a3 : ArgsOk D3 := fun _ _ _ _ _ _ us hl => match us, hl with | [_], _ => rfl
theorem a4 : ArgsOk D4 := fun _ _ _ _ _ _ us hl => match us, hl with | [_], _ => rfl
theorem a5 : ArgsOk D5 := fun _ _ _ _ _ _ us hl => match us, hl with | [_, _], _ => rfl
theorem a6 : ArgsOk D6 := fun _ _ _ _ _ _ us hl => match us, hl with | [_], _ => rfl
theorem a7 : ArgsOk D7 := fun _ _ _ _ _ _ us hl => match us, hl with | [_, _], _ => rfl
theorem a8 : ArgsOk D8 := fun _ _ _ _ _ _ us hl => match us, hl with | [_], _ => rfl
theorem a9 : ArgsOk D9 := fun _ _ _ _ _ _ us hl => match us, hl with | [_], _ => rfl
theorem a10 : ArgsOk D10 := fun _ _ _ _ _ _ us hl => match us, hl with | [_, _], _ => rfl
theorem a11 : ArgsOk D11 := fun _ _ _ _ _ _ us hl => match us, hl with | [_, _], _ => rfl
theorem a12 : ArgsOk D12 := fun _ _ _ _ _ _ us hl => match us, hl with | [_, _], _ => rfl
theorem a13 : ArgsOk D13 := fun _ _ _ _ _ _ us hl => match us, hl with | [_], _ => rfl
theorem a14 : ArgsOk D14 := fun _ _ _ _ _ _ us hl => match us, hl with | [_], _ => rfl
theorem a15 : ArgsOk D15 := fun _ _ _ _ _ _ us hl => match us, hl with | [_, _], _ => rfl
theorem a16 : ArgsOk D16 := fun _ _ _ _ _ _ us hl => match us, hl with | [_], _ => rfl
theorem a17 : ArgsOk D17 := fun _ _ _ _ _ _ us hl => match us, hl with | [_], _ => rfl
theorem a18 : ArgsOk D18 := fun _ _ _ _ _ _ us hl => match us, hl with | [_], _ => rfl
theorem a19 : ArgsOk D19 := fun _ _ _ _ _ _ us hl => match us, hl with | [_], _ => rfl
theorem a20 : ArgsOk D20 := fun _ _ _ _ _ _ us hl => match us, hl with | [_, _], _ => rfl
theorem a21 : ArgsOk D21 := fun _ _ _ _ _ _ us hl => match us, hl with | [_], _ => rfl
theorem a22 : ArgsOk D22 := fun _ _ _ _ _ _ us hl => match us, hl with | [_], _ => rfl
theorem args_ok : ∀ d ∈ DS, ArgsOk d := by
  simp only [DS, List.forall_mem_cons]
  exact ⟨a0, a1, a2, a3, a4, a5, a6, a7, a8, a9, a10, a11, a12, a13, a14, a15, a16, a17, a18, a19, a20, a21, a22, fun _ h => absurd h List.not_mem_nil⟩
noncomputable def CL (k : Nat) : Cl := ⟨k, callT (glOf GS) (DS.map (·.F)) k⟩
noncomputable def C (k i : Nat) (ds : List D) : Res D := callN (glOf GS) (DS.map (·.F)) k i ds
theorem callAt (k i : Nat) (ds : List D) : (CL k).f k i ds = C k i ds := rfl
theorem CLk (k : Nat) : (CL k).k = k := rfl
theorem callLow {k i : Nat} {ds : List D} (h : 2 ≤ k) : (CL k).low.f (CL k).low.k i ds = C (k - 2) i ds := congrFun (congrFun (callT_le (by show k - 2 ≤ k; omega)) i) ds
theorem atC {k i : Nat} {ds : List D} {F : FD} (h : (DS.map (·.F))[i]? = some F) (hl : ds.length = F.pars) : C (k + 1) i ds = (denSs (CL k) (glOf GS) F.body (startV F.slots ds)).bind fin := by
  show callN _ _ _ _ _ = _
  rw [callN_succ, h]
  show runF _ _ _ _ = _
  unfold runF
  rw [if_pos hl]
  rfl
theorem c0 (k : Nat) (x0 : D) : C (k + 1) 0 [x0] = (denSs (CL k) (glOf GS) B0 [.pu x0]).bind fin := atC (F := F0) rfl rfl
theorem c1 (k : Nat) (x0 : D) : C (k + 1) 1 [x0] = (denSs (CL k) (glOf GS) B1 [.pu x0]).bind fin := atC (F := F1) rfl rfl
theorem c2 (k : Nat) (x0 : D) : C (k + 1) 2 [x0] = (denSs (CL k) (glOf GS) B2 [.pu x0]).bind fin := atC (F := F2) rfl rfl
theorem c3 (k : Nat) (x0 : D) : C (k + 1) 3 [x0] = (denSs (CL k) (glOf GS) B3 [.pu x0]).bind fin := atC (F := F3) rfl rfl
theorem c4 (k : Nat) (x0 : D) : C (k + 1) 4 [x0] = (denSs (CL k) (glOf GS) B4 [.pu x0]).bind fin := atC (F := F4) rfl rfl
theorem c5 (k : Nat) (x0 x1 : D) : C (k + 1) 5 [x0, x1] = (denSs (CL k) (glOf GS) B5 [.pu x0, .pu x1]).bind fin := atC (F := F5) rfl rfl
theorem c6 (k : Nat) (x0 : D) : C (k + 1) 6 [x0] = (denSs (CL k) (glOf GS) B6 [.pu x0, .un, .un, .un, .un, .un]).bind fin := atC (F := F6) rfl rfl
theorem c7 (k : Nat) (x0 x1 : D) : C (k + 1) 7 [x0, x1] = (denSs (CL k) (glOf GS) B7 [.pu x0, .pu x1, .un, .un]).bind fin := atC (F := F7) rfl rfl
theorem c8 (k : Nat) (x0 : D) : C (k + 1) 8 [x0] = (denSs (CL k) (glOf GS) B8 [.pu x0, .un, .un, .un, .un, .un]).bind fin := atC (F := F8) rfl rfl
theorem c9 (k : Nat) (x0 : D) : C (k + 1) 9 [x0] = (denSs (CL k) (glOf GS) B9 [.pu x0, .un, .un, .un, .un]).bind fin := atC (F := F9) rfl rfl
theorem c10 (k : Nat) (x0 x1 : D) : C (k + 1) 10 [x0, x1] = (denSs (CL k) (glOf GS) B10 [.pu x0, .pu x1]).bind fin := atC (F := F10) rfl rfl
theorem c11 (k : Nat) (x0 x1 : D) : C (k + 1) 11 [x0, x1] = (denSs (CL k) (glOf GS) B11 [.pu x0, .pu x1, .un]).bind fin := atC (F := F11) rfl rfl
theorem c12 (k : Nat) (x0 x1 : D) : C (k + 1) 12 [x0, x1] = (denSs (CL k) (glOf GS) B12 [.pu x0, .pu x1, .un]).bind fin := atC (F := F12) rfl rfl
theorem c13 (k : Nat) (x0 : D) : C (k + 1) 13 [x0] = (denSs (CL k) (glOf GS) B13 [.pu x0, .un, .un]).bind fin := atC (F := F13) rfl rfl
theorem c14 (k : Nat) (x0 : D) : C (k + 1) 14 [x0] = (denSs (CL k) (glOf GS) B14 [.pu x0]).bind fin := atC (F := F14) rfl rfl
theorem c15 (k : Nat) (x0 x1 : D) : C (k + 1) 15 [x0, x1] = (denSs (CL k) (glOf GS) B15 [.pu x0, .pu x1]).bind fin := atC (F := F15) rfl rfl
theorem c16 (k : Nat) (x0 : D) : C (k + 1) 16 [x0] = (denSs (CL k) (glOf GS) B16 [.pu x0, .un, .un, .un, .un, .un]).bind fin := atC (F := F16) rfl rfl
theorem c17 (k : Nat) (x0 : D) : C (k + 1) 17 [x0] = (denSs (CL k) (glOf GS) B17 [.pu x0, .un]).bind fin := atC (F := F17) rfl rfl
theorem c18 (k : Nat) (x0 : D) : C (k + 1) 18 [x0] = (denSs (CL k) (glOf GS) B18 [.pu x0, .un, .un, .un, .un, .un]).bind fin := atC (F := F18) rfl rfl
theorem c19 (k : Nat) (x0 : D) : C (k + 1) 19 [x0] = (denSs (CL k) (glOf GS) B19 [.pu x0, .un, .un, .un]).bind fin := atC (F := F19) rfl rfl
theorem c20 (k : Nat) (x0 x1 : D) : C (k + 1) 20 [x0, x1] = (denSs (CL k) (glOf GS) B20 [.pu x0, .pu x1, .un, .un]).bind fin := atC (F := F20) rfl rfl
theorem c21 (k : Nat) (x0 : D) : C (k + 1) 21 [x0] = (denSs (CL k) (glOf GS) B21 [.pu x0, .un, .un, .un, .un, .un, .un, .un]).bind fin := atC (F := F21) rfl rfl
theorem c22 (k : Nat) (x0 : D) : C (k + 1) 22 [x0] = (denSs (CL k) (glOf GS) B22 [.pu x0, .un, .un, .un, .un]).bind fin := atC (F := F22) rfl rfl
theorem told_in : ToldIn DS CN BN true := ⟨fun _ _ _ => rfl, fun _ => ⟨by decide +kernel, by decide +kernel, by decide +kernel, D19, List.mem_of_getElem? (i := 19) rfl, "_law_deed", by decide +kernel, rfl, .mk rfl rfl rfl, by decide +kernel⟩⟩
theorem g0 : glOf GS 0 = some ((.int 8)) := rfl
theorem g1 : glOf GS 1 = some ((.int 40)) := rfl
theorem g2 : glOf GS 2 = some ((.int (-4))) := rfl
theorem g3 : glOf GS 3 = some ((.int 9)) := rfl
theorem g4 : glOf GS 4 = some ((.str [48, 49, 50, 51, 52, 53, 54, 55, 56, 57])) := rfl
end Ev.K03
set_option Elab.async false
set_option linter.all false
set_option maxRecDepth 100000
set_option maxHeartbeats 4000000
namespace Ev.K03
open PySem PySem.Spec PyProof.Rows L2
theorem cell {k : Nat} (hk : 1 ≤ k) (ns : List Int) (i : Int) (h : 0 ≤ i) : ∃ v, C k 10 [.scr ns, .int i] = .ok (.int v) := by
  obtain ⟨k, rfl⟩ : ∃ j, k = j + 1 := ⟨k - 1, by omega⟩
  rw [c10]
  unfold B10
  by_cases hi : i < (ns.length : Int)
  · exact ⟨_, by simp (disch := first | omega | assumption | (simp only [List.length_cons, List.length_nil, List.length_append, List.length_replicate, List.length_take, List.length_drop]; omega)) only [den, dens, deno, denc, deni, denS, denSs, fin_nx, fin_rt, Res.bind_ok, Res.bind_exc, truth, partD, getV, setV, setAll, storeT, wipeV, binD_add, binD_sub, binD_mul, binD_fdiv, binD_mod, cmp_lt, cmp_le, cmp_gt, cmp_ge, cmp_eqi, cmp_nei, cmp_eqb, cmp_neb, cmp_eqs, cmp_nes, cmp_is, cmp_isNot, isn_int, isn_non, isn_tup, isn_lst, isn_str, isTy, isFn, ix0, ix1, ix2, ix3, ix4, ix5, ixm1, blt_lenc, blt_lent, blt_lenl, blt_lens, blt_abs, blt_inti, blt_intb, blt_tupt, blt_tupl, blt_lstt, blt_lstl, blt_max, blt_min, slice_tup, slice_lst, List.length_cons, List.length_nil, Nat.reduceAdd, Nat.reduceLeDiff, ↓reduceIte, reduceCtorEq, Bool.false_eq_true, Bool.not_true, Bool.not_false, Bool.not_eq_true, decide_eq_true_eq, decide_not, Bool.not_eq_eq_eq_not, maxl_num, Int.reduceEq, Int.reduceLT, Int.reduceLE, Int.reduceNeg, Int.reduceToNat, decide_true, decide_false, Bool.true_and, Bool.false_and, Bool.and_true, Bool.and_false, Bool.not_true, Bool.not_false, not_true_eq_false, not_false_eq_true, Nat.reduceEqDiff, nc0, nc1, nc2, nc3, nc4, nc5, nc6, nc7, nc8, nc9, nc10, nc11, nc12, g0, g1, g2, g3, g4, callAt, callLow, CLk, told_ok, told_x0, told_x1, told_x2, told_x3, told_x4, hi, decide_true, idx_scr]; rfl⟩
  · exact ⟨_, by simp (disch := first | omega | assumption | (simp only [List.length_cons, List.length_nil, List.length_append, List.length_replicate, List.length_take, List.length_drop]; omega)) only [den, dens, deno, denc, deni, denS, denSs, fin_nx, fin_rt, Res.bind_ok, Res.bind_exc, truth, partD, getV, setV, setAll, storeT, wipeV, binD_add, binD_sub, binD_mul, binD_fdiv, binD_mod, cmp_lt, cmp_le, cmp_gt, cmp_ge, cmp_eqi, cmp_nei, cmp_eqb, cmp_neb, cmp_eqs, cmp_nes, cmp_is, cmp_isNot, isn_int, isn_non, isn_tup, isn_lst, isn_str, isTy, isFn, ix0, ix1, ix2, ix3, ix4, ix5, ixm1, blt_lenc, blt_lent, blt_lenl, blt_lens, blt_abs, blt_inti, blt_intb, blt_tupt, blt_tupl, blt_lstt, blt_lstl, blt_max, blt_min, slice_tup, slice_lst, List.length_cons, List.length_nil, Nat.reduceAdd, Nat.reduceLeDiff, ↓reduceIte, reduceCtorEq, Bool.false_eq_true, Bool.not_true, Bool.not_false, Bool.not_eq_true, decide_eq_true_eq, decide_not, Bool.not_eq_eq_eq_not, maxl_num, Int.reduceEq, Int.reduceLT, Int.reduceLE, Int.reduceNeg, Int.reduceToNat, decide_true, decide_false, Bool.true_and, Bool.false_and, Bool.and_true, Bool.and_false, Bool.not_true, Bool.not_false, not_true_eq_false, not_false_eq_true, Nat.reduceEqDiff, nc0, nc1, nc2, nc3, nc4, nc5, nc6, nc7, nc8, nc9, nc10, nc11, nc12, g0, g1, g2, g3, g4, callAt, callLow, CLk, told_ok, told_x0, told_x1, told_x2, told_x3, told_x4, hi, decide_false]; rfl⟩
theorem mixed {k : Nat} (hk : 2 ≤ k) (ns : List Int) (i : Int) (h : 0 ≤ i) (h2 : i < 1000) : ∃ v, C k 11 [.scr ns, .int i] = .ok (.int v) ∧ 0 ≤ v ∧ v < 2147483629 := by
  obtain ⟨k, rfl⟩ : ∃ j, k = j + 2 := ⟨k - 2, by omega⟩
  obtain ⟨v, hv⟩ := cell (k := k + 1) (by omega) ns i h
  rw [c11]
  unfold B11
  have e1 : 0 ≤ (v + 7919 * i + 1) * 48271 % 2147483647 ∧ (v + 7919 * i + 1) * 48271 % 2147483647 < 2147483647 := by omega
  refine ⟨_, by simp (disch := first | omega | assumption | (simp only [List.length_cons, List.length_nil, List.length_append, List.length_replicate, List.length_take, List.length_drop]; omega)) only [den, dens, deno, denc, deni, denS, denSs, fin_nx, fin_rt, Res.bind_ok, Res.bind_exc, truth, partD, getV, setV, setAll, storeT, wipeV, binD_add, binD_sub, binD_mul, binD_fdiv, binD_mod, cmp_lt, cmp_le, cmp_gt, cmp_ge, cmp_eqi, cmp_nei, cmp_eqb, cmp_neb, cmp_eqs, cmp_nes, cmp_is, cmp_isNot, isn_int, isn_non, isn_tup, isn_lst, isn_str, isTy, isFn, ix0, ix1, ix2, ix3, ix4, ix5, ixm1, blt_lenc, blt_lent, blt_lenl, blt_lens, blt_abs, blt_inti, blt_intb, blt_tupt, blt_tupl, blt_lstt, blt_lstl, blt_max, blt_min, slice_tup, slice_lst, List.length_cons, List.length_nil, Nat.reduceAdd, Nat.reduceLeDiff, ↓reduceIte, reduceCtorEq, Bool.false_eq_true, Bool.not_true, Bool.not_false, Bool.not_eq_true, decide_eq_true_eq, decide_not, Bool.not_eq_eq_eq_not, maxl_num, Int.reduceEq, Int.reduceLT, Int.reduceLE, Int.reduceNeg, Int.reduceToNat, decide_true, decide_false, Bool.true_and, Bool.false_and, Bool.and_true, Bool.and_false, Bool.not_true, Bool.not_false, not_true_eq_false, not_false_eq_true, Nat.reduceEqDiff, nc0, nc1, nc2, nc3, nc4, nc5, nc6, nc7, nc8, nc9, nc10, nc11, nc12, g0, g1, g2, g3, g4, callAt, callLow, CLk, told_ok, told_x0, told_x1, told_x2, told_x3, told_x4, hv]; rfl, by omega, by omega⟩
theorem drawn {k : Nat} (hk : 1 ≤ k) (n i : Int) (h : 0 ≤ i) (h2 : i < 1000) : ∃ v, C k 12 [.int n, .int i] = .ok (.int v) ∧ 0 ≤ v ∧ v < 2147483629 := by
  obtain ⟨k, rfl⟩ : ∃ j, k = j + 1 := ⟨k - 1, by omega⟩
  rw [c12]
  unfold B12
  have e1 : 0 ≤ (n + 104729 * i + 17) * 69621 % 2147483647 ∧ (n + 104729 * i + 17) * 69621 % 2147483647 < 2147483647 := by omega
  refine ⟨_, by simp (disch := first | omega | assumption | (simp only [List.length_cons, List.length_nil, List.length_append, List.length_replicate, List.length_take, List.length_drop]; omega)) only [den, dens, deno, denc, deni, denS, denSs, fin_nx, fin_rt, Res.bind_ok, Res.bind_exc, truth, partD, getV, setV, setAll, storeT, wipeV, binD_add, binD_sub, binD_mul, binD_fdiv, binD_mod, cmp_lt, cmp_le, cmp_gt, cmp_ge, cmp_eqi, cmp_nei, cmp_eqb, cmp_neb, cmp_eqs, cmp_nes, cmp_is, cmp_isNot, isn_int, isn_non, isn_tup, isn_lst, isn_str, isTy, isFn, ix0, ix1, ix2, ix3, ix4, ix5, ixm1, blt_lenc, blt_lent, blt_lenl, blt_lens, blt_abs, blt_inti, blt_intb, blt_tupt, blt_tupl, blt_lstt, blt_lstl, blt_max, blt_min, slice_tup, slice_lst, List.length_cons, List.length_nil, Nat.reduceAdd, Nat.reduceLeDiff, ↓reduceIte, reduceCtorEq, Bool.false_eq_true, Bool.not_true, Bool.not_false, Bool.not_eq_true, decide_eq_true_eq, decide_not, Bool.not_eq_eq_eq_not, maxl_num, Int.reduceEq, Int.reduceLT, Int.reduceLE, Int.reduceNeg, Int.reduceToNat, decide_true, decide_false, Bool.true_and, Bool.false_and, Bool.and_true, Bool.and_false, Bool.not_true, Bool.not_false, not_true_eq_false, not_false_eq_true, Nat.reduceEqDiff, nc0, nc1, nc2, nc3, nc4, nc5, nc6, nc7, nc8, nc9, nc10, nc11, nc12, g0, g1, g2, g3, g4, callAt, callLow, CLk, told_ok, told_x0, told_x1, told_x2, told_x3, told_x4]; rfl, by omega, by omega⟩
theorem figures {k : Nat} (hk : 1 ≤ k) {a : Int} (h : -BIG < a ∧ a < BIG) : C k 2 [.int a] = .ok (.int (fig a)) := by
  obtain ⟨k, rfl⟩ : ∃ j, k = j + 1 := ⟨k - 1, by omega⟩
  have hb := absB h
  have hl := numS_len hb.1 hb.2
  rw [c2]
  unfold B2
  simp (disch := first | omega | assumption | (simp only [List.length_cons, List.length_nil, List.length_append, List.length_replicate, List.length_take, List.length_drop]; omega)) only [den, dens, deno, denc, deni, denS, denSs, fin_nx, fin_rt, Res.bind_ok, Res.bind_exc, truth, partD, getV, setV, setAll, storeT, wipeV, binD_add, binD_sub, binD_mul, binD_fdiv, binD_mod, cmp_lt, cmp_le, cmp_gt, cmp_ge, cmp_eqi, cmp_nei, cmp_eqb, cmp_neb, cmp_eqs, cmp_nes, cmp_is, cmp_isNot, isn_int, isn_non, isn_tup, isn_lst, isn_str, isTy, isFn, ix0, ix1, ix2, ix3, ix4, ix5, ixm1, blt_lenc, blt_lent, blt_lenl, blt_lens, blt_abs, blt_inti, blt_intb, blt_tupt, blt_tupl, blt_lstt, blt_lstl, blt_max, blt_min, slice_tup, slice_lst, List.length_cons, List.length_nil, Nat.reduceAdd, Nat.reduceLeDiff, ↓reduceIte, reduceCtorEq, Bool.false_eq_true, Bool.not_true, Bool.not_false, Bool.not_eq_true, decide_eq_true_eq, decide_not, Bool.not_eq_eq_eq_not, maxl_num, Int.reduceEq, Int.reduceLT, Int.reduceLE, Int.reduceNeg, Int.reduceToNat, decide_true, decide_false, Bool.true_and, Bool.false_and, Bool.and_true, Bool.and_false, Bool.not_true, Bool.not_false, not_true_eq_false, not_false_eq_true, Nat.reduceEqDiff, nc0, nc1, nc2, nc3, nc4, nc5, nc6, nc7, nc8, nc9, nc10, nc11, nc12, g0, g1, g2, g3, g4, callAt, callLow, CLk, told_ok, told_x0, told_x1, told_x2, told_x3, told_x4, hb.1, hb.2, blt_stri hb.1 hb.2]
  rfl
theorem height {k : Nat} (hk : 2 ≤ k) {a b : Int} (h : -BIG < a ∧ a < BIG) : C k 3 [.tup [.int a, .int b]] = .ok (.int (b + fig a - 1)) := by
  obtain ⟨k, rfl⟩ : ∃ j, k = j + 2 := ⟨k - 2, by omega⟩
  rw [c3]
  unfold B3
  simp (disch := first | omega | assumption | (simp only [List.length_cons, List.length_nil, List.length_append, List.length_replicate, List.length_take, List.length_drop]; omega)) only [den, dens, deno, denc, deni, denS, denSs, fin_nx, fin_rt, Res.bind_ok, Res.bind_exc, truth, partD, getV, setV, setAll, storeT, wipeV, binD_add, binD_sub, binD_mul, binD_fdiv, binD_mod, cmp_lt, cmp_le, cmp_gt, cmp_ge, cmp_eqi, cmp_nei, cmp_eqb, cmp_neb, cmp_eqs, cmp_nes, cmp_is, cmp_isNot, isn_int, isn_non, isn_tup, isn_lst, isn_str, isTy, isFn, ix0, ix1, ix2, ix3, ix4, ix5, ixm1, blt_lenc, blt_lent, blt_lenl, blt_lens, blt_abs, blt_inti, blt_intb, blt_tupt, blt_tupl, blt_lstt, blt_lstl, blt_max, blt_min, slice_tup, slice_lst, List.length_cons, List.length_nil, Nat.reduceAdd, Nat.reduceLeDiff, ↓reduceIte, reduceCtorEq, Bool.false_eq_true, Bool.not_true, Bool.not_false, Bool.not_eq_true, decide_eq_true_eq, decide_not, Bool.not_eq_eq_eq_not, maxl_num, Int.reduceEq, Int.reduceLT, Int.reduceLE, Int.reduceNeg, Int.reduceToNat, decide_true, decide_false, Bool.true_and, Bool.false_and, Bool.and_true, Bool.and_false, Bool.not_true, Bool.not_false, not_true_eq_false, not_false_eq_true, Nat.reduceEqDiff, nc0, nc1, nc2, nc3, nc4, nc5, nc6, nc7, nc8, nc9, nc10, nc11, nc12, g0, g1, g2, g3, g4, callAt, callLow, CLk, told_ok, told_x0, told_x1, told_x2, told_x3, told_x4, figures (k := k + 1) (by omega) h]
theorem tenN {k : Nat} (hk : 1 ≤ k) (p : Int) (h : 0 ≤ p) (h2 : p ≤ 600) : C k 1 [.int p] = .ok (.int (10 ^ p.toNat)) := by
  obtain ⟨k, rfl⟩ : ∃ j, k = j + 1 := ⟨k - 1, by omega⟩
  rw [c1]
  unfold B1
  have e := ten_text (k := p.toNat) (by omega)
  have l1 : (reps p.toNat [48]).length ≤ 600 := by rw [reps_one, List.length_replicate]; omega
  simp (disch := first | omega | (simp only [List.length_cons, List.length_nil]; omega)) only [den, dens, deno, denc, deni, denS, denSs, fin_nx, fin_rt, Res.bind_ok, Res.bind_exc, truth, partD, getV, setV, setAll, storeT, wipeV, binD_add, binD_sub, binD_mul, binD_fdiv, binD_mod, cmp_lt, cmp_le, cmp_gt, cmp_ge, cmp_eqi, cmp_nei, cmp_eqb, cmp_neb, cmp_eqs, cmp_nes, cmp_is, cmp_isNot, isn_int, isn_non, isn_tup, isn_lst, isn_str, isTy, isFn, ix0, ix1, ix2, ix3, ix4, ix5, ixm1, blt_lenc, blt_lent, blt_lenl, blt_lens, blt_abs, blt_inti, blt_intb, blt_tupt, blt_tupl, blt_lstt, blt_lstl, blt_max, blt_min, slice_tup, slice_lst, List.length_cons, List.length_nil, Nat.reduceAdd, Nat.reduceLeDiff, ↓reduceIte, reduceCtorEq, Bool.false_eq_true, Bool.not_true, Bool.not_false, Bool.not_eq_true, decide_eq_true_eq, decide_not, Bool.not_eq_eq_eq_not, maxl_num, Int.reduceEq, Int.reduceLT, Int.reduceLE, Int.reduceNeg, Int.reduceToNat, decide_true, decide_false, Bool.true_and, Bool.false_and, Bool.and_true, Bool.and_false, Bool.not_true, Bool.not_false, not_true_eq_false, not_false_eq_true, Nat.reduceEqDiff, nc0, nc1, nc2, nc3, nc4, nc5, nc6, nc7, nc8, nc9, nc10, nc11, nc12, g0, g1, g2, g3, g4, callAt, callLow, CLk, told_ok, told_x0, told_x1, told_x2, told_x3, told_x4, binD_rep, binD_str, e]
def isInt : D → Bool
  | .int _ => true
  | _ => false
theorem whole {k : Nat} (hk : 1 ≤ k) {d : D} (h : FineI d) : C k 0 [d] = .ok (.bl (isInt d)) := by
  obtain ⟨k, rfl⟩ : ∃ j, k = j + 1 := ⟨k - 1, by omega⟩
  rw [c0]
  unfold B0
  cases d <;> first | exact (show False from h).elim | (simp (disch := first | omega | assumption | (simp only [List.length_cons, List.length_nil, List.length_append, List.length_replicate, List.length_take, List.length_drop]; omega)) only [den, dens, deno, denc, deni, denS, denSs, fin_nx, fin_rt, Res.bind_ok, Res.bind_exc, truth, partD, getV, setV, setAll, storeT, wipeV, binD_add, binD_sub, binD_mul, binD_fdiv, binD_mod, cmp_lt, cmp_le, cmp_gt, cmp_ge, cmp_eqi, cmp_nei, cmp_eqb, cmp_neb, cmp_eqs, cmp_nes, cmp_is, cmp_isNot, isn_int, isn_non, isn_tup, isn_lst, isn_str, isTy, isFn, ix0, ix1, ix2, ix3, ix4, ix5, ixm1, blt_lenc, blt_lent, blt_lenl, blt_lens, blt_abs, blt_inti, blt_intb, blt_tupt, blt_tupl, blt_lstt, blt_lstl, blt_max, blt_min, slice_tup, slice_lst, List.length_cons, List.length_nil, Nat.reduceAdd, Nat.reduceLeDiff, ↓reduceIte, reduceCtorEq, Bool.false_eq_true, Bool.not_true, Bool.not_false, Bool.not_eq_true, decide_eq_true_eq, decide_not, Bool.not_eq_eq_eq_not, maxl_num, Int.reduceEq, Int.reduceLT, Int.reduceLE, Int.reduceNeg, Int.reduceToNat, decide_true, decide_false, Bool.true_and, Bool.false_and, Bool.and_true, Bool.and_false, Bool.not_true, Bool.not_false, not_true_eq_false, not_false_eq_true, Nat.reduceEqDiff, nc0, nc1, nc2, nc3, nc4, nc5, nc6, nc7, nc8, nc9, nc10, nc11, nc12, g0, g1, g2, g3, g4, callAt, callLow, CLk, told_ok, told_x0, told_x1, told_x2, told_x3, told_x4]; rfl)
theorem isnumber {k : Nat} (hk : 3 ≤ k) {d : D} (h : Fine d) : C k 4 [d] = .ok (.bl (numB d)) := by
  obtain ⟨k, rfl⟩ : ∃ j, k = j + 3 := ⟨k - 3, by omega⟩
  rw [c4]
  unfold B4
  have t8 : C (k + 2) 1 [.int 8] = .ok (.int 100000000) := tenN (k := k + 2) (by omega) 8 (by omega) (by omega)
  have wh : ∀ x, FineI x → C (k + 2) 0 [x] = .ok (.bl (isInt x)) := fun x hx => whole (k := k + 2) (by omega) hx
  match d, h with
  | .tup [], _ => simp (disch := first | omega | assumption | (simp only [List.length_cons, List.length_nil, List.length_append, List.length_replicate, List.length_take, List.length_drop]; omega)) only [den, dens, deno, denc, deni, denS, denSs, fin_nx, fin_rt, Res.bind_ok, Res.bind_exc, truth, partD, getV, setV, setAll, storeT, wipeV, binD_add, binD_sub, binD_mul, binD_fdiv, binD_mod, cmp_lt, cmp_le, cmp_gt, cmp_ge, cmp_eqi, cmp_nei, cmp_eqb, cmp_neb, cmp_eqs, cmp_nes, cmp_is, cmp_isNot, isn_int, isn_non, isn_tup, isn_lst, isn_str, isTy, isFn, ix0, ix1, ix2, ix3, ix4, ix5, ixm1, blt_lenc, blt_lent, blt_lenl, blt_lens, blt_abs, blt_inti, blt_intb, blt_tupt, blt_tupl, blt_lstt, blt_lstl, blt_max, blt_min, slice_tup, slice_lst, List.length_cons, List.length_nil, Nat.reduceAdd, Nat.reduceLeDiff, ↓reduceIte, reduceCtorEq, Bool.false_eq_true, Bool.not_true, Bool.not_false, Bool.not_eq_true, decide_eq_true_eq, decide_not, Bool.not_eq_eq_eq_not, maxl_num, Int.reduceEq, Int.reduceLT, Int.reduceLE, Int.reduceNeg, Int.reduceToNat, decide_true, decide_false, Bool.true_and, Bool.false_and, Bool.and_true, Bool.and_false, Bool.not_true, Bool.not_false, not_true_eq_false, not_false_eq_true, Nat.reduceEqDiff, nc0, nc1, nc2, nc3, nc4, nc5, nc6, nc7, nc8, nc9, nc10, nc11, nc12, g0, g1, g2, g3, g4, callAt, callLow, CLk, told_ok, told_x0, told_x1, told_x2, told_x3, told_x4]; rfl
  | .tup [x], _ => simp (disch := first | omega | assumption | (simp only [List.length_cons, List.length_nil, List.length_append, List.length_replicate, List.length_take, List.length_drop]; omega)) only [den, dens, deno, denc, deni, denS, denSs, fin_nx, fin_rt, Res.bind_ok, Res.bind_exc, truth, partD, getV, setV, setAll, storeT, wipeV, binD_add, binD_sub, binD_mul, binD_fdiv, binD_mod, cmp_lt, cmp_le, cmp_gt, cmp_ge, cmp_eqi, cmp_nei, cmp_eqb, cmp_neb, cmp_eqs, cmp_nes, cmp_is, cmp_isNot, isn_int, isn_non, isn_tup, isn_lst, isn_str, isTy, isFn, ix0, ix1, ix2, ix3, ix4, ix5, ixm1, blt_lenc, blt_lent, blt_lenl, blt_lens, blt_abs, blt_inti, blt_intb, blt_tupt, blt_tupl, blt_lstt, blt_lstl, blt_max, blt_min, slice_tup, slice_lst, List.length_cons, List.length_nil, Nat.reduceAdd, Nat.reduceLeDiff, ↓reduceIte, reduceCtorEq, Bool.false_eq_true, Bool.not_true, Bool.not_false, Bool.not_eq_true, decide_eq_true_eq, decide_not, Bool.not_eq_eq_eq_not, maxl_num, Int.reduceEq, Int.reduceLT, Int.reduceLE, Int.reduceNeg, Int.reduceToNat, decide_true, decide_false, Bool.true_and, Bool.false_and, Bool.and_true, Bool.and_false, Bool.not_true, Bool.not_false, not_true_eq_false, not_false_eq_true, Nat.reduceEqDiff, nc0, nc1, nc2, nc3, nc4, nc5, nc6, nc7, nc8, nc9, nc10, nc11, nc12, g0, g1, g2, g3, g4, callAt, callLow, CLk, told_ok, told_x0, told_x1, told_x2, told_x3, told_x4, numB1]
  | .tup (x :: y :: z :: r), _ =>
    have : ¬((((r.length + 1 + 1 + 1 : Nat)) : Int) = 2) := by omega
    simp (disch := first | omega | assumption | (simp only [List.length_cons, List.length_nil, List.length_append, List.length_replicate, List.length_take, List.length_drop]; omega)) only [den, dens, deno, denc, deni, denS, denSs, fin_nx, fin_rt, Res.bind_ok, Res.bind_exc, truth, partD, getV, setV, setAll, storeT, wipeV, binD_add, binD_sub, binD_mul, binD_fdiv, binD_mod, cmp_lt, cmp_le, cmp_gt, cmp_ge, cmp_eqi, cmp_nei, cmp_eqb, cmp_neb, cmp_eqs, cmp_nes, cmp_is, cmp_isNot, isn_int, isn_non, isn_tup, isn_lst, isn_str, isTy, isFn, ix0, ix1, ix2, ix3, ix4, ix5, ixm1, blt_lenc, blt_lent, blt_lenl, blt_lens, blt_abs, blt_inti, blt_intb, blt_tupt, blt_tupl, blt_lstt, blt_lstl, blt_max, blt_min, slice_tup, slice_lst, List.length_cons, List.length_nil, Nat.reduceAdd, Nat.reduceLeDiff, ↓reduceIte, reduceCtorEq, Bool.false_eq_true, Bool.not_true, Bool.not_false, Bool.not_eq_true, decide_eq_true_eq, decide_not, Bool.not_eq_eq_eq_not, maxl_num, Int.reduceEq, Int.reduceLT, Int.reduceLE, Int.reduceNeg, Int.reduceToNat, decide_true, decide_false, Bool.true_and, Bool.false_and, Bool.and_true, Bool.and_false, Bool.not_true, Bool.not_false, not_true_eq_false, not_false_eq_true, Nat.reduceEqDiff, nc0, nc1, nc2, nc3, nc4, nc5, nc6, nc7, nc8, nc9, nc10, nc11, nc12, g0, g1, g2, g3, g4, callAt, callLow, CLk, told_ok, told_x0, told_x1, told_x2, told_x3, told_x4, this, decide_false, numB3]
  | .tup [x, y], h =>
    have hx : FineI x := h x (by simp)
    have hy : FineI y := h y (by simp)
    have e2 : ((2 : Nat) : Int) = 2 := rfl
    simp (disch := first | omega | assumption | (simp only [List.length_cons, List.length_nil, List.length_append, List.length_replicate, List.length_take, List.length_drop]; omega)) only [den, dens, deno, denc, deni, denS, denSs, fin_nx, fin_rt, Res.bind_ok, Res.bind_exc, truth, partD, getV, setV, setAll, storeT, wipeV, binD_add, binD_sub, binD_mul, binD_fdiv, binD_mod, cmp_lt, cmp_le, cmp_gt, cmp_ge, cmp_eqi, cmp_nei, cmp_eqb, cmp_neb, cmp_eqs, cmp_nes, cmp_is, cmp_isNot, isn_int, isn_non, isn_tup, isn_lst, isn_str, isTy, isFn, ix0, ix1, ix2, ix3, ix4, ix5, ixm1, blt_lenc, blt_lent, blt_lenl, blt_lens, blt_abs, blt_inti, blt_intb, blt_tupt, blt_tupl, blt_lstt, blt_lstl, blt_max, blt_min, slice_tup, slice_lst, List.length_cons, List.length_nil, Nat.reduceAdd, Nat.reduceLeDiff, ↓reduceIte, reduceCtorEq, Bool.false_eq_true, Bool.not_true, Bool.not_false, Bool.not_eq_true, decide_eq_true_eq, decide_not, Bool.not_eq_eq_eq_not, maxl_num, Int.reduceEq, Int.reduceLT, Int.reduceLE, Int.reduceNeg, Int.reduceToNat, decide_true, decide_false, Bool.true_and, Bool.false_and, Bool.and_true, Bool.and_false, Bool.not_true, Bool.not_false, not_true_eq_false, not_false_eq_true, Nat.reduceEqDiff, nc0, nc1, nc2, nc3, nc4, nc5, nc6, nc7, nc8, nc9, nc10, nc11, nc12, g0, g1, g2, g3, g4, callAt, callLow, CLk, told_ok, told_x0, told_x1, told_x2, told_x3, told_x4, wh x hx, wh y hy, e2, decide_true]
    cases x <;> first | exact hx.elim | (simp (disch := first | omega | assumption | (simp only [List.length_cons, List.length_nil, List.length_append, List.length_replicate, List.length_take, List.length_drop]; omega)) only [den, dens, deno, denc, deni, denS, denSs, fin_nx, fin_rt, Res.bind_ok, Res.bind_exc, truth, partD, getV, setV, setAll, storeT, wipeV, binD_add, binD_sub, binD_mul, binD_fdiv, binD_mod, cmp_lt, cmp_le, cmp_gt, cmp_ge, cmp_eqi, cmp_nei, cmp_eqb, cmp_neb, cmp_eqs, cmp_nes, cmp_is, cmp_isNot, isn_int, isn_non, isn_tup, isn_lst, isn_str, isTy, isFn, ix0, ix1, ix2, ix3, ix4, ix5, ixm1, blt_lenc, blt_lent, blt_lenl, blt_lens, blt_abs, blt_inti, blt_intb, blt_tupt, blt_tupl, blt_lstt, blt_lstl, blt_max, blt_min, slice_tup, slice_lst, List.length_cons, List.length_nil, Nat.reduceAdd, Nat.reduceLeDiff, ↓reduceIte, reduceCtorEq, Bool.false_eq_true, Bool.not_true, Bool.not_false, Bool.not_eq_true, decide_eq_true_eq, decide_not, Bool.not_eq_eq_eq_not, maxl_num, Int.reduceEq, Int.reduceLT, Int.reduceLE, Int.reduceNeg, Int.reduceToNat, decide_true, decide_false, Bool.true_and, Bool.false_and, Bool.and_true, Bool.and_false, Bool.not_true, Bool.not_false, not_true_eq_false, not_false_eq_true, Nat.reduceEqDiff, nc0, nc1, nc2, nc3, nc4, nc5, nc6, nc7, nc8, nc9, nc10, nc11, nc12, g0, g1, g2, g3, g4, callAt, callLow, CLk, told_ok, told_x0, told_x1, told_x2, told_x3, told_x4, isInt]; rfl) | skip
    cases y <;> first | exact hy.elim | (simp (disch := first | omega | assumption | (simp only [List.length_cons, List.length_nil, List.length_append, List.length_replicate, List.length_take, List.length_drop]; omega)) only [den, dens, deno, denc, deni, denS, denSs, fin_nx, fin_rt, Res.bind_ok, Res.bind_exc, truth, partD, getV, setV, setAll, storeT, wipeV, binD_add, binD_sub, binD_mul, binD_fdiv, binD_mod, cmp_lt, cmp_le, cmp_gt, cmp_ge, cmp_eqi, cmp_nei, cmp_eqb, cmp_neb, cmp_eqs, cmp_nes, cmp_is, cmp_isNot, isn_int, isn_non, isn_tup, isn_lst, isn_str, isTy, isFn, ix0, ix1, ix2, ix3, ix4, ix5, ixm1, blt_lenc, blt_lent, blt_lenl, blt_lens, blt_abs, blt_inti, blt_intb, blt_tupt, blt_tupl, blt_lstt, blt_lstl, blt_max, blt_min, slice_tup, slice_lst, List.length_cons, List.length_nil, Nat.reduceAdd, Nat.reduceLeDiff, ↓reduceIte, reduceCtorEq, Bool.false_eq_true, Bool.not_true, Bool.not_false, Bool.not_eq_true, decide_eq_true_eq, decide_not, Bool.not_eq_eq_eq_not, maxl_num, Int.reduceEq, Int.reduceLT, Int.reduceLE, Int.reduceNeg, Int.reduceToNat, decide_true, decide_false, Bool.true_and, Bool.false_and, Bool.and_true, Bool.and_false, Bool.not_true, Bool.not_false, not_true_eq_false, not_false_eq_true, Nat.reduceEqDiff, nc0, nc1, nc2, nc3, nc4, nc5, nc6, nc7, nc8, nc9, nc10, nc11, nc12, g0, g1, g2, g3, g4, callAt, callLow, CLk, told_ok, told_x0, told_x1, told_x2, told_x3, told_x4, isInt]; rfl) | skip
    rename_i a b
    have hh : C (k + 2) 3 [.tup [.int a, .int b]] = .ok (.int (b + fig a - 1)) := height (k := k + 2) (by omega) hx
    simp (disch := first | omega | assumption | (simp only [List.length_cons, List.length_nil, List.length_append, List.length_replicate, List.length_take, List.length_drop]; omega)) only [den, dens, deno, denc, deni, denS, denSs, fin_nx, fin_rt, Res.bind_ok, Res.bind_exc, truth, partD, getV, setV, setAll, storeT, wipeV, binD_add, binD_sub, binD_mul, binD_fdiv, binD_mod, cmp_lt, cmp_le, cmp_gt, cmp_ge, cmp_eqi, cmp_nei, cmp_eqb, cmp_neb, cmp_eqs, cmp_nes, cmp_is, cmp_isNot, isn_int, isn_non, isn_tup, isn_lst, isn_str, isTy, isFn, ix0, ix1, ix2, ix3, ix4, ix5, ixm1, blt_lenc, blt_lent, blt_lenl, blt_lens, blt_abs, blt_inti, blt_intb, blt_tupt, blt_tupl, blt_lstt, blt_lstl, blt_max, blt_min, slice_tup, slice_lst, List.length_cons, List.length_nil, Nat.reduceAdd, Nat.reduceLeDiff, ↓reduceIte, reduceCtorEq, Bool.false_eq_true, Bool.not_true, Bool.not_false, Bool.not_eq_true, decide_eq_true_eq, decide_not, Bool.not_eq_eq_eq_not, maxl_num, Int.reduceEq, Int.reduceLT, Int.reduceLE, Int.reduceNeg, Int.reduceToNat, decide_true, decide_false, Bool.true_and, Bool.false_and, Bool.and_true, Bool.and_false, Bool.not_true, Bool.not_false, not_true_eq_false, not_false_eq_true, Nat.reduceEqDiff, nc0, nc1, nc2, nc3, nc4, nc5, nc6, nc7, nc8, nc9, nc10, nc11, nc12, g0, g1, g2, g3, g4, callAt, callLow, CLk, told_ok, told_x0, told_x1, told_x2, told_x3, told_x4, isInt]
    by_cases ha : a = 0
    · subst ha
      simp (disch := first | omega | assumption | (simp only [List.length_cons, List.length_nil, List.length_append, List.length_replicate, List.length_take, List.length_drop]; omega)) only [den, dens, deno, denc, deni, denS, denSs, fin_nx, fin_rt, Res.bind_ok, Res.bind_exc, truth, partD, getV, setV, setAll, storeT, wipeV, binD_add, binD_sub, binD_mul, binD_fdiv, binD_mod, cmp_lt, cmp_le, cmp_gt, cmp_ge, cmp_eqi, cmp_nei, cmp_eqb, cmp_neb, cmp_eqs, cmp_nes, cmp_is, cmp_isNot, isn_int, isn_non, isn_tup, isn_lst, isn_str, isTy, isFn, ix0, ix1, ix2, ix3, ix4, ix5, ixm1, blt_lenc, blt_lent, blt_lenl, blt_lens, blt_abs, blt_inti, blt_intb, blt_tupt, blt_tupl, blt_lstt, blt_lstl, blt_max, blt_min, slice_tup, slice_lst, List.length_cons, List.length_nil, Nat.reduceAdd, Nat.reduceLeDiff, ↓reduceIte, reduceCtorEq, Bool.false_eq_true, Bool.not_true, Bool.not_false, Bool.not_eq_true, decide_eq_true_eq, decide_not, Bool.not_eq_eq_eq_not, maxl_num, Int.reduceEq, Int.reduceLT, Int.reduceLE, Int.reduceNeg, Int.reduceToNat, decide_true, decide_false, Bool.true_and, Bool.false_and, Bool.and_true, Bool.and_false, Bool.not_true, Bool.not_false, not_true_eq_false, not_false_eq_true, Nat.reduceEqDiff, nc0, nc1, nc2, nc3, nc4, nc5, nc6, nc7, nc8, nc9, nc10, nc11, nc12, g0, g1, g2, g3, g4, callAt, callLow, CLk, told_ok, told_x0, told_x1, told_x2, told_x3, told_x4, decide_true]
      show Res.ok (D.bl _) = Res.ok (D.bl (decide (Numb 0 b)))
      rw [isNumb_zero]
    · simp (disch := first | omega | assumption | (simp only [List.length_cons, List.length_nil, List.length_append, List.length_replicate, List.length_take, List.length_drop]; omega)) only [den, dens, deno, denc, deni, denS, denSs, fin_nx, fin_rt, Res.bind_ok, Res.bind_exc, truth, partD, getV, setV, setAll, storeT, wipeV, binD_add, binD_sub, binD_mul, binD_fdiv, binD_mod, cmp_lt, cmp_le, cmp_gt, cmp_ge, cmp_eqi, cmp_nei, cmp_eqb, cmp_neb, cmp_eqs, cmp_nes, cmp_is, cmp_isNot, isn_int, isn_non, isn_tup, isn_lst, isn_str, isTy, isFn, ix0, ix1, ix2, ix3, ix4, ix5, ixm1, blt_lenc, blt_lent, blt_lenl, blt_lens, blt_abs, blt_inti, blt_intb, blt_tupt, blt_tupl, blt_lstt, blt_lstl, blt_max, blt_min, slice_tup, slice_lst, List.length_cons, List.length_nil, Nat.reduceAdd, Nat.reduceLeDiff, ↓reduceIte, reduceCtorEq, Bool.false_eq_true, Bool.not_true, Bool.not_false, Bool.not_eq_true, decide_eq_true_eq, decide_not, Bool.not_eq_eq_eq_not, maxl_num, Int.reduceEq, Int.reduceLT, Int.reduceLE, Int.reduceNeg, Int.reduceToNat, decide_true, decide_false, Bool.true_and, Bool.false_and, Bool.and_true, Bool.and_false, Bool.not_true, Bool.not_false, not_true_eq_false, not_false_eq_true, Nat.reduceEqDiff, nc0, nc1, nc2, nc3, nc4, nc5, nc6, nc7, nc8, nc9, nc10, nc11, nc12, g0, g1, g2, g3, g4, callAt, callLow, CLk, told_ok, told_x0, told_x1, told_x2, told_x3, told_x4, ha, decide_false, t8]
      show _ = Res.ok (D.bl (decide (Numb a b)))
      rw [isNumb_eq ha]
      by_cases h1 : (if a < 0 then -a else a) < 100000000
      · by_cases h2 : a % 10 = 0
        · simp (disch := first | omega | assumption | (simp only [List.length_cons, List.length_nil, List.length_append, List.length_replicate, List.length_take, List.length_drop]; omega)) only [den, dens, deno, denc, deni, denS, denSs, fin_nx, fin_rt, Res.bind_ok, Res.bind_exc, truth, partD, getV, setV, setAll, storeT, wipeV, binD_add, binD_sub, binD_mul, binD_fdiv, binD_mod, cmp_lt, cmp_le, cmp_gt, cmp_ge, cmp_eqi, cmp_nei, cmp_eqb, cmp_neb, cmp_eqs, cmp_nes, cmp_is, cmp_isNot, isn_int, isn_non, isn_tup, isn_lst, isn_str, isTy, isFn, ix0, ix1, ix2, ix3, ix4, ix5, ixm1, blt_lenc, blt_lent, blt_lenl, blt_lens, blt_abs, blt_inti, blt_intb, blt_tupt, blt_tupl, blt_lstt, blt_lstl, blt_max, blt_min, slice_tup, slice_lst, List.length_cons, List.length_nil, Nat.reduceAdd, Nat.reduceLeDiff, ↓reduceIte, reduceCtorEq, Bool.false_eq_true, Bool.not_true, Bool.not_false, Bool.not_eq_true, decide_eq_true_eq, decide_not, Bool.not_eq_eq_eq_not, maxl_num, Int.reduceEq, Int.reduceLT, Int.reduceLE, Int.reduceNeg, Int.reduceToNat, decide_true, decide_false, Bool.true_and, Bool.false_and, Bool.and_true, Bool.and_false, Bool.not_true, Bool.not_false, not_true_eq_false, not_false_eq_true, Nat.reduceEqDiff, nc0, nc1, nc2, nc3, nc4, nc5, nc6, nc7, nc8, nc9, nc10, nc11, nc12, g0, g1, g2, g3, g4, callAt, callLow, CLk, told_ok, told_x0, told_x1, told_x2, told_x3, told_x4, h1, h2, decide_true, decide_false, Bool.true_and, Bool.false_and]
        · by_cases h3 : -40 ≤ b + fig a - 1
          · simp (disch := first | omega | assumption | (simp only [List.length_cons, List.length_nil, List.length_append, List.length_replicate, List.length_take, List.length_drop]; omega)) only [den, dens, deno, denc, deni, denS, denSs, fin_nx, fin_rt, Res.bind_ok, Res.bind_exc, truth, partD, getV, setV, setAll, storeT, wipeV, binD_add, binD_sub, binD_mul, binD_fdiv, binD_mod, cmp_lt, cmp_le, cmp_gt, cmp_ge, cmp_eqi, cmp_nei, cmp_eqb, cmp_neb, cmp_eqs, cmp_nes, cmp_is, cmp_isNot, isn_int, isn_non, isn_tup, isn_lst, isn_str, isTy, isFn, ix0, ix1, ix2, ix3, ix4, ix5, ixm1, blt_lenc, blt_lent, blt_lenl, blt_lens, blt_abs, blt_inti, blt_intb, blt_tupt, blt_tupl, blt_lstt, blt_lstl, blt_max, blt_min, slice_tup, slice_lst, List.length_cons, List.length_nil, Nat.reduceAdd, Nat.reduceLeDiff, ↓reduceIte, reduceCtorEq, Bool.false_eq_true, Bool.not_true, Bool.not_false, Bool.not_eq_true, decide_eq_true_eq, decide_not, Bool.not_eq_eq_eq_not, maxl_num, Int.reduceEq, Int.reduceLT, Int.reduceLE, Int.reduceNeg, Int.reduceToNat, decide_true, decide_false, Bool.true_and, Bool.false_and, Bool.and_true, Bool.and_false, Bool.not_true, Bool.not_false, not_true_eq_false, not_false_eq_true, Nat.reduceEqDiff, nc0, nc1, nc2, nc3, nc4, nc5, nc6, nc7, nc8, nc9, nc10, nc11, nc12, g0, g1, g2, g3, g4, callAt, callLow, CLk, told_ok, told_x0, told_x1, told_x2, told_x3, told_x4, h1, h2, h3, hh, decide_true, decide_false, Bool.true_and, Bool.false_and]
          · simp (disch := first | omega | assumption | (simp only [List.length_cons, List.length_nil, List.length_append, List.length_replicate, List.length_take, List.length_drop]; omega)) only [den, dens, deno, denc, deni, denS, denSs, fin_nx, fin_rt, Res.bind_ok, Res.bind_exc, truth, partD, getV, setV, setAll, storeT, wipeV, binD_add, binD_sub, binD_mul, binD_fdiv, binD_mod, cmp_lt, cmp_le, cmp_gt, cmp_ge, cmp_eqi, cmp_nei, cmp_eqb, cmp_neb, cmp_eqs, cmp_nes, cmp_is, cmp_isNot, isn_int, isn_non, isn_tup, isn_lst, isn_str, isTy, isFn, ix0, ix1, ix2, ix3, ix4, ix5, ixm1, blt_lenc, blt_lent, blt_lenl, blt_lens, blt_abs, blt_inti, blt_intb, blt_tupt, blt_tupl, blt_lstt, blt_lstl, blt_max, blt_min, slice_tup, slice_lst, List.length_cons, List.length_nil, Nat.reduceAdd, Nat.reduceLeDiff, ↓reduceIte, reduceCtorEq, Bool.false_eq_true, Bool.not_true, Bool.not_false, Bool.not_eq_true, decide_eq_true_eq, decide_not, Bool.not_eq_eq_eq_not, maxl_num, Int.reduceEq, Int.reduceLT, Int.reduceLE, Int.reduceNeg, Int.reduceToNat, decide_true, decide_false, Bool.true_and, Bool.false_and, Bool.and_true, Bool.and_false, Bool.not_true, Bool.not_false, not_true_eq_false, not_false_eq_true, Nat.reduceEqDiff, nc0, nc1, nc2, nc3, nc4, nc5, nc6, nc7, nc8, nc9, nc10, nc11, nc12, g0, g1, g2, g3, g4, callAt, callLow, CLk, told_ok, told_x0, told_x1, told_x2, told_x3, told_x4, h1, h2, h3, hh, decide_true, decide_false, Bool.true_and, Bool.false_and]
      · simp (disch := first | omega | assumption | (simp only [List.length_cons, List.length_nil, List.length_append, List.length_replicate, List.length_take, List.length_drop]; omega)) only [den, dens, deno, denc, deni, denS, denSs, fin_nx, fin_rt, Res.bind_ok, Res.bind_exc, truth, partD, getV, setV, setAll, storeT, wipeV, binD_add, binD_sub, binD_mul, binD_fdiv, binD_mod, cmp_lt, cmp_le, cmp_gt, cmp_ge, cmp_eqi, cmp_nei, cmp_eqb, cmp_neb, cmp_eqs, cmp_nes, cmp_is, cmp_isNot, isn_int, isn_non, isn_tup, isn_lst, isn_str, isTy, isFn, ix0, ix1, ix2, ix3, ix4, ix5, ixm1, blt_lenc, blt_lent, blt_lenl, blt_lens, blt_abs, blt_inti, blt_intb, blt_tupt, blt_tupl, blt_lstt, blt_lstl, blt_max, blt_min, slice_tup, slice_lst, List.length_cons, List.length_nil, Nat.reduceAdd, Nat.reduceLeDiff, ↓reduceIte, reduceCtorEq, Bool.false_eq_true, Bool.not_true, Bool.not_false, Bool.not_eq_true, decide_eq_true_eq, decide_not, Bool.not_eq_eq_eq_not, maxl_num, Int.reduceEq, Int.reduceLT, Int.reduceLE, Int.reduceNeg, Int.reduceToNat, decide_true, decide_false, Bool.true_and, Bool.false_and, Bool.and_true, Bool.and_false, Bool.not_true, Bool.not_false, not_true_eq_false, not_false_eq_true, Nat.reduceEqDiff, nc0, nc1, nc2, nc3, nc4, nc5, nc6, nc7, nc8, nc9, nc10, nc11, nc12, g0, g1, g2, g3, g4, callAt, callLow, CLk, told_ok, told_x0, told_x1, told_x2, told_x3, told_x4, h1, decide_true, decide_false, Bool.true_and, Bool.false_and]
  | .non, _ | .bl _, _ | .int _, _ | .str _, _ | .lst _, _ => simp (disch := first | omega | assumption | (simp only [List.length_cons, List.length_nil, List.length_append, List.length_replicate, List.length_take, List.length_drop]; omega)) only [den, dens, deno, denc, deni, denS, denSs, fin_nx, fin_rt, Res.bind_ok, Res.bind_exc, truth, partD, getV, setV, setAll, storeT, wipeV, binD_add, binD_sub, binD_mul, binD_fdiv, binD_mod, cmp_lt, cmp_le, cmp_gt, cmp_ge, cmp_eqi, cmp_nei, cmp_eqb, cmp_neb, cmp_eqs, cmp_nes, cmp_is, cmp_isNot, isn_int, isn_non, isn_tup, isn_lst, isn_str, isTy, isFn, ix0, ix1, ix2, ix3, ix4, ix5, ixm1, blt_lenc, blt_lent, blt_lenl, blt_lens, blt_abs, blt_inti, blt_intb, blt_tupt, blt_tupl, blt_lstt, blt_lstl, blt_max, blt_min, slice_tup, slice_lst, List.length_cons, List.length_nil, Nat.reduceAdd, Nat.reduceLeDiff, ↓reduceIte, reduceCtorEq, Bool.false_eq_true, Bool.not_true, Bool.not_false, Bool.not_eq_true, decide_eq_true_eq, decide_not, Bool.not_eq_eq_eq_not, maxl_num, Int.reduceEq, Int.reduceLT, Int.reduceLE, Int.reduceNeg, Int.reduceToNat, decide_true, decide_false, Bool.true_and, Bool.false_and, Bool.and_true, Bool.and_false, Bool.not_true, Bool.not_false, not_true_eq_false, not_false_eq_true, Nat.reduceEqDiff, nc0, nc1, nc2, nc3, nc4, nc5, nc6, nc7, nc8, nc9, nc10, nc11, nc12, g0, g1, g2, g3, g4, callAt, callLow, CLk, told_ok, told_x0, told_x1, told_x2, told_x3, told_x4]; rfl
theorem plain {k : Nat} (hk : 1 ≤ k) (f : List Nat) (p : Int) (hf : f.length ≤ 501) (hp : -100000 < p ∧ p < 100000) : C k 5 [.str f, .int p] = .ok (.str (plainT f p)) := by
  obtain ⟨k, rfl⟩ : ∃ j, k = j + 1 := ⟨k - 1, by omega⟩
  rw [c5]
  unfold B5 plainT
  by_cases h : 0 ≤ p
  · rw [if_pos h]
    exact sr_ (oit_ (by simp (disch := first | omega | assumption | (simp only [List.length_cons, List.length_nil, List.length_append, List.length_replicate, List.length_take, List.length_drop]; omega)) only [den, dens, deno, denc, deni, denS, denSs, fin_nx, fin_rt, Res.bind_ok, Res.bind_exc, truth, partD, getV, setV, setAll, storeT, wipeV, binD_add, binD_sub, binD_mul, binD_fdiv, binD_mod, cmp_lt, cmp_le, cmp_gt, cmp_ge, cmp_eqi, cmp_nei, cmp_eqb, cmp_neb, cmp_eqs, cmp_nes, cmp_is, cmp_isNot, isn_int, isn_non, isn_tup, isn_lst, isn_str, isTy, isFn, ix0, ix1, ix2, ix3, ix4, ix5, ixm1, blt_lenc, blt_lent, blt_lenl, blt_lens, blt_abs, blt_inti, blt_intb, blt_tupt, blt_tupl, blt_lstt, blt_lstl, blt_max, blt_min, slice_tup, slice_lst, List.length_cons, List.length_nil, Nat.reduceAdd, Nat.reduceLeDiff, ↓reduceIte, reduceCtorEq, Bool.false_eq_true, Bool.not_true, Bool.not_false, Bool.not_eq_true, decide_eq_true_eq, decide_not, Bool.not_eq_eq_eq_not, maxl_num, Int.reduceEq, Int.reduceLT, Int.reduceLE, Int.reduceNeg, Int.reduceToNat, decide_true, decide_false, Bool.true_and, Bool.false_and, Bool.and_true, Bool.and_false, Bool.not_true, Bool.not_false, not_true_eq_false, not_false_eq_true, Nat.reduceEqDiff, nc0, nc1, nc2, nc3, nc4, nc5, nc6, nc7, nc8, nc9, nc10, nc11, nc12, g0, g1, g2, g3, g4, callAt, callLow, CLk, told_ok, told_x0, told_x1, told_x2, told_x3, told_x4, h]) (or_ (by simp (disch := first | omega | assumption | (simp only [List.length_cons, List.length_nil, List.length_append, List.length_replicate, List.length_take, List.length_drop]; omega)) only [den, dens, deno, denc, deni, denS, denSs, fin_nx, fin_rt, Res.bind_ok, Res.bind_exc, truth, partD, getV, setV, setAll, storeT, wipeV, binD_add, binD_sub, binD_mul, binD_fdiv, binD_mod, cmp_lt, cmp_le, cmp_gt, cmp_ge, cmp_eqi, cmp_nei, cmp_eqb, cmp_neb, cmp_eqs, cmp_nes, cmp_is, cmp_isNot, isn_int, isn_non, isn_tup, isn_lst, isn_str, isTy, isFn, ix0, ix1, ix2, ix3, ix4, ix5, ixm1, blt_lenc, blt_lent, blt_lenl, blt_lens, blt_abs, blt_inti, blt_intb, blt_tupt, blt_tupl, blt_lstt, blt_lstl, blt_max, blt_min, slice_tup, slice_lst, List.length_cons, List.length_nil, Nat.reduceAdd, Nat.reduceLeDiff, ↓reduceIte, reduceCtorEq, Bool.false_eq_true, Bool.not_true, Bool.not_false, Bool.not_eq_true, decide_eq_true_eq, decide_not, Bool.not_eq_eq_eq_not, maxl_num, Int.reduceEq, Int.reduceLT, Int.reduceLE, Int.reduceNeg, Int.reduceToNat, decide_true, decide_false, Bool.true_and, Bool.false_and, Bool.and_true, Bool.and_false, Bool.not_true, Bool.not_false, not_true_eq_false, not_false_eq_true, Nat.reduceEqDiff, nc0, nc1, nc2, nc3, nc4, nc5, nc6, nc7, nc8, nc9, nc10, nc11, nc12, g0, g1, g2, g3, g4, callAt, callLow, CLk, told_ok, told_x0, told_x1, told_x2, told_x3, told_x4, binD_rep, reps_one, binD_str])))
  · rw [if_neg h]
    have l1 := cut_le (List.replicate ((1 - p).toNat - f.length) 48 ++ f) none (some p)
    have l2 := cut_le (List.replicate ((1 - p).toNat - f.length) 48 ++ f) (some p) none
    simp only [List.length_append, List.length_replicate] at l1 l2
    refine sif_ (by simp (disch := first | omega | assumption | (simp only [List.length_cons, List.length_nil, List.length_append, List.length_replicate, List.length_take, List.length_drop]; omega)) only [den, dens, deno, denc, deni, denS, denSs, fin_nx, fin_rt, Res.bind_ok, Res.bind_exc, truth, partD, getV, setV, setAll, storeT, wipeV, binD_add, binD_sub, binD_mul, binD_fdiv, binD_mod, cmp_lt, cmp_le, cmp_gt, cmp_ge, cmp_eqi, cmp_nei, cmp_eqb, cmp_neb, cmp_eqs, cmp_nes, cmp_is, cmp_isNot, isn_int, isn_non, isn_tup, isn_lst, isn_str, isTy, isFn, ix0, ix1, ix2, ix3, ix4, ix5, ixm1, blt_lenc, blt_lent, blt_lenl, blt_lens, blt_abs, blt_inti, blt_intb, blt_tupt, blt_tupl, blt_lstt, blt_lstl, blt_max, blt_min, slice_tup, slice_lst, List.length_cons, List.length_nil, Nat.reduceAdd, Nat.reduceLeDiff, ↓reduceIte, reduceCtorEq, Bool.false_eq_true, Bool.not_true, Bool.not_false, Bool.not_eq_true, decide_eq_true_eq, decide_not, Bool.not_eq_eq_eq_not, maxl_num, Int.reduceEq, Int.reduceLT, Int.reduceLE, Int.reduceNeg, Int.reduceToNat, decide_true, decide_false, Bool.true_and, Bool.false_and, Bool.and_true, Bool.and_false, Bool.not_true, Bool.not_false, not_true_eq_false, not_false_eq_true, Nat.reduceEqDiff, nc0, nc1, nc2, nc3, nc4, nc5, nc6, nc7, nc8, nc9, nc10, nc11, nc12, g0, g1, g2, g3, g4, callAt, callLow, CLk, told_ok, told_x0, told_x1, told_x2, told_x3, told_x4, h]) (st_ (by simp (disch := first | omega | assumption | (simp only [List.length_cons, List.length_nil, List.length_append, List.length_replicate, List.length_take, List.length_drop]; omega)) only [den, dens, deno, denc, deni, denS, denSs, fin_nx, fin_rt, Res.bind_ok, Res.bind_exc, truth, partD, getV, setV, setAll, storeT, wipeV, binD_add, binD_sub, binD_mul, binD_fdiv, binD_mod, cmp_lt, cmp_le, cmp_gt, cmp_ge, cmp_eqi, cmp_nei, cmp_eqb, cmp_neb, cmp_eqs, cmp_nes, cmp_is, cmp_isNot, isn_int, isn_non, isn_tup, isn_lst, isn_str, isTy, isFn, ix0, ix1, ix2, ix3, ix4, ix5, ixm1, blt_lenc, blt_lent, blt_lenl, blt_lens, blt_abs, blt_inti, blt_intb, blt_tupt, blt_tupl, blt_lstt, blt_lstl, blt_max, blt_min, slice_tup, slice_lst, List.length_cons, List.length_nil, Nat.reduceAdd, Nat.reduceLeDiff, ↓reduceIte, reduceCtorEq, Bool.false_eq_true, Bool.not_true, Bool.not_false, Bool.not_eq_true, decide_eq_true_eq, decide_not, Bool.not_eq_eq_eq_not, maxl_num, Int.reduceEq, Int.reduceLT, Int.reduceLE, Int.reduceNeg, Int.reduceToNat, decide_true, decide_false, Bool.true_and, Bool.false_and, Bool.and_true, Bool.and_false, Bool.not_true, Bool.not_false, not_true_eq_false, not_false_eq_true, Nat.reduceEqDiff, nc0, nc1, nc2, nc3, nc4, nc5, nc6, nc7, nc8, nc9, nc10, nc11, nc12, g0, g1, g2, g3, g4, callAt, callLow, CLk, told_ok, told_x0, told_x1, told_x2, told_x3, told_x4, mthTy_rjust, mth_rjust] <;> rfl) (sr_ (by simp (disch := first | omega | assumption | (simp only [List.length_cons, List.length_nil, List.length_append, List.length_replicate, List.length_take, List.length_drop]; omega)) only [den, dens, deno, denc, deni, denS, denSs, fin_nx, fin_rt, Res.bind_ok, Res.bind_exc, truth, partD, getV, setV, setAll, storeT, wipeV, binD_add, binD_sub, binD_mul, binD_fdiv, binD_mod, cmp_lt, cmp_le, cmp_gt, cmp_ge, cmp_eqi, cmp_nei, cmp_eqb, cmp_neb, cmp_eqs, cmp_nes, cmp_is, cmp_isNot, isn_int, isn_non, isn_tup, isn_lst, isn_str, isTy, isFn, ix0, ix1, ix2, ix3, ix4, ix5, ixm1, blt_lenc, blt_lent, blt_lenl, blt_lens, blt_abs, blt_inti, blt_intb, blt_tupt, blt_tupl, blt_lstt, blt_lstl, blt_max, blt_min, slice_tup, slice_lst, List.length_cons, List.length_nil, Nat.reduceAdd, Nat.reduceLeDiff, ↓reduceIte, reduceCtorEq, Bool.false_eq_true, Bool.not_true, Bool.not_false, Bool.not_eq_true, decide_eq_true_eq, decide_not, Bool.not_eq_eq_eq_not, maxl_num, Int.reduceEq, Int.reduceLT, Int.reduceLE, Int.reduceNeg, Int.reduceToNat, decide_true, decide_false, Bool.true_and, Bool.false_and, Bool.and_true, Bool.and_false, Bool.not_true, Bool.not_false, not_true_eq_false, not_false_eq_true, Nat.reduceEqDiff, nc0, nc1, nc2, nc3, nc4, nc5, nc6, nc7, nc8, nc9, nc10, nc11, nc12, g0, g1, g2, g3, g4, callAt, callLow, CLk, told_ok, told_x0, told_x1, told_x2, told_x3, told_x4, slice_str, binD_str])))
theorem written {k : Nat} (hk : 3 ≤ k) {a b : Int} (ha : -BIG < a ∧ a < BIG) (hb : -100000 < b ∧ b < 100000) : C k 6 [.tup [.int a, .int b]] = .ok (.str (textT a b)) := by
  obtain ⟨k, rfl⟩ : ∃ j, k = j + 3 := ⟨k - 3, by omega⟩
  have hB := absB ha
  obtain ⟨l1, l2, l3⟩ := figS_len ha
  have l4 := sign_len a
  have hh := height (k := k + 2) (by omega) (b := b) ha
  have bh := big_small (a := b + fig a - 1) (by omega) (by omega)
  have nh := numS_len bh.1 bh.2
  have pl := plain (k := k + 2) (by omega) (figS a) b l2 hb
  have l5 : (plainT (figS a) b).length ≤ 1000000 := by
    unfold plainT
    split
    · simp only [List.length_append, List.length_replicate]
      omega
    · have l1 := cut_le (List.replicate ((1 - b).toNat - (figS a).length) 48 ++ figS a) none (some b)
      have l2 := cut_le (List.replicate ((1 - b).toNat - (figS a).length) 48 ++ figS a) (some b) none
      simp only [List.length_append, List.length_replicate, List.length_cons, List.length_nil] at l1 l2 ⊢
      omega
  rw [c6]
  unfold B6 textT
  have e0 : (if a < 0 then (1 : Int) else 0) ≤ 1000000 ∧ -1000000 ≤ (if a < 0 then (1 : Int) else 0) := by split <;> omega
  have e1 : 1 * (if a < 0 then (1 : Int) else 0).toNat ≤ 16777216 := by split <;> simp
  have es : numS (if a < 0 then -a else a) = figS a := rfl
  refine st_ (by simp (disch := first | omega | assumption | (simp only [List.length_cons, List.length_nil, List.length_append, List.length_replicate, List.length_take, List.length_drop]; omega)) only [den, dens, deno, denc, deni, denS, denSs, fin_nx, fin_rt, Res.bind_ok, Res.bind_exc, truth, partD, getV, setV, setAll, storeT, wipeV, binD_add, binD_sub, binD_mul, binD_fdiv, binD_mod, cmp_lt, cmp_le, cmp_gt, cmp_ge, cmp_eqi, cmp_nei, cmp_eqb, cmp_neb, cmp_eqs, cmp_nes, cmp_is, cmp_isNot, isn_int, isn_non, isn_tup, isn_lst, isn_str, isTy, isFn, ix0, ix1, ix2, ix3, ix4, ix5, ixm1, blt_lenc, blt_lent, blt_lenl, blt_lens, blt_abs, blt_inti, blt_intb, blt_tupt, blt_tupl, blt_lstt, blt_lstl, blt_max, blt_min, slice_tup, slice_lst, List.length_cons, List.length_nil, Nat.reduceAdd, Nat.reduceLeDiff, ↓reduceIte, reduceCtorEq, Bool.false_eq_true, Bool.not_true, Bool.not_false, Bool.not_eq_true, decide_eq_true_eq, decide_not, Bool.not_eq_eq_eq_not, maxl_num, Int.reduceEq, Int.reduceLT, Int.reduceLE, Int.reduceNeg, Int.reduceToNat, decide_true, decide_false, Bool.true_and, Bool.false_and, Bool.and_true, Bool.and_false, Bool.not_true, Bool.not_false, not_true_eq_false, not_false_eq_true, Nat.reduceEqDiff, nc0, nc1, nc2, nc3, nc4, nc5, nc6, nc7, nc8, nc9, nc10, nc11, nc12, g0, g1, g2, g3, g4, callAt, callLow, CLk, told_ok, told_x0, told_x1, told_x2, told_x3, told_x4] <;> rfl) (st_ (by simp (disch := first | omega | assumption | (simp only [List.length_cons, List.length_nil, List.length_append, List.length_replicate, List.length_take, List.length_drop]; omega)) only [den, dens, deno, denc, deni, denS, denSs, fin_nx, fin_rt, Res.bind_ok, Res.bind_exc, truth, partD, getV, setV, setAll, storeT, wipeV, binD_add, binD_sub, binD_mul, binD_fdiv, binD_mod, cmp_lt, cmp_le, cmp_gt, cmp_ge, cmp_eqi, cmp_nei, cmp_eqb, cmp_neb, cmp_eqs, cmp_nes, cmp_is, cmp_isNot, isn_int, isn_non, isn_tup, isn_lst, isn_str, isTy, isFn, ix0, ix1, ix2, ix3, ix4, ix5, ixm1, blt_lenc, blt_lent, blt_lenl, blt_lens, blt_abs, blt_inti, blt_intb, blt_tupt, blt_tupl, blt_lstt, blt_lstl, blt_max, blt_min, slice_tup, slice_lst, List.length_cons, List.length_nil, Nat.reduceAdd, Nat.reduceLeDiff, ↓reduceIte, reduceCtorEq, Bool.false_eq_true, Bool.not_true, Bool.not_false, Bool.not_eq_true, decide_eq_true_eq, decide_not, Bool.not_eq_eq_eq_not, maxl_num, Int.reduceEq, Int.reduceLT, Int.reduceLE, Int.reduceNeg, Int.reduceToNat, decide_true, decide_false, Bool.true_and, Bool.false_and, Bool.and_true, Bool.and_false, Bool.not_true, Bool.not_false, not_true_eq_false, not_false_eq_true, Nat.reduceEqDiff, nc0, nc1, nc2, nc3, nc4, nc5, nc6, nc7, nc8, nc9, nc10, nc11, nc12, g0, g1, g2, g3, g4, callAt, callLow, CLk, told_ok, told_x0, told_x1, told_x2, told_x3, told_x4, binD_rep, reps_sign, e0.1, e0.2, e1] <;> rfl) (st_ (by simp (disch := first | omega | assumption | (simp only [List.length_cons, List.length_nil, List.length_append, List.length_replicate, List.length_take, List.length_drop]; omega)) only [den, dens, deno, denc, deni, denS, denSs, fin_nx, fin_rt, Res.bind_ok, Res.bind_exc, truth, partD, getV, setV, setAll, storeT, wipeV, binD_add, binD_sub, binD_mul, binD_fdiv, binD_mod, cmp_lt, cmp_le, cmp_gt, cmp_ge, cmp_eqi, cmp_nei, cmp_eqb, cmp_neb, cmp_eqs, cmp_nes, cmp_is, cmp_isNot, isn_int, isn_non, isn_tup, isn_lst, isn_str, isTy, isFn, ix0, ix1, ix2, ix3, ix4, ix5, ixm1, blt_lenc, blt_lent, blt_lenl, blt_lens, blt_abs, blt_inti, blt_intb, blt_tupt, blt_tupl, blt_lstt, blt_lstl, blt_max, blt_min, slice_tup, slice_lst, List.length_cons, List.length_nil, Nat.reduceAdd, Nat.reduceLeDiff, ↓reduceIte, reduceCtorEq, Bool.false_eq_true, Bool.not_true, Bool.not_false, Bool.not_eq_true, decide_eq_true_eq, decide_not, Bool.not_eq_eq_eq_not, maxl_num, Int.reduceEq, Int.reduceLT, Int.reduceLE, Int.reduceNeg, Int.reduceToNat, decide_true, decide_false, Bool.true_and, Bool.false_and, Bool.and_true, Bool.and_false, Bool.not_true, Bool.not_false, not_true_eq_false, not_false_eq_true, Nat.reduceEqDiff, nc0, nc1, nc2, nc3, nc4, nc5, nc6, nc7, nc8, nc9, nc10, nc11, nc12, g0, g1, g2, g3, g4, callAt, callLow, CLk, told_ok, told_x0, told_x1, told_x2, told_x3, told_x4, blt_stri hB.1 hB.2, es] <;> rfl) (st_ (by simp (disch := first | omega | assumption | (simp only [List.length_cons, List.length_nil, List.length_append, List.length_replicate, List.length_take, List.length_drop]; omega)) only [den, dens, deno, denc, deni, denS, denSs, fin_nx, fin_rt, Res.bind_ok, Res.bind_exc, truth, partD, getV, setV, setAll, storeT, wipeV, binD_add, binD_sub, binD_mul, binD_fdiv, binD_mod, cmp_lt, cmp_le, cmp_gt, cmp_ge, cmp_eqi, cmp_nei, cmp_eqb, cmp_neb, cmp_eqs, cmp_nes, cmp_is, cmp_isNot, isn_int, isn_non, isn_tup, isn_lst, isn_str, isTy, isFn, ix0, ix1, ix2, ix3, ix4, ix5, ixm1, blt_lenc, blt_lent, blt_lenl, blt_lens, blt_abs, blt_inti, blt_intb, blt_tupt, blt_tupl, blt_lstt, blt_lstl, blt_max, blt_min, slice_tup, slice_lst, List.length_cons, List.length_nil, Nat.reduceAdd, Nat.reduceLeDiff, ↓reduceIte, reduceCtorEq, Bool.false_eq_true, Bool.not_true, Bool.not_false, Bool.not_eq_true, decide_eq_true_eq, decide_not, Bool.not_eq_eq_eq_not, maxl_num, Int.reduceEq, Int.reduceLT, Int.reduceLE, Int.reduceNeg, Int.reduceToNat, decide_true, decide_false, Bool.true_and, Bool.false_and, Bool.and_true, Bool.and_false, Bool.not_true, Bool.not_false, not_true_eq_false, not_false_eq_true, Nat.reduceEqDiff, nc0, nc1, nc2, nc3, nc4, nc5, nc6, nc7, nc8, nc9, nc10, nc11, nc12, g0, g1, g2, g3, g4, callAt, callLow, CLk, told_ok, told_x0, told_x1, told_x2, told_x3, told_x4, hh] <;> rfl) ?_)))
  by_cases h1 : -4 ≤ b + fig a - 1
  · by_cases h2 : b + fig a - 1 ≤ 9
    · rw [if_pos ⟨h1, h2⟩]
      exact sr_ (oit_ (by simp (disch := first | omega | assumption | (simp only [List.length_cons, List.length_nil, List.length_append, List.length_replicate, List.length_take, List.length_drop]; omega)) only [den, dens, deno, denc, deni, denS, denSs, fin_nx, fin_rt, Res.bind_ok, Res.bind_exc, truth, partD, getV, setV, setAll, storeT, wipeV, binD_add, binD_sub, binD_mul, binD_fdiv, binD_mod, cmp_lt, cmp_le, cmp_gt, cmp_ge, cmp_eqi, cmp_nei, cmp_eqb, cmp_neb, cmp_eqs, cmp_nes, cmp_is, cmp_isNot, isn_int, isn_non, isn_tup, isn_lst, isn_str, isTy, isFn, ix0, ix1, ix2, ix3, ix4, ix5, ixm1, blt_lenc, blt_lent, blt_lenl, blt_lens, blt_abs, blt_inti, blt_intb, blt_tupt, blt_tupl, blt_lstt, blt_lstl, blt_max, blt_min, slice_tup, slice_lst, List.length_cons, List.length_nil, Nat.reduceAdd, Nat.reduceLeDiff, ↓reduceIte, reduceCtorEq, Bool.false_eq_true, Bool.not_true, Bool.not_false, Bool.not_eq_true, decide_eq_true_eq, decide_not, Bool.not_eq_eq_eq_not, maxl_num, Int.reduceEq, Int.reduceLT, Int.reduceLE, Int.reduceNeg, Int.reduceToNat, decide_true, decide_false, Bool.true_and, Bool.false_and, Bool.and_true, Bool.and_false, Bool.not_true, Bool.not_false, not_true_eq_false, not_false_eq_true, Nat.reduceEqDiff, nc0, nc1, nc2, nc3, nc4, nc5, nc6, nc7, nc8, nc9, nc10, nc11, nc12, g0, g1, g2, g3, g4, callAt, callLow, CLk, told_ok, told_x0, told_x1, told_x2, told_x3, told_x4, h1, h2]) (or_ (by simp (disch := first | omega | assumption | (simp only [List.length_cons, List.length_nil, List.length_append, List.length_replicate, List.length_take, List.length_drop]; omega)) only [den, dens, deno, denc, deni, denS, denSs, fin_nx, fin_rt, Res.bind_ok, Res.bind_exc, truth, partD, getV, setV, setAll, storeT, wipeV, binD_add, binD_sub, binD_mul, binD_fdiv, binD_mod, cmp_lt, cmp_le, cmp_gt, cmp_ge, cmp_eqi, cmp_nei, cmp_eqb, cmp_neb, cmp_eqs, cmp_nes, cmp_is, cmp_isNot, isn_int, isn_non, isn_tup, isn_lst, isn_str, isTy, isFn, ix0, ix1, ix2, ix3, ix4, ix5, ixm1, blt_lenc, blt_lent, blt_lenl, blt_lens, blt_abs, blt_inti, blt_intb, blt_tupt, blt_tupl, blt_lstt, blt_lstl, blt_max, blt_min, slice_tup, slice_lst, List.length_cons, List.length_nil, Nat.reduceAdd, Nat.reduceLeDiff, ↓reduceIte, reduceCtorEq, Bool.false_eq_true, Bool.not_true, Bool.not_false, Bool.not_eq_true, decide_eq_true_eq, decide_not, Bool.not_eq_eq_eq_not, maxl_num, Int.reduceEq, Int.reduceLT, Int.reduceLE, Int.reduceNeg, Int.reduceToNat, decide_true, decide_false, Bool.true_and, Bool.false_and, Bool.and_true, Bool.and_false, Bool.not_true, Bool.not_false, not_true_eq_false, not_false_eq_true, Nat.reduceEqDiff, nc0, nc1, nc2, nc3, nc4, nc5, nc6, nc7, nc8, nc9, nc10, nc11, nc12, g0, g1, g2, g3, g4, callAt, callLow, CLk, told_ok, told_x0, told_x1, told_x2, told_x3, told_x4, pl, binD_str])))
    · rw [if_neg (by omega)]
      refine sif_ (by simp (disch := first | omega | assumption | (simp only [List.length_cons, List.length_nil, List.length_append, List.length_replicate, List.length_take, List.length_drop]; omega)) only [den, dens, deno, denc, deni, denS, denSs, fin_nx, fin_rt, Res.bind_ok, Res.bind_exc, truth, partD, getV, setV, setAll, storeT, wipeV, binD_add, binD_sub, binD_mul, binD_fdiv, binD_mod, cmp_lt, cmp_le, cmp_gt, cmp_ge, cmp_eqi, cmp_nei, cmp_eqb, cmp_neb, cmp_eqs, cmp_nes, cmp_is, cmp_isNot, isn_int, isn_non, isn_tup, isn_lst, isn_str, isTy, isFn, ix0, ix1, ix2, ix3, ix4, ix5, ixm1, blt_lenc, blt_lent, blt_lenl, blt_lens, blt_abs, blt_inti, blt_intb, blt_tupt, blt_tupl, blt_lstt, blt_lstl, blt_max, blt_min, slice_tup, slice_lst, List.length_cons, List.length_nil, Nat.reduceAdd, Nat.reduceLeDiff, ↓reduceIte, reduceCtorEq, Bool.false_eq_true, Bool.not_true, Bool.not_false, Bool.not_eq_true, decide_eq_true_eq, decide_not, Bool.not_eq_eq_eq_not, maxl_num, Int.reduceEq, Int.reduceLT, Int.reduceLE, Int.reduceNeg, Int.reduceToNat, decide_true, decide_false, Bool.true_and, Bool.false_and, Bool.and_true, Bool.and_false, Bool.not_true, Bool.not_false, not_true_eq_false, not_false_eq_true, Nat.reduceEqDiff, nc0, nc1, nc2, nc3, nc4, nc5, nc6, nc7, nc8, nc9, nc10, nc11, nc12, g0, g1, g2, g3, g4, callAt, callLow, CLk, told_ok, told_x0, told_x1, told_x2, told_x3, told_x4, h1, h2]) ?_
      by_cases h3 : 1 < (figS a).length
      · have h3' : (1 : Int) < ((figS a).length : Int) := by omega
        rw [if_pos h3]
        refine st_ (oit_ (by simp (disch := first | omega | assumption | (simp only [List.length_cons, List.length_nil, List.length_append, List.length_replicate, List.length_take, List.length_drop]; omega)) only [den, dens, deno, denc, deni, denS, denSs, fin_nx, fin_rt, Res.bind_ok, Res.bind_exc, truth, partD, getV, setV, setAll, storeT, wipeV, binD_add, binD_sub, binD_mul, binD_fdiv, binD_mod, cmp_lt, cmp_le, cmp_gt, cmp_ge, cmp_eqi, cmp_nei, cmp_eqb, cmp_neb, cmp_eqs, cmp_nes, cmp_is, cmp_isNot, isn_int, isn_non, isn_tup, isn_lst, isn_str, isTy, isFn, ix0, ix1, ix2, ix3, ix4, ix5, ixm1, blt_lenc, blt_lent, blt_lenl, blt_lens, blt_abs, blt_inti, blt_intb, blt_tupt, blt_tupl, blt_lstt, blt_lstl, blt_max, blt_min, slice_tup, slice_lst, List.length_cons, List.length_nil, Nat.reduceAdd, Nat.reduceLeDiff, ↓reduceIte, reduceCtorEq, Bool.false_eq_true, Bool.not_true, Bool.not_false, Bool.not_eq_true, decide_eq_true_eq, decide_not, Bool.not_eq_eq_eq_not, maxl_num, Int.reduceEq, Int.reduceLT, Int.reduceLE, Int.reduceNeg, Int.reduceToNat, decide_true, decide_false, Bool.true_and, Bool.false_and, Bool.and_true, Bool.and_false, Bool.not_true, Bool.not_false, not_true_eq_false, not_false_eq_true, Nat.reduceEqDiff, nc0, nc1, nc2, nc3, nc4, nc5, nc6, nc7, nc8, nc9, nc10, nc11, nc12, g0, g1, g2, g3, g4, callAt, callLow, CLk, told_ok, told_x0, told_x1, told_x2, told_x3, told_x4, h3']) (ot_ (by simp (disch := first | omega | assumption | (simp only [List.length_cons, List.length_nil, List.length_append, List.length_replicate, List.length_take, List.length_drop]; omega)) only [den, dens, deno, denc, deni, denS, denSs, fin_nx, fin_rt, Res.bind_ok, Res.bind_exc, truth, partD, getV, setV, setAll, storeT, wipeV, binD_add, binD_sub, binD_mul, binD_fdiv, binD_mod, cmp_lt, cmp_le, cmp_gt, cmp_ge, cmp_eqi, cmp_nei, cmp_eqb, cmp_neb, cmp_eqs, cmp_nes, cmp_is, cmp_isNot, isn_int, isn_non, isn_tup, isn_lst, isn_str, isTy, isFn, ix0, ix1, ix2, ix3, ix4, ix5, ixm1, blt_lenc, blt_lent, blt_lenl, blt_lens, blt_abs, blt_inti, blt_intb, blt_tupt, blt_tupl, blt_lstt, blt_lstl, blt_max, blt_min, slice_tup, slice_lst, List.length_cons, List.length_nil, Nat.reduceAdd, Nat.reduceLeDiff, ↓reduceIte, reduceCtorEq, Bool.false_eq_true, Bool.not_true, Bool.not_false, Bool.not_eq_true, decide_eq_true_eq, decide_not, Bool.not_eq_eq_eq_not, maxl_num, Int.reduceEq, Int.reduceLT, Int.reduceLE, Int.reduceNeg, Int.reduceToNat, decide_true, decide_false, Bool.true_and, Bool.false_and, Bool.and_true, Bool.and_false, Bool.not_true, Bool.not_false, not_true_eq_false, not_false_eq_true, Nat.reduceEqDiff, nc0, nc1, nc2, nc3, nc4, nc5, nc6, nc7, nc8, nc9, nc10, nc11, nc12, g0, g1, g2, g3, g4, callAt, callLow, CLk, told_ok, told_x0, told_x1, told_x2, told_x3, told_x4, slice_str, cut_take1, cut_drop1, binD_str] <;> rfl) on_)) (sr_ ?_)
        simp (disch := first | omega | assumption | (simp only [List.length_cons, List.length_nil, List.length_append, List.length_replicate, List.length_take, List.length_drop]; omega)) only [den, dens, deno, denc, deni, denS, denSs, fin_nx, fin_rt, Res.bind_ok, Res.bind_exc, truth, partD, getV, setV, setAll, storeT, wipeV, binD_add, binD_sub, binD_mul, binD_fdiv, binD_mod, cmp_lt, cmp_le, cmp_gt, cmp_ge, cmp_eqi, cmp_nei, cmp_eqb, cmp_neb, cmp_eqs, cmp_nes, cmp_is, cmp_isNot, isn_int, isn_non, isn_tup, isn_lst, isn_str, isTy, isFn, ix0, ix1, ix2, ix3, ix4, ix5, ixm1, blt_lenc, blt_lent, blt_lenl, blt_lens, blt_abs, blt_inti, blt_intb, blt_tupt, blt_tupl, blt_lstt, blt_lstl, blt_max, blt_min, slice_tup, slice_lst, List.length_cons, List.length_nil, Nat.reduceAdd, Nat.reduceLeDiff, ↓reduceIte, reduceCtorEq, Bool.false_eq_true, Bool.not_true, Bool.not_false, Bool.not_eq_true, decide_eq_true_eq, decide_not, Bool.not_eq_eq_eq_not, maxl_num, Int.reduceEq, Int.reduceLT, Int.reduceLE, Int.reduceNeg, Int.reduceToNat, decide_true, decide_false, Bool.true_and, Bool.false_and, Bool.and_true, Bool.and_false, Bool.not_true, Bool.not_false, not_true_eq_false, not_false_eq_true, Nat.reduceEqDiff, nc0, nc1, nc2, nc3, nc4, nc5, nc6, nc7, nc8, nc9, nc10, nc11, nc12, g0, g1, g2, g3, g4, callAt, callLow, CLk, told_ok, told_x0, told_x1, told_x2, told_x3, told_x4, blt_stri bh.1 bh.2, binD_str, List.append_assoc]
      · have h3' : ¬(1 : Int) < ((figS a).length : Int) := by omega
        rw [if_neg h3, List.take_of_length_le (show (figS a).length ≤ 1 by omega), List.drop_of_length_le (show (figS a).length ≤ 1 by omega)]
        refine st_ (oif_ (by simp (disch := first | omega | assumption | (simp only [List.length_cons, List.length_nil, List.length_append, List.length_replicate, List.length_take, List.length_drop]; omega)) only [den, dens, deno, denc, deni, denS, denSs, fin_nx, fin_rt, Res.bind_ok, Res.bind_exc, truth, partD, getV, setV, setAll, storeT, wipeV, binD_add, binD_sub, binD_mul, binD_fdiv, binD_mod, cmp_lt, cmp_le, cmp_gt, cmp_ge, cmp_eqi, cmp_nei, cmp_eqb, cmp_neb, cmp_eqs, cmp_nes, cmp_is, cmp_isNot, isn_int, isn_non, isn_tup, isn_lst, isn_str, isTy, isFn, ix0, ix1, ix2, ix3, ix4, ix5, ixm1, blt_lenc, blt_lent, blt_lenl, blt_lens, blt_abs, blt_inti, blt_intb, blt_tupt, blt_tupl, blt_lstt, blt_lstl, blt_max, blt_min, slice_tup, slice_lst, List.length_cons, List.length_nil, Nat.reduceAdd, Nat.reduceLeDiff, ↓reduceIte, reduceCtorEq, Bool.false_eq_true, Bool.not_true, Bool.not_false, Bool.not_eq_true, decide_eq_true_eq, decide_not, Bool.not_eq_eq_eq_not, maxl_num, Int.reduceEq, Int.reduceLT, Int.reduceLE, Int.reduceNeg, Int.reduceToNat, decide_true, decide_false, Bool.true_and, Bool.false_and, Bool.and_true, Bool.and_false, Bool.not_true, Bool.not_false, not_true_eq_false, not_false_eq_true, Nat.reduceEqDiff, nc0, nc1, nc2, nc3, nc4, nc5, nc6, nc7, nc8, nc9, nc10, nc11, nc12, g0, g1, g2, g3, g4, callAt, callLow, CLk, told_ok, told_x0, told_x1, told_x2, told_x3, told_x4, h3']) on_) (sr_ ?_)
        simp (disch := first | omega | assumption | (simp only [List.length_cons, List.length_nil, List.length_append, List.length_replicate, List.length_take, List.length_drop]; omega)) only [den, dens, deno, denc, deni, denS, denSs, fin_nx, fin_rt, Res.bind_ok, Res.bind_exc, truth, partD, getV, setV, setAll, storeT, wipeV, binD_add, binD_sub, binD_mul, binD_fdiv, binD_mod, cmp_lt, cmp_le, cmp_gt, cmp_ge, cmp_eqi, cmp_nei, cmp_eqb, cmp_neb, cmp_eqs, cmp_nes, cmp_is, cmp_isNot, isn_int, isn_non, isn_tup, isn_lst, isn_str, isTy, isFn, ix0, ix1, ix2, ix3, ix4, ix5, ixm1, blt_lenc, blt_lent, blt_lenl, blt_lens, blt_abs, blt_inti, blt_intb, blt_tupt, blt_tupl, blt_lstt, blt_lstl, blt_max, blt_min, slice_tup, slice_lst, List.length_cons, List.length_nil, Nat.reduceAdd, Nat.reduceLeDiff, ↓reduceIte, reduceCtorEq, Bool.false_eq_true, Bool.not_true, Bool.not_false, Bool.not_eq_true, decide_eq_true_eq, decide_not, Bool.not_eq_eq_eq_not, maxl_num, Int.reduceEq, Int.reduceLT, Int.reduceLE, Int.reduceNeg, Int.reduceToNat, decide_true, decide_false, Bool.true_and, Bool.false_and, Bool.and_true, Bool.and_false, Bool.not_true, Bool.not_false, not_true_eq_false, not_false_eq_true, Nat.reduceEqDiff, nc0, nc1, nc2, nc3, nc4, nc5, nc6, nc7, nc8, nc9, nc10, nc11, nc12, g0, g1, g2, g3, g4, callAt, callLow, CLk, told_ok, told_x0, told_x1, told_x2, told_x3, told_x4, blt_stri bh.1 bh.2, binD_str, List.append_assoc, List.nil_append]
  · rw [if_neg (by omega)]
    refine sif_ (by simp (disch := first | omega | assumption | (simp only [List.length_cons, List.length_nil, List.length_append, List.length_replicate, List.length_take, List.length_drop]; omega)) only [den, dens, deno, denc, deni, denS, denSs, fin_nx, fin_rt, Res.bind_ok, Res.bind_exc, truth, partD, getV, setV, setAll, storeT, wipeV, binD_add, binD_sub, binD_mul, binD_fdiv, binD_mod, cmp_lt, cmp_le, cmp_gt, cmp_ge, cmp_eqi, cmp_nei, cmp_eqb, cmp_neb, cmp_eqs, cmp_nes, cmp_is, cmp_isNot, isn_int, isn_non, isn_tup, isn_lst, isn_str, isTy, isFn, ix0, ix1, ix2, ix3, ix4, ix5, ixm1, blt_lenc, blt_lent, blt_lenl, blt_lens, blt_abs, blt_inti, blt_intb, blt_tupt, blt_tupl, blt_lstt, blt_lstl, blt_max, blt_min, slice_tup, slice_lst, List.length_cons, List.length_nil, Nat.reduceAdd, Nat.reduceLeDiff, ↓reduceIte, reduceCtorEq, Bool.false_eq_true, Bool.not_true, Bool.not_false, Bool.not_eq_true, decide_eq_true_eq, decide_not, Bool.not_eq_eq_eq_not, maxl_num, Int.reduceEq, Int.reduceLT, Int.reduceLE, Int.reduceNeg, Int.reduceToNat, decide_true, decide_false, Bool.true_and, Bool.false_and, Bool.and_true, Bool.and_false, Bool.not_true, Bool.not_false, not_true_eq_false, not_false_eq_true, Nat.reduceEqDiff, nc0, nc1, nc2, nc3, nc4, nc5, nc6, nc7, nc8, nc9, nc10, nc11, nc12, g0, g1, g2, g3, g4, callAt, callLow, CLk, told_ok, told_x0, told_x1, told_x2, told_x3, told_x4, h1]) ?_
    by_cases h3 : 1 < (figS a).length
    · have h3' : (1 : Int) < ((figS a).length : Int) := by omega
      rw [if_pos h3]
      refine st_ (oit_ (by simp (disch := first | omega | assumption | (simp only [List.length_cons, List.length_nil, List.length_append, List.length_replicate, List.length_take, List.length_drop]; omega)) only [den, dens, deno, denc, deni, denS, denSs, fin_nx, fin_rt, Res.bind_ok, Res.bind_exc, truth, partD, getV, setV, setAll, storeT, wipeV, binD_add, binD_sub, binD_mul, binD_fdiv, binD_mod, cmp_lt, cmp_le, cmp_gt, cmp_ge, cmp_eqi, cmp_nei, cmp_eqb, cmp_neb, cmp_eqs, cmp_nes, cmp_is, cmp_isNot, isn_int, isn_non, isn_tup, isn_lst, isn_str, isTy, isFn, ix0, ix1, ix2, ix3, ix4, ix5, ixm1, blt_lenc, blt_lent, blt_lenl, blt_lens, blt_abs, blt_inti, blt_intb, blt_tupt, blt_tupl, blt_lstt, blt_lstl, blt_max, blt_min, slice_tup, slice_lst, List.length_cons, List.length_nil, Nat.reduceAdd, Nat.reduceLeDiff, ↓reduceIte, reduceCtorEq, Bool.false_eq_true, Bool.not_true, Bool.not_false, Bool.not_eq_true, decide_eq_true_eq, decide_not, Bool.not_eq_eq_eq_not, maxl_num, Int.reduceEq, Int.reduceLT, Int.reduceLE, Int.reduceNeg, Int.reduceToNat, decide_true, decide_false, Bool.true_and, Bool.false_and, Bool.and_true, Bool.and_false, Bool.not_true, Bool.not_false, not_true_eq_false, not_false_eq_true, Nat.reduceEqDiff, nc0, nc1, nc2, nc3, nc4, nc5, nc6, nc7, nc8, nc9, nc10, nc11, nc12, g0, g1, g2, g3, g4, callAt, callLow, CLk, told_ok, told_x0, told_x1, told_x2, told_x3, told_x4, h3']) (ot_ (by simp (disch := first | omega | assumption | (simp only [List.length_cons, List.length_nil, List.length_append, List.length_replicate, List.length_take, List.length_drop]; omega)) only [den, dens, deno, denc, deni, denS, denSs, fin_nx, fin_rt, Res.bind_ok, Res.bind_exc, truth, partD, getV, setV, setAll, storeT, wipeV, binD_add, binD_sub, binD_mul, binD_fdiv, binD_mod, cmp_lt, cmp_le, cmp_gt, cmp_ge, cmp_eqi, cmp_nei, cmp_eqb, cmp_neb, cmp_eqs, cmp_nes, cmp_is, cmp_isNot, isn_int, isn_non, isn_tup, isn_lst, isn_str, isTy, isFn, ix0, ix1, ix2, ix3, ix4, ix5, ixm1, blt_lenc, blt_lent, blt_lenl, blt_lens, blt_abs, blt_inti, blt_intb, blt_tupt, blt_tupl, blt_lstt, blt_lstl, blt_max, blt_min, slice_tup, slice_lst, List.length_cons, List.length_nil, Nat.reduceAdd, Nat.reduceLeDiff, ↓reduceIte, reduceCtorEq, Bool.false_eq_true, Bool.not_true, Bool.not_false, Bool.not_eq_true, decide_eq_true_eq, decide_not, Bool.not_eq_eq_eq_not, maxl_num, Int.reduceEq, Int.reduceLT, Int.reduceLE, Int.reduceNeg, Int.reduceToNat, decide_true, decide_false, Bool.true_and, Bool.false_and, Bool.and_true, Bool.and_false, Bool.not_true, Bool.not_false, not_true_eq_false, not_false_eq_true, Nat.reduceEqDiff, nc0, nc1, nc2, nc3, nc4, nc5, nc6, nc7, nc8, nc9, nc10, nc11, nc12, g0, g1, g2, g3, g4, callAt, callLow, CLk, told_ok, told_x0, told_x1, told_x2, told_x3, told_x4, slice_str, cut_take1, cut_drop1, binD_str] <;> rfl) on_)) (sr_ ?_)
      simp (disch := first | omega | assumption | (simp only [List.length_cons, List.length_nil, List.length_append, List.length_replicate, List.length_take, List.length_drop]; omega)) only [den, dens, deno, denc, deni, denS, denSs, fin_nx, fin_rt, Res.bind_ok, Res.bind_exc, truth, partD, getV, setV, setAll, storeT, wipeV, binD_add, binD_sub, binD_mul, binD_fdiv, binD_mod, cmp_lt, cmp_le, cmp_gt, cmp_ge, cmp_eqi, cmp_nei, cmp_eqb, cmp_neb, cmp_eqs, cmp_nes, cmp_is, cmp_isNot, isn_int, isn_non, isn_tup, isn_lst, isn_str, isTy, isFn, ix0, ix1, ix2, ix3, ix4, ix5, ixm1, blt_lenc, blt_lent, blt_lenl, blt_lens, blt_abs, blt_inti, blt_intb, blt_tupt, blt_tupl, blt_lstt, blt_lstl, blt_max, blt_min, slice_tup, slice_lst, List.length_cons, List.length_nil, Nat.reduceAdd, Nat.reduceLeDiff, ↓reduceIte, reduceCtorEq, Bool.false_eq_true, Bool.not_true, Bool.not_false, Bool.not_eq_true, decide_eq_true_eq, decide_not, Bool.not_eq_eq_eq_not, maxl_num, Int.reduceEq, Int.reduceLT, Int.reduceLE, Int.reduceNeg, Int.reduceToNat, decide_true, decide_false, Bool.true_and, Bool.false_and, Bool.and_true, Bool.and_false, Bool.not_true, Bool.not_false, not_true_eq_false, not_false_eq_true, Nat.reduceEqDiff, nc0, nc1, nc2, nc3, nc4, nc5, nc6, nc7, nc8, nc9, nc10, nc11, nc12, g0, g1, g2, g3, g4, callAt, callLow, CLk, told_ok, told_x0, told_x1, told_x2, told_x3, told_x4, blt_stri bh.1 bh.2, binD_str, List.append_assoc]
    · have h3' : ¬(1 : Int) < ((figS a).length : Int) := by omega
      rw [if_neg h3, List.take_of_length_le (show (figS a).length ≤ 1 by omega), List.drop_of_length_le (show (figS a).length ≤ 1 by omega)]
      refine st_ (oif_ (by simp (disch := first | omega | assumption | (simp only [List.length_cons, List.length_nil, List.length_append, List.length_replicate, List.length_take, List.length_drop]; omega)) only [den, dens, deno, denc, deni, denS, denSs, fin_nx, fin_rt, Res.bind_ok, Res.bind_exc, truth, partD, getV, setV, setAll, storeT, wipeV, binD_add, binD_sub, binD_mul, binD_fdiv, binD_mod, cmp_lt, cmp_le, cmp_gt, cmp_ge, cmp_eqi, cmp_nei, cmp_eqb, cmp_neb, cmp_eqs, cmp_nes, cmp_is, cmp_isNot, isn_int, isn_non, isn_tup, isn_lst, isn_str, isTy, isFn, ix0, ix1, ix2, ix3, ix4, ix5, ixm1, blt_lenc, blt_lent, blt_lenl, blt_lens, blt_abs, blt_inti, blt_intb, blt_tupt, blt_tupl, blt_lstt, blt_lstl, blt_max, blt_min, slice_tup, slice_lst, List.length_cons, List.length_nil, Nat.reduceAdd, Nat.reduceLeDiff, ↓reduceIte, reduceCtorEq, Bool.false_eq_true, Bool.not_true, Bool.not_false, Bool.not_eq_true, decide_eq_true_eq, decide_not, Bool.not_eq_eq_eq_not, maxl_num, Int.reduceEq, Int.reduceLT, Int.reduceLE, Int.reduceNeg, Int.reduceToNat, decide_true, decide_false, Bool.true_and, Bool.false_and, Bool.and_true, Bool.and_false, Bool.not_true, Bool.not_false, not_true_eq_false, not_false_eq_true, Nat.reduceEqDiff, nc0, nc1, nc2, nc3, nc4, nc5, nc6, nc7, nc8, nc9, nc10, nc11, nc12, g0, g1, g2, g3, g4, callAt, callLow, CLk, told_ok, told_x0, told_x1, told_x2, told_x3, told_x4, h3']) on_) (sr_ ?_)
      simp (disch := first | omega | assumption | (simp only [List.length_cons, List.length_nil, List.length_append, List.length_replicate, List.length_take, List.length_drop]; omega)) only [den, dens, deno, denc, deni, denS, denSs, fin_nx, fin_rt, Res.bind_ok, Res.bind_exc, truth, partD, getV, setV, setAll, storeT, wipeV, binD_add, binD_sub, binD_mul, binD_fdiv, binD_mod, cmp_lt, cmp_le, cmp_gt, cmp_ge, cmp_eqi, cmp_nei, cmp_eqb, cmp_neb, cmp_eqs, cmp_nes, cmp_is, cmp_isNot, isn_int, isn_non, isn_tup, isn_lst, isn_str, isTy, isFn, ix0, ix1, ix2, ix3, ix4, ix5, ixm1, blt_lenc, blt_lent, blt_lenl, blt_lens, blt_abs, blt_inti, blt_intb, blt_tupt, blt_tupl, blt_lstt, blt_lstl, blt_max, blt_min, slice_tup, slice_lst, List.length_cons, List.length_nil, Nat.reduceAdd, Nat.reduceLeDiff, ↓reduceIte, reduceCtorEq, Bool.false_eq_true, Bool.not_true, Bool.not_false, Bool.not_eq_true, decide_eq_true_eq, decide_not, Bool.not_eq_eq_eq_not, maxl_num, Int.reduceEq, Int.reduceLT, Int.reduceLE, Int.reduceNeg, Int.reduceToNat, decide_true, decide_false, Bool.true_and, Bool.false_and, Bool.and_true, Bool.and_false, Bool.not_true, Bool.not_false, not_true_eq_false, not_false_eq_true, Nat.reduceEqDiff, nc0, nc1, nc2, nc3, nc4, nc5, nc6, nc7, nc8, nc9, nc10, nc11, nc12, g0, g1, g2, g3, g4, callAt, callLow, CLk, told_ok, told_x0, told_x1, told_x2, told_x3, told_x4, blt_stri bh.1 bh.2, binD_str, List.append_assoc, List.nil_append]
/-! numbers read -/
open PySem.NumText in
def wholeV (w : List Nat) (most : Nat) : Option Int :=
  if w.head? = some 45 then (if (1 ≤ (w.drop 1).length ∧ (w.drop 1).length ≤ most) ∧ ((w.drop 1).all fun c => decide (c ∈ FIGS)) = true then some (-((digitsVal (w.drop 1) : Nat) : Int)) else none)
  else (if (1 ≤ w.length ∧ w.length ≤ most) ∧ (w.all fun c => decide (c ∈ FIGS)) = true then some ((digitsVal w : Nat) : Int) else none)
theorem all_dig {l : List Nat} (h : (l.all fun c => decide (c ∈ FIGS)) = true) : NumText.AllDigits l := fun c hc => mem_figs.mp (of_decide_eq_true (List.all_eq_true.mp h c hc))
theorem dig_all {l : List Nat} (h : NumText.AllDigits l) : (l.all fun c => decide (c ∈ FIGS)) = true := List.all_eq_true.mpr fun c hc => decide_eq_true (mem_figs.mpr (h c hc))
def isF1 (d : D) : D := match d with
  | .str [c] => .bl (decide (c ∈ FIGS))
  | _ => .non
theorem isF_signs (l : List Nat) : (signs l).map isF1 = (l.map fun c => decide (c ∈ FIGS)).map D.bl := by
  unfold signs
  rw [List.map_map, List.map_map]
  rfl
def optR (o : Option Int) : Res D := match o with
  | some v => .ok (.int v)
  | none => .exc 1
theorem wholeEnd {k : Nat} (w f : List Nat) (most : Nat) (hf : f.length ≤ 1000) (hm : most ≤ 1000) (sg : SV) (v : Int) (hv : (1 ≤ f.length ∧ f.length ≤ most) ∧ (f.all fun c => decide (c ∈ FIGS)) = true → bltD .int [.str w] = .ok (.int v)) :
    (denSs (CL k) (glOf GS) (match B7 with | .cons _ (.cons _ r) => r | _ => .nil) [.pu (.str w), .pu (.int most), .pu (.str f), sg]).bind fin = optR (if (1 ≤ f.length ∧ f.length ≤ most) ∧ (f.all fun c => decide (c ∈ FIGS)) = true then some v else none) := by
  unfold B7
  have ca : den (CL k) (glOf GS) (.blt .all (.cons (.comp [3] (.name 3) (.of (.var 2)) .no (.cmp .in_ (.var 3) (.glob 4))) .nil)) [.pu (.str w), .pu (.int most), .pu (.str f), sg] = .ok (.bl (f.all fun c => decide (c ∈ FIGS))) := by
    have c := comp_all (call := CL k) (gl := glOf GS) (own := [3]) (t := .name 3) (it := .of (.var 2)) (c := .no) (e := .cmp .in_ (.var 3) (.glob 4)) (ρ := [.pu (.str w), .pu (.int most), .pu (.str f), sg]) (ds := signs f) isF1 (by simp (disch := first | omega | assumption | (simp only [List.length_cons, List.length_nil, List.length_append, List.length_replicate, List.length_take, List.length_drop]; omega)) only [den, dens, deno, denc, deni, denS, denSs, fin_nx, fin_rt, Res.bind_ok, Res.bind_exc, truth, partD, getV, setV, setAll, storeT, wipeV, binD_add, binD_sub, binD_mul, binD_fdiv, binD_mod, cmp_lt, cmp_le, cmp_gt, cmp_ge, cmp_eqi, cmp_nei, cmp_eqb, cmp_neb, cmp_eqs, cmp_nes, cmp_is, cmp_isNot, isn_int, isn_non, isn_tup, isn_lst, isn_str, isTy, isFn, ix0, ix1, ix2, ix3, ix4, ix5, ixm1, blt_lenc, blt_lent, blt_lenl, blt_lens, blt_abs, blt_inti, blt_intb, blt_tupt, blt_tupl, blt_lstt, blt_lstl, blt_max, blt_min, slice_tup, slice_lst, List.length_cons, List.length_nil, Nat.reduceAdd, Nat.reduceLeDiff, ↓reduceIte, reduceCtorEq, Bool.false_eq_true, Bool.not_true, Bool.not_false, Bool.not_eq_true, decide_eq_true_eq, decide_not, Bool.not_eq_eq_eq_not, maxl_num, Int.reduceEq, Int.reduceLT, Int.reduceLE, Int.reduceNeg, Int.reduceToNat, decide_true, decide_false, Bool.true_and, Bool.false_and, Bool.and_true, Bool.and_false, Bool.not_true, Bool.not_false, not_true_eq_false, not_false_eq_true, Nat.reduceEqDiff, nc0, nc1, nc2, nc3, nc4, nc5, nc6, nc7, nc8, nc9, nc10, nc11, nc12, g0, g1, g2, g3, g4, callAt, callLow, CLk, told_ok, told_x0, told_x1, told_x2, told_x3, told_x4] <;> rfl) (by unfold signs; rw [List.length_map]; omega) fun z hz => by
      unfold signs at hz
      obtain ⟨g, _, rfl⟩ := List.mem_map.mp hz
      have i : cmpD .in_ (.str [g]) (.str FIGS) = .ok (.bl (decide (g ∈ FIGS))) := by
        show Res.ok (D.bl (inS [g] FIGS)) = _
        rw [inS_one]
      exact ⟨_, by simp (disch := first | omega | assumption | (simp only [List.length_cons, List.length_nil, List.length_append, List.length_replicate, List.length_take, List.length_drop]; omega)) only [den, dens, deno, denc, deni, denS, denSs, fin_nx, fin_rt, Res.bind_ok, Res.bind_exc, truth, partD, getV, setV, setAll, storeT, wipeV, binD_add, binD_sub, binD_mul, binD_fdiv, binD_mod, cmp_lt, cmp_le, cmp_gt, cmp_ge, cmp_eqi, cmp_nei, cmp_eqb, cmp_neb, cmp_eqs, cmp_nes, cmp_is, cmp_isNot, isn_int, isn_non, isn_tup, isn_lst, isn_str, isTy, isFn, ix0, ix1, ix2, ix3, ix4, ix5, ixm1, blt_lenc, blt_lent, blt_lenl, blt_lens, blt_abs, blt_inti, blt_intb, blt_tupt, blt_tupl, blt_lstt, blt_lstl, blt_max, blt_min, slice_tup, slice_lst, List.length_cons, List.length_nil, Nat.reduceAdd, Nat.reduceLeDiff, ↓reduceIte, reduceCtorEq, Bool.false_eq_true, Bool.not_true, Bool.not_false, Bool.not_eq_true, decide_eq_true_eq, decide_not, Bool.not_eq_eq_eq_not, maxl_num, Int.reduceEq, Int.reduceLT, Int.reduceLE, Int.reduceNeg, Int.reduceToNat, decide_true, decide_false, Bool.true_and, Bool.false_and, Bool.and_true, Bool.and_false, Bool.not_true, Bool.not_false, not_true_eq_false, not_false_eq_true, Nat.reduceEqDiff, nc0, nc1, nc2, nc3, nc4, nc5, nc6, nc7, nc8, nc9, nc10, nc11, nc12, g0, g1, g2, g3, g4, callAt, callLow, CLk, told_ok, told_x0, told_x1, told_x2, told_x3, told_x4] <;> rfl, by simp (disch := first | omega | assumption | (simp only [List.length_cons, List.length_nil, List.length_append, List.length_replicate, List.length_take, List.length_drop]; omega)) only [den, dens, deno, denc, deni, denS, denSs, fin_nx, fin_rt, Res.bind_ok, Res.bind_exc, truth, partD, getV, setV, setAll, storeT, wipeV, binD_add, binD_sub, binD_mul, binD_fdiv, binD_mod, cmp_lt, cmp_le, cmp_gt, cmp_ge, cmp_eqi, cmp_nei, cmp_eqb, cmp_neb, cmp_eqs, cmp_nes, cmp_is, cmp_isNot, isn_int, isn_non, isn_tup, isn_lst, isn_str, isTy, isFn, ix0, ix1, ix2, ix3, ix4, ix5, ixm1, blt_lenc, blt_lent, blt_lenl, blt_lens, blt_abs, blt_inti, blt_intb, blt_tupt, blt_tupl, blt_lstt, blt_lstl, blt_max, blt_min, slice_tup, slice_lst, List.length_cons, List.length_nil, Nat.reduceAdd, Nat.reduceLeDiff, ↓reduceIte, reduceCtorEq, Bool.false_eq_true, Bool.not_true, Bool.not_false, Bool.not_eq_true, decide_eq_true_eq, decide_not, Bool.not_eq_eq_eq_not, maxl_num, Int.reduceEq, Int.reduceLT, Int.reduceLE, Int.reduceNeg, Int.reduceToNat, decide_true, decide_false, Bool.true_and, Bool.false_and, Bool.and_true, Bool.and_false, Bool.not_true, Bool.not_false, not_true_eq_false, not_false_eq_true, Nat.reduceEqDiff, nc0, nc1, nc2, nc3, nc4, nc5, nc6, nc7, nc8, nc9, nc10, nc11, nc12, g0, g1, g2, g3, g4, callAt, callLow, CLk, told_ok, told_x0, told_x1, told_x2, told_x3, told_x4], by simp (disch := first | omega | assumption | (simp only [List.length_cons, List.length_nil, List.length_append, List.length_replicate, List.length_take, List.length_drop]; omega)) only [den, dens, deno, denc, deni, denS, denSs, fin_nx, fin_rt, Res.bind_ok, Res.bind_exc, truth, partD, getV, setV, setAll, storeT, wipeV, binD_add, binD_sub, binD_mul, binD_fdiv, binD_mod, cmp_lt, cmp_le, cmp_gt, cmp_ge, cmp_eqi, cmp_nei, cmp_eqb, cmp_neb, cmp_eqs, cmp_nes, cmp_is, cmp_isNot, isn_int, isn_non, isn_tup, isn_lst, isn_str, isTy, isFn, ix0, ix1, ix2, ix3, ix4, ix5, ixm1, blt_lenc, blt_lent, blt_lenl, blt_lens, blt_abs, blt_inti, blt_intb, blt_tupt, blt_tupl, blt_lstt, blt_lstl, blt_max, blt_min, slice_tup, slice_lst, List.length_cons, List.length_nil, Nat.reduceAdd, Nat.reduceLeDiff, ↓reduceIte, reduceCtorEq, Bool.false_eq_true, Bool.not_true, Bool.not_false, Bool.not_eq_true, decide_eq_true_eq, decide_not, Bool.not_eq_eq_eq_not, maxl_num, Int.reduceEq, Int.reduceLT, Int.reduceLE, Int.reduceNeg, Int.reduceToNat, decide_true, decide_false, Bool.true_and, Bool.false_and, Bool.and_true, Bool.and_false, Bool.not_true, Bool.not_false, not_true_eq_false, not_false_eq_true, Nat.reduceEqDiff, nc0, nc1, nc2, nc3, nc4, nc5, nc6, nc7, nc8, nc9, nc10, nc11, nc12, g0, g1, g2, g3, g4, callAt, callLow, CLk, told_ok, told_x0, told_x1, told_x2, told_x3, told_x4, i, isF1]⟩
    rw [isF_signs] at c
    rw [den_blt1 c, blt_all, List.all_map]
    rfl
  by_cases h1 : 1 ≤ f.length ∧ f.length ≤ most
  · have a1 : (1 : Int) ≤ f.length := by omega
    have a2 : (f.length : Int) ≤ most := by omega
    cases h2 : f.all fun c => decide (c ∈ FIGS) with
    | true =>
      rw [h2] at ca
      rw [if_pos ⟨h1, rfl⟩]
      have hv := hv ⟨h1, h2⟩
      exact sif_ (den_orF (by simp (disch := first | omega | assumption | (simp only [List.length_cons, List.length_nil, List.length_append, List.length_replicate, List.length_take, List.length_drop]; omega)) only [den, dens, deno, denc, deni, denS, denSs, fin_nx, fin_rt, Res.bind_ok, Res.bind_exc, truth, partD, getV, setV, setAll, storeT, wipeV, binD_add, binD_sub, binD_mul, binD_fdiv, binD_mod, cmp_lt, cmp_le, cmp_gt, cmp_ge, cmp_eqi, cmp_nei, cmp_eqb, cmp_neb, cmp_eqs, cmp_nes, cmp_is, cmp_isNot, isn_int, isn_non, isn_tup, isn_lst, isn_str, isTy, isFn, ix0, ix1, ix2, ix3, ix4, ix5, ixm1, blt_lenc, blt_lent, blt_lenl, blt_lens, blt_abs, blt_inti, blt_intb, blt_tupt, blt_tupl, blt_lstt, blt_lstl, blt_max, blt_min, slice_tup, slice_lst, List.length_cons, List.length_nil, Nat.reduceAdd, Nat.reduceLeDiff, ↓reduceIte, reduceCtorEq, Bool.false_eq_true, Bool.not_true, Bool.not_false, Bool.not_eq_true, decide_eq_true_eq, decide_not, Bool.not_eq_eq_eq_not, maxl_num, Int.reduceEq, Int.reduceLT, Int.reduceLE, Int.reduceNeg, Int.reduceToNat, decide_true, decide_false, Bool.true_and, Bool.false_and, Bool.and_true, Bool.and_false, Bool.not_true, Bool.not_false, not_true_eq_false, not_false_eq_true, Nat.reduceEqDiff, nc0, nc1, nc2, nc3, nc4, nc5, nc6, nc7, nc8, nc9, nc10, nc11, nc12, g0, g1, g2, g3, g4, callAt, callLow, CLk, told_ok, told_x0, told_x1, told_x2, told_x3, told_x4, a1, a2]) (by rw [den, ca]; rfl)) (sr_ (by simp (disch := first | omega | assumption | (simp only [List.length_cons, List.length_nil, List.length_append, List.length_replicate, List.length_take, List.length_drop]; omega)) only [den, dens, deno, denc, deni, denS, denSs, fin_nx, fin_rt, Res.bind_ok, Res.bind_exc, truth, partD, getV, setV, setAll, storeT, wipeV, binD_add, binD_sub, binD_mul, binD_fdiv, binD_mod, cmp_lt, cmp_le, cmp_gt, cmp_ge, cmp_eqi, cmp_nei, cmp_eqb, cmp_neb, cmp_eqs, cmp_nes, cmp_is, cmp_isNot, isn_int, isn_non, isn_tup, isn_lst, isn_str, isTy, isFn, ix0, ix1, ix2, ix3, ix4, ix5, ixm1, blt_lenc, blt_lent, blt_lenl, blt_lens, blt_abs, blt_inti, blt_intb, blt_tupt, blt_tupl, blt_lstt, blt_lstl, blt_max, blt_min, slice_tup, slice_lst, List.length_cons, List.length_nil, Nat.reduceAdd, Nat.reduceLeDiff, ↓reduceIte, reduceCtorEq, Bool.false_eq_true, Bool.not_true, Bool.not_false, Bool.not_eq_true, decide_eq_true_eq, decide_not, Bool.not_eq_eq_eq_not, maxl_num, Int.reduceEq, Int.reduceLT, Int.reduceLE, Int.reduceNeg, Int.reduceToNat, decide_true, decide_false, Bool.true_and, Bool.false_and, Bool.and_true, Bool.and_false, Bool.not_true, Bool.not_false, not_true_eq_false, not_false_eq_true, Nat.reduceEqDiff, nc0, nc1, nc2, nc3, nc4, nc5, nc6, nc7, nc8, nc9, nc10, nc11, nc12, g0, g1, g2, g3, g4, callAt, callLow, CLk, told_ok, told_x0, told_x1, told_x2, told_x3, told_x4, hv] <;> rfl))
    | false =>
      rw [h2] at ca
      rw [if_neg (fun z => by cases z.2)]
      exact sx_ (oit_ (den_orF (by simp (disch := first | omega | assumption | (simp only [List.length_cons, List.length_nil, List.length_append, List.length_replicate, List.length_take, List.length_drop]; omega)) only [den, dens, deno, denc, deni, denS, denSs, fin_nx, fin_rt, Res.bind_ok, Res.bind_exc, truth, partD, getV, setV, setAll, storeT, wipeV, binD_add, binD_sub, binD_mul, binD_fdiv, binD_mod, cmp_lt, cmp_le, cmp_gt, cmp_ge, cmp_eqi, cmp_nei, cmp_eqb, cmp_neb, cmp_eqs, cmp_nes, cmp_is, cmp_isNot, isn_int, isn_non, isn_tup, isn_lst, isn_str, isTy, isFn, ix0, ix1, ix2, ix3, ix4, ix5, ixm1, blt_lenc, blt_lent, blt_lenl, blt_lens, blt_abs, blt_inti, blt_intb, blt_tupt, blt_tupl, blt_lstt, blt_lstl, blt_max, blt_min, slice_tup, slice_lst, List.length_cons, List.length_nil, Nat.reduceAdd, Nat.reduceLeDiff, ↓reduceIte, reduceCtorEq, Bool.false_eq_true, Bool.not_true, Bool.not_false, Bool.not_eq_true, decide_eq_true_eq, decide_not, Bool.not_eq_eq_eq_not, maxl_num, Int.reduceEq, Int.reduceLT, Int.reduceLE, Int.reduceNeg, Int.reduceToNat, decide_true, decide_false, Bool.true_and, Bool.false_and, Bool.and_true, Bool.and_false, Bool.not_true, Bool.not_false, not_true_eq_false, not_false_eq_true, Nat.reduceEqDiff, nc0, nc1, nc2, nc3, nc4, nc5, nc6, nc7, nc8, nc9, nc10, nc11, nc12, g0, g1, g2, g3, g4, callAt, callLow, CLk, told_ok, told_x0, told_x1, told_x2, told_x3, told_x4, a1, a2]) (by rw [den, ca]; rfl)) (ox_ (by rw [denS])))
  · rw [if_neg (fun z => h1 z.1)]
    have c : den (CL k) (glOf GS) (.not (.chain .le .le (.lit (.int 1)) (.blt .len (.cons (.var 2) .nil)) (.var 1))) [.pu (.str w), .pu (.int most), .pu (.str f), sg] = .ok (.bl true) := by
      by_cases a1 : (1 : Int) ≤ f.length
      · have a2 : ¬(f.length : Int) ≤ most := by omega
        simp (disch := first | omega | assumption | (simp only [List.length_cons, List.length_nil, List.length_append, List.length_replicate, List.length_take, List.length_drop]; omega)) only [den, dens, deno, denc, deni, denS, denSs, fin_nx, fin_rt, Res.bind_ok, Res.bind_exc, truth, partD, getV, setV, setAll, storeT, wipeV, binD_add, binD_sub, binD_mul, binD_fdiv, binD_mod, cmp_lt, cmp_le, cmp_gt, cmp_ge, cmp_eqi, cmp_nei, cmp_eqb, cmp_neb, cmp_eqs, cmp_nes, cmp_is, cmp_isNot, isn_int, isn_non, isn_tup, isn_lst, isn_str, isTy, isFn, ix0, ix1, ix2, ix3, ix4, ix5, ixm1, blt_lenc, blt_lent, blt_lenl, blt_lens, blt_abs, blt_inti, blt_intb, blt_tupt, blt_tupl, blt_lstt, blt_lstl, blt_max, blt_min, slice_tup, slice_lst, List.length_cons, List.length_nil, Nat.reduceAdd, Nat.reduceLeDiff, ↓reduceIte, reduceCtorEq, Bool.false_eq_true, Bool.not_true, Bool.not_false, Bool.not_eq_true, decide_eq_true_eq, decide_not, Bool.not_eq_eq_eq_not, maxl_num, Int.reduceEq, Int.reduceLT, Int.reduceLE, Int.reduceNeg, Int.reduceToNat, decide_true, decide_false, Bool.true_and, Bool.false_and, Bool.and_true, Bool.and_false, Bool.not_true, Bool.not_false, not_true_eq_false, not_false_eq_true, Nat.reduceEqDiff, nc0, nc1, nc2, nc3, nc4, nc5, nc6, nc7, nc8, nc9, nc10, nc11, nc12, g0, g1, g2, g3, g4, callAt, callLow, CLk, told_ok, told_x0, told_x1, told_x2, told_x3, told_x4, a1, a2]
      · simp (disch := first | omega | assumption | (simp only [List.length_cons, List.length_nil, List.length_append, List.length_replicate, List.length_take, List.length_drop]; omega)) only [den, dens, deno, denc, deni, denS, denSs, fin_nx, fin_rt, Res.bind_ok, Res.bind_exc, truth, partD, getV, setV, setAll, storeT, wipeV, binD_add, binD_sub, binD_mul, binD_fdiv, binD_mod, cmp_lt, cmp_le, cmp_gt, cmp_ge, cmp_eqi, cmp_nei, cmp_eqb, cmp_neb, cmp_eqs, cmp_nes, cmp_is, cmp_isNot, isn_int, isn_non, isn_tup, isn_lst, isn_str, isTy, isFn, ix0, ix1, ix2, ix3, ix4, ix5, ixm1, blt_lenc, blt_lent, blt_lenl, blt_lens, blt_abs, blt_inti, blt_intb, blt_tupt, blt_tupl, blt_lstt, blt_lstl, blt_max, blt_min, slice_tup, slice_lst, List.length_cons, List.length_nil, Nat.reduceAdd, Nat.reduceLeDiff, ↓reduceIte, reduceCtorEq, Bool.false_eq_true, Bool.not_true, Bool.not_false, Bool.not_eq_true, decide_eq_true_eq, decide_not, Bool.not_eq_eq_eq_not, maxl_num, Int.reduceEq, Int.reduceLT, Int.reduceLE, Int.reduceNeg, Int.reduceToNat, decide_true, decide_false, Bool.true_and, Bool.false_and, Bool.and_true, Bool.and_false, Bool.not_true, Bool.not_false, not_true_eq_false, not_false_eq_true, Nat.reduceEqDiff, nc0, nc1, nc2, nc3, nc4, nc5, nc6, nc7, nc8, nc9, nc10, nc11, nc12, g0, g1, g2, g3, g4, callAt, callLow, CLk, told_ok, told_x0, told_x1, told_x2, told_x3, told_x4, a1]
    exact sx_ (oit_ (den_orT c) (ox_ (by rw [denS])))
open PySem.NumText in
theorem wholeOf {k : Nat} (hk : 1 ≤ k) (w : List Nat) (most : Nat) (hw : w.length ≤ 600) (hm : most ≤ 600) : C k 7 [.str w, .int most] = optR (wholeV w most) := by
  obtain ⟨k, rfl⟩ : ∃ j, k = j + 1 := ⟨k - 1, by omega⟩
  have st := start_one w 45
  have mt := mthTy_start w
  rw [c7]
  unfold wholeV
  have en := fun f h => wholeEnd (k := k) w f most h (by omega) .un
  unfold B7 at en ⊢
  by_cases h : w.head? = some 45
  · rw [decide_eq_true h] at st
    rw [if_pos h]
    obtain ⟨r, rfl⟩ : ∃ r, w = 45 :: r := by
      cases w with
      | nil => cases h
      | cons c r => cases h; exact ⟨r, rfl⟩
    have cd : cutD (45 :: r) (some 1) none = r := by rw [cut_drop1]; rfl
    have en := en r (by simp at hw; omega) (-((digitsVal r : Nat) : Int)) fun z => int_textN (all_dig z.2) (fun q => by rw [q] at z; simp at z) (by simp at hw; omega)
    exact st_ (by simp (disch := first | omega | assumption | (simp only [List.length_cons, List.length_nil, List.length_append, List.length_replicate, List.length_take, List.length_drop]; omega)) only [den, dens, deno, denc, deni, denS, denSs, fin_nx, fin_rt, Res.bind_ok, Res.bind_exc, truth, partD, getV, setV, setAll, storeT, wipeV, binD_add, binD_sub, binD_mul, binD_fdiv, binD_mod, cmp_lt, cmp_le, cmp_gt, cmp_ge, cmp_eqi, cmp_nei, cmp_eqb, cmp_neb, cmp_eqs, cmp_nes, cmp_is, cmp_isNot, isn_int, isn_non, isn_tup, isn_lst, isn_str, isTy, isFn, ix0, ix1, ix2, ix3, ix4, ix5, ixm1, blt_lenc, blt_lent, blt_lenl, blt_lens, blt_abs, blt_inti, blt_intb, blt_tupt, blt_tupl, blt_lstt, blt_lstl, blt_max, blt_min, slice_tup, slice_lst, List.length_cons, List.length_nil, Nat.reduceAdd, Nat.reduceLeDiff, ↓reduceIte, reduceCtorEq, Bool.false_eq_true, Bool.not_true, Bool.not_false, Bool.not_eq_true, decide_eq_true_eq, decide_not, Bool.not_eq_eq_eq_not, maxl_num, Int.reduceEq, Int.reduceLT, Int.reduceLE, Int.reduceNeg, Int.reduceToNat, decide_true, decide_false, Bool.true_and, Bool.false_and, Bool.and_true, Bool.and_false, Bool.not_true, Bool.not_false, not_true_eq_false, not_false_eq_true, Nat.reduceEqDiff, nc0, nc1, nc2, nc3, nc4, nc5, nc6, nc7, nc8, nc9, nc10, nc11, nc12, g0, g1, g2, g3, g4, callAt, callLow, CLk, told_ok, told_x0, told_x1, told_x2, told_x3, told_x4] <;> rfl) (st_ (ρ' := [.pu (.str (45 :: r)), .pu (.int most), .pu (.str r), .un]) (oit_ (by simp (disch := first | omega | assumption | (simp only [List.length_cons, List.length_nil, List.length_append, List.length_replicate, List.length_take, List.length_drop]; omega)) only [den, dens, deno, denc, deni, denS, denSs, fin_nx, fin_rt, Res.bind_ok, Res.bind_exc, truth, partD, getV, setV, setAll, storeT, wipeV, binD_add, binD_sub, binD_mul, binD_fdiv, binD_mod, cmp_lt, cmp_le, cmp_gt, cmp_ge, cmp_eqi, cmp_nei, cmp_eqb, cmp_neb, cmp_eqs, cmp_nes, cmp_is, cmp_isNot, isn_int, isn_non, isn_tup, isn_lst, isn_str, isTy, isFn, ix0, ix1, ix2, ix3, ix4, ix5, ixm1, blt_lenc, blt_lent, blt_lenl, blt_lens, blt_abs, blt_inti, blt_intb, blt_tupt, blt_tupl, blt_lstt, blt_lstl, blt_max, blt_min, slice_tup, slice_lst, List.length_cons, List.length_nil, Nat.reduceAdd, Nat.reduceLeDiff, ↓reduceIte, reduceCtorEq, Bool.false_eq_true, Bool.not_true, Bool.not_false, Bool.not_eq_true, decide_eq_true_eq, decide_not, Bool.not_eq_eq_eq_not, maxl_num, Int.reduceEq, Int.reduceLT, Int.reduceLE, Int.reduceNeg, Int.reduceToNat, decide_true, decide_false, Bool.true_and, Bool.false_and, Bool.and_true, Bool.and_false, Bool.not_true, Bool.not_false, not_true_eq_false, not_false_eq_true, Nat.reduceEqDiff, nc0, nc1, nc2, nc3, nc4, nc5, nc6, nc7, nc8, nc9, nc10, nc11, nc12, g0, g1, g2, g3, g4, callAt, callLow, CLk, told_ok, told_x0, told_x1, told_x2, told_x3, told_x4, mt, st]) (ot_ (by simp (disch := first | omega | assumption | (simp only [List.length_cons, List.length_nil, List.length_append, List.length_replicate, List.length_take, List.length_drop]; omega)) only [den, dens, deno, denc, deni, denS, denSs, fin_nx, fin_rt, Res.bind_ok, Res.bind_exc, truth, partD, getV, setV, setAll, storeT, wipeV, binD_add, binD_sub, binD_mul, binD_fdiv, binD_mod, cmp_lt, cmp_le, cmp_gt, cmp_ge, cmp_eqi, cmp_nei, cmp_eqb, cmp_neb, cmp_eqs, cmp_nes, cmp_is, cmp_isNot, isn_int, isn_non, isn_tup, isn_lst, isn_str, isTy, isFn, ix0, ix1, ix2, ix3, ix4, ix5, ixm1, blt_lenc, blt_lent, blt_lenl, blt_lens, blt_abs, blt_inti, blt_intb, blt_tupt, blt_tupl, blt_lstt, blt_lstl, blt_max, blt_min, slice_tup, slice_lst, List.length_cons, List.length_nil, Nat.reduceAdd, Nat.reduceLeDiff, ↓reduceIte, reduceCtorEq, Bool.false_eq_true, Bool.not_true, Bool.not_false, Bool.not_eq_true, decide_eq_true_eq, decide_not, Bool.not_eq_eq_eq_not, maxl_num, Int.reduceEq, Int.reduceLT, Int.reduceLE, Int.reduceNeg, Int.reduceToNat, decide_true, decide_false, Bool.true_and, Bool.false_and, Bool.and_true, Bool.and_false, Bool.not_true, Bool.not_false, not_true_eq_false, not_false_eq_true, Nat.reduceEqDiff, nc0, nc1, nc2, nc3, nc4, nc5, nc6, nc7, nc8, nc9, nc10, nc11, nc12, g0, g1, g2, g3, g4, callAt, callLow, CLk, told_ok, told_x0, told_x1, told_x2, told_x3, told_x4, slice_str, cd] <;> rfl) on_)) en)
  · rw [decide_eq_false h] at st
    rw [if_neg h]
    have en := en w (by omega) ((digitsVal w : Nat) : Int) fun z => int_text (all_dig z.2) (fun q => by rw [q] at z; simp at z) (by omega)
    exact st_ (by simp (disch := first | omega | assumption | (simp only [List.length_cons, List.length_nil, List.length_append, List.length_replicate, List.length_take, List.length_drop]; omega)) only [den, dens, deno, denc, deni, denS, denSs, fin_nx, fin_rt, Res.bind_ok, Res.bind_exc, truth, partD, getV, setV, setAll, storeT, wipeV, binD_add, binD_sub, binD_mul, binD_fdiv, binD_mod, cmp_lt, cmp_le, cmp_gt, cmp_ge, cmp_eqi, cmp_nei, cmp_eqb, cmp_neb, cmp_eqs, cmp_nes, cmp_is, cmp_isNot, isn_int, isn_non, isn_tup, isn_lst, isn_str, isTy, isFn, ix0, ix1, ix2, ix3, ix4, ix5, ixm1, blt_lenc, blt_lent, blt_lenl, blt_lens, blt_abs, blt_inti, blt_intb, blt_tupt, blt_tupl, blt_lstt, blt_lstl, blt_max, blt_min, slice_tup, slice_lst, List.length_cons, List.length_nil, Nat.reduceAdd, Nat.reduceLeDiff, ↓reduceIte, reduceCtorEq, Bool.false_eq_true, Bool.not_true, Bool.not_false, Bool.not_eq_true, decide_eq_true_eq, decide_not, Bool.not_eq_eq_eq_not, maxl_num, Int.reduceEq, Int.reduceLT, Int.reduceLE, Int.reduceNeg, Int.reduceToNat, decide_true, decide_false, Bool.true_and, Bool.false_and, Bool.and_true, Bool.and_false, Bool.not_true, Bool.not_false, not_true_eq_false, not_false_eq_true, Nat.reduceEqDiff, nc0, nc1, nc2, nc3, nc4, nc5, nc6, nc7, nc8, nc9, nc10, nc11, nc12, g0, g1, g2, g3, g4, callAt, callLow, CLk, told_ok, told_x0, told_x1, told_x2, told_x3, told_x4] <;> rfl) (st_ (oif_ (by simp (disch := first | omega | assumption | (simp only [List.length_cons, List.length_nil, List.length_append, List.length_replicate, List.length_take, List.length_drop]; omega)) only [den, dens, deno, denc, deni, denS, denSs, fin_nx, fin_rt, Res.bind_ok, Res.bind_exc, truth, partD, getV, setV, setAll, storeT, wipeV, binD_add, binD_sub, binD_mul, binD_fdiv, binD_mod, cmp_lt, cmp_le, cmp_gt, cmp_ge, cmp_eqi, cmp_nei, cmp_eqb, cmp_neb, cmp_eqs, cmp_nes, cmp_is, cmp_isNot, isn_int, isn_non, isn_tup, isn_lst, isn_str, isTy, isFn, ix0, ix1, ix2, ix3, ix4, ix5, ixm1, blt_lenc, blt_lent, blt_lenl, blt_lens, blt_abs, blt_inti, blt_intb, blt_tupt, blt_tupl, blt_lstt, blt_lstl, blt_max, blt_min, slice_tup, slice_lst, List.length_cons, List.length_nil, Nat.reduceAdd, Nat.reduceLeDiff, ↓reduceIte, reduceCtorEq, Bool.false_eq_true, Bool.not_true, Bool.not_false, Bool.not_eq_true, decide_eq_true_eq, decide_not, Bool.not_eq_eq_eq_not, maxl_num, Int.reduceEq, Int.reduceLT, Int.reduceLE, Int.reduceNeg, Int.reduceToNat, decide_true, decide_false, Bool.true_and, Bool.false_and, Bool.and_true, Bool.and_false, Bool.not_true, Bool.not_false, not_true_eq_false, not_false_eq_true, Nat.reduceEqDiff, nc0, nc1, nc2, nc3, nc4, nc5, nc6, nc7, nc8, nc9, nc10, nc11, nc12, g0, g1, g2, g3, g4, callAt, callLow, CLk, told_ok, told_x0, told_x1, told_x2, told_x3, told_x4, mt, st]) on_) en)
theorem wholeV_bd {w : List Nat} {most : Nat} (hm : most ≤ 20) {v : Int} (h : wholeV w most = some v) : -100000000000000000000 < v ∧ v < 100000000000000000000 := by
  have key : ∀ l : List Nat, l.length ≤ most → (l.all fun c => decide (c ∈ FIGS)) = true → NumText.digitsVal l < 100000000000000000000 := fun l h1 h2 => by
    have := dv_lt l.length l rfl (all_dig h2)
    have h3 : 10 ^ l.length ≤ 10 ^ 20 := Nat.pow_le_pow_right (by omega) (by omega)
    have h4 : (10 : Nat) ^ 20 = 100000000000000000000 := rfl
    omega
  unfold wholeV at h
  split at h
  · split at h
    · rename_i c
      have := key _ c.1.2 c.2
      injection h with h
      omega
    · cases h
  · split at h
    · rename_i c
      have := key _ c.1.2 c.2
      injection h with h
      omega
    · cases h
/-! the power of a plain text -/
def optP (o : Option (Int × Int)) : Res D := match o with
  | some v => .ok (nD v)
  | none => .exc 1
theorem plainEnd {k : Nat} (t a p b : SV) (w q : Int) :
    (denSs (CL k) (glOf GS) (match B8 with | .cons _ (.cons _ (.cons _ (.cons _ r))) => r | _ => .nil) [t, a, p, b, .pu (.int w), .pu (.int q)]).bind fin = .ok (nD (tidyV w q)) := by
  unfold B8 tidyV
  by_cases h : w = 0
  · rw [if_pos h]
    exact sr_ (oit_ (by simp (disch := first | omega | assumption | (simp only [List.length_cons, List.length_nil, List.length_append, List.length_replicate, List.length_take, List.length_drop]; omega)) only [den, dens, deno, denc, deni, denS, denSs, fin_nx, fin_rt, Res.bind_ok, Res.bind_exc, truth, partD, getV, setV, setAll, storeT, wipeV, binD_add, binD_sub, binD_mul, binD_fdiv, binD_mod, cmp_lt, cmp_le, cmp_gt, cmp_ge, cmp_eqi, cmp_nei, cmp_eqb, cmp_neb, cmp_eqs, cmp_nes, cmp_is, cmp_isNot, isn_int, isn_non, isn_tup, isn_lst, isn_str, isTy, isFn, ix0, ix1, ix2, ix3, ix4, ix5, ixm1, blt_lenc, blt_lent, blt_lenl, blt_lens, blt_abs, blt_inti, blt_intb, blt_tupt, blt_tupl, blt_lstt, blt_lstl, blt_max, blt_min, slice_tup, slice_lst, List.length_cons, List.length_nil, Nat.reduceAdd, Nat.reduceLeDiff, ↓reduceIte, reduceCtorEq, Bool.false_eq_true, Bool.not_true, Bool.not_false, Bool.not_eq_true, decide_eq_true_eq, decide_not, Bool.not_eq_eq_eq_not, maxl_num, Int.reduceEq, Int.reduceLT, Int.reduceLE, Int.reduceNeg, Int.reduceToNat, decide_true, decide_false, Bool.true_and, Bool.false_and, Bool.and_true, Bool.and_false, Bool.not_true, Bool.not_false, not_true_eq_false, not_false_eq_true, Nat.reduceEqDiff, nc0, nc1, nc2, nc3, nc4, nc5, nc6, nc7, nc8, nc9, nc10, nc11, nc12, g0, g1, g2, g3, g4, callAt, callLow, CLk, told_ok, told_x0, told_x1, told_x2, told_x3, told_x4, h]) (or_ (by simp (disch := first | omega | assumption | (simp only [List.length_cons, List.length_nil, List.length_append, List.length_replicate, List.length_take, List.length_drop]; omega)) only [den, dens, deno, denc, deni, denS, denSs, fin_nx, fin_rt, Res.bind_ok, Res.bind_exc, truth, partD, getV, setV, setAll, storeT, wipeV, binD_add, binD_sub, binD_mul, binD_fdiv, binD_mod, cmp_lt, cmp_le, cmp_gt, cmp_ge, cmp_eqi, cmp_nei, cmp_eqb, cmp_neb, cmp_eqs, cmp_nes, cmp_is, cmp_isNot, isn_int, isn_non, isn_tup, isn_lst, isn_str, isTy, isFn, ix0, ix1, ix2, ix3, ix4, ix5, ixm1, blt_lenc, blt_lent, blt_lenl, blt_lens, blt_abs, blt_inti, blt_intb, blt_tupt, blt_tupl, blt_lstt, blt_lstl, blt_max, blt_min, slice_tup, slice_lst, List.length_cons, List.length_nil, Nat.reduceAdd, Nat.reduceLeDiff, ↓reduceIte, reduceCtorEq, Bool.false_eq_true, Bool.not_true, Bool.not_false, Bool.not_eq_true, decide_eq_true_eq, decide_not, Bool.not_eq_eq_eq_not, maxl_num, Int.reduceEq, Int.reduceLT, Int.reduceLE, Int.reduceNeg, Int.reduceToNat, decide_true, decide_false, Bool.true_and, Bool.false_and, Bool.and_true, Bool.and_false, Bool.not_true, Bool.not_false, not_true_eq_false, not_false_eq_true, Nat.reduceEqDiff, nc0, nc1, nc2, nc3, nc4, nc5, nc6, nc7, nc8, nc9, nc10, nc11, nc12, g0, g1, g2, g3, g4, callAt, callLow, CLk, told_ok, told_x0, told_x1, told_x2, told_x3, told_x4] <;> rfl)))
  · rw [if_neg h]
    refine sif_ (by simp (disch := first | omega | assumption | (simp only [List.length_cons, List.length_nil, List.length_append, List.length_replicate, List.length_take, List.length_drop]; omega)) only [den, dens, deno, denc, deni, denS, denSs, fin_nx, fin_rt, Res.bind_ok, Res.bind_exc, truth, partD, getV, setV, setAll, storeT, wipeV, binD_add, binD_sub, binD_mul, binD_fdiv, binD_mod, cmp_lt, cmp_le, cmp_gt, cmp_ge, cmp_eqi, cmp_nei, cmp_eqb, cmp_neb, cmp_eqs, cmp_nes, cmp_is, cmp_isNot, isn_int, isn_non, isn_tup, isn_lst, isn_str, isTy, isFn, ix0, ix1, ix2, ix3, ix4, ix5, ixm1, blt_lenc, blt_lent, blt_lenl, blt_lens, blt_abs, blt_inti, blt_intb, blt_tupt, blt_tupl, blt_lstt, blt_lstl, blt_max, blt_min, slice_tup, slice_lst, List.length_cons, List.length_nil, Nat.reduceAdd, Nat.reduceLeDiff, ↓reduceIte, reduceCtorEq, Bool.false_eq_true, Bool.not_true, Bool.not_false, Bool.not_eq_true, decide_eq_true_eq, decide_not, Bool.not_eq_eq_eq_not, maxl_num, Int.reduceEq, Int.reduceLT, Int.reduceLE, Int.reduceNeg, Int.reduceToNat, decide_true, decide_false, Bool.true_and, Bool.false_and, Bool.and_true, Bool.and_false, Bool.not_true, Bool.not_false, not_true_eq_false, not_false_eq_true, Nat.reduceEqDiff, nc0, nc1, nc2, nc3, nc4, nc5, nc6, nc7, nc8, nc9, nc10, nc11, nc12, g0, g1, g2, g3, g4, callAt, callLow, CLk, told_ok, told_x0, told_x1, told_x2, told_x3, told_x4, h]) ?_
    have loop : ∀ (n : Nat) (w q : Int), w ≠ 0 → w.natAbs ≤ n → whileD (fun ρ => (den (CL k) (glOf GS) (.cmp .eq (.bin .mod (.var 4) (.lit (.int 10))) (.lit (.int 0))) ρ).bind truth) (fun ρ => denSs (CL k) (glOf GS) (.cons (.set (.name 4) (.bin .fdiv (.var 4) (.lit (.int 10)))) (.cons (.set (.name 5) (.bin .add (.var 5) (.lit (.int 1)))) .nil)) ρ) [t, a, p, b, .pu (.int w), .pu (.int q)]
        = .ok (.nx [t, a, p, b, .pu (.int (stripN n w q).1), .pu (.int (stripN n w q).2)]) := by
      intro n
      induction n with
      | zero => intro w q h0 h1; omega
      | succ n ih =>
        intro w q h0 h1
        unfold stripN
        by_cases c : w % 10 = 0
        · rw [if_pos c, while_step (ρ' := [t, a, p, b, .pu (.int (w / 10)), .pu (.int (q + 1))]) (by simp (disch := first | omega | assumption | (simp only [List.length_cons, List.length_nil, List.length_append, List.length_replicate, List.length_take, List.length_drop]; omega)) only [den, dens, deno, denc, deni, denS, denSs, fin_nx, fin_rt, Res.bind_ok, Res.bind_exc, truth, partD, getV, setV, setAll, storeT, wipeV, binD_add, binD_sub, binD_mul, binD_fdiv, binD_mod, cmp_lt, cmp_le, cmp_gt, cmp_ge, cmp_eqi, cmp_nei, cmp_eqb, cmp_neb, cmp_eqs, cmp_nes, cmp_is, cmp_isNot, isn_int, isn_non, isn_tup, isn_lst, isn_str, isTy, isFn, ix0, ix1, ix2, ix3, ix4, ix5, ixm1, blt_lenc, blt_lent, blt_lenl, blt_lens, blt_abs, blt_inti, blt_intb, blt_tupt, blt_tupl, blt_lstt, blt_lstl, blt_max, blt_min, slice_tup, slice_lst, List.length_cons, List.length_nil, Nat.reduceAdd, Nat.reduceLeDiff, ↓reduceIte, reduceCtorEq, Bool.false_eq_true, Bool.not_true, Bool.not_false, Bool.not_eq_true, decide_eq_true_eq, decide_not, Bool.not_eq_eq_eq_not, maxl_num, Int.reduceEq, Int.reduceLT, Int.reduceLE, Int.reduceNeg, Int.reduceToNat, decide_true, decide_false, Bool.true_and, Bool.false_and, Bool.and_true, Bool.and_false, Bool.not_true, Bool.not_false, not_true_eq_false, not_false_eq_true, Nat.reduceEqDiff, nc0, nc1, nc2, nc3, nc4, nc5, nc6, nc7, nc8, nc9, nc10, nc11, nc12, g0, g1, g2, g3, g4, callAt, callLow, CLk, told_ok, told_x0, told_x1, told_x2, told_x3, told_x4, c] <;> rfl) (by simp (disch := first | omega | assumption | (simp only [List.length_cons, List.length_nil, List.length_append, List.length_replicate, List.length_take, List.length_drop]; omega)) only [den, dens, deno, denc, deni, denS, denSs, fin_nx, fin_rt, Res.bind_ok, Res.bind_exc, truth, partD, getV, setV, setAll, storeT, wipeV, binD_add, binD_sub, binD_mul, binD_fdiv, binD_mod, cmp_lt, cmp_le, cmp_gt, cmp_ge, cmp_eqi, cmp_nei, cmp_eqb, cmp_neb, cmp_eqs, cmp_nes, cmp_is, cmp_isNot, isn_int, isn_non, isn_tup, isn_lst, isn_str, isTy, isFn, ix0, ix1, ix2, ix3, ix4, ix5, ixm1, blt_lenc, blt_lent, blt_lenl, blt_lens, blt_abs, blt_inti, blt_intb, blt_tupt, blt_tupl, blt_lstt, blt_lstl, blt_max, blt_min, slice_tup, slice_lst, List.length_cons, List.length_nil, Nat.reduceAdd, Nat.reduceLeDiff, ↓reduceIte, reduceCtorEq, Bool.false_eq_true, Bool.not_true, Bool.not_false, Bool.not_eq_true, decide_eq_true_eq, decide_not, Bool.not_eq_eq_eq_not, maxl_num, Int.reduceEq, Int.reduceLT, Int.reduceLE, Int.reduceNeg, Int.reduceToNat, decide_true, decide_false, Bool.true_and, Bool.false_and, Bool.and_true, Bool.and_false, Bool.not_true, Bool.not_false, not_true_eq_false, not_false_eq_true, Nat.reduceEqDiff, nc0, nc1, nc2, nc3, nc4, nc5, nc6, nc7, nc8, nc9, nc10, nc11, nc12, g0, g1, g2, g3, g4, callAt, callLow, CLk, told_ok, told_x0, told_x1, told_x2, told_x3, told_x4] <;> rfl)]
          exact ih (w / 10) (q + 1) (by omega) (by omega)
        · rw [if_neg c, while_stop (by simp (disch := first | omega | assumption | (simp only [List.length_cons, List.length_nil, List.length_append, List.length_replicate, List.length_take, List.length_drop]; omega)) only [den, dens, deno, denc, deni, denS, denSs, fin_nx, fin_rt, Res.bind_ok, Res.bind_exc, truth, partD, getV, setV, setAll, storeT, wipeV, binD_add, binD_sub, binD_mul, binD_fdiv, binD_mod, cmp_lt, cmp_le, cmp_gt, cmp_ge, cmp_eqi, cmp_nei, cmp_eqb, cmp_neb, cmp_eqs, cmp_nes, cmp_is, cmp_isNot, isn_int, isn_non, isn_tup, isn_lst, isn_str, isTy, isFn, ix0, ix1, ix2, ix3, ix4, ix5, ixm1, blt_lenc, blt_lent, blt_lenl, blt_lens, blt_abs, blt_inti, blt_intb, blt_tupt, blt_tupl, blt_lstt, blt_lstl, blt_max, blt_min, slice_tup, slice_lst, List.length_cons, List.length_nil, Nat.reduceAdd, Nat.reduceLeDiff, ↓reduceIte, reduceCtorEq, Bool.false_eq_true, Bool.not_true, Bool.not_false, Bool.not_eq_true, decide_eq_true_eq, decide_not, Bool.not_eq_eq_eq_not, maxl_num, Int.reduceEq, Int.reduceLT, Int.reduceLE, Int.reduceNeg, Int.reduceToNat, decide_true, decide_false, Bool.true_and, Bool.false_and, Bool.and_true, Bool.and_false, Bool.not_true, Bool.not_false, not_true_eq_false, not_false_eq_true, Nat.reduceEqDiff, nc0, nc1, nc2, nc3, nc4, nc5, nc6, nc7, nc8, nc9, nc10, nc11, nc12, g0, g1, g2, g3, g4, callAt, callLow, CLk, told_ok, told_x0, told_x1, told_x2, told_x3, told_x4, c] <;> rfl)]
    have l := loop w.natAbs w q h (Nat.le_refl _)
    have dw : denS (CL k) (glOf GS) (.while_ (.cmp .eq (.bin .mod (.var 4) (.lit (.int 10))) (.lit (.int 0))) (.cons (.set (.name 4) (.bin .fdiv (.var 4) (.lit (.int 10)))) (.cons (.set (.name 5) (.bin .add (.var 5) (.lit (.int 1)))) .nil))) [t, a, p, b, .pu (.int w), .pu (.int q)] = .ok (.nx [t, a, p, b, .pu (.int (strip w q).1), .pu (.int (strip w q).2)]) := by
      rw [denS]
      exact l
    exact st_ dw (sr_ (by simp (disch := first | omega | assumption | (simp only [List.length_cons, List.length_nil, List.length_append, List.length_replicate, List.length_take, List.length_drop]; omega)) only [den, dens, deno, denc, deni, denS, denSs, fin_nx, fin_rt, Res.bind_ok, Res.bind_exc, truth, partD, getV, setV, setAll, storeT, wipeV, binD_add, binD_sub, binD_mul, binD_fdiv, binD_mod, cmp_lt, cmp_le, cmp_gt, cmp_ge, cmp_eqi, cmp_nei, cmp_eqb, cmp_neb, cmp_eqs, cmp_nes, cmp_is, cmp_isNot, isn_int, isn_non, isn_tup, isn_lst, isn_str, isTy, isFn, ix0, ix1, ix2, ix3, ix4, ix5, ixm1, blt_lenc, blt_lent, blt_lenl, blt_lens, blt_abs, blt_inti, blt_intb, blt_tupt, blt_tupl, blt_lstt, blt_lstl, blt_max, blt_min, slice_tup, slice_lst, List.length_cons, List.length_nil, Nat.reduceAdd, Nat.reduceLeDiff, ↓reduceIte, reduceCtorEq, Bool.false_eq_true, Bool.not_true, Bool.not_false, Bool.not_eq_true, decide_eq_true_eq, decide_not, Bool.not_eq_eq_eq_not, maxl_num, Int.reduceEq, Int.reduceLT, Int.reduceLE, Int.reduceNeg, Int.reduceToNat, decide_true, decide_false, Bool.true_and, Bool.false_and, Bool.and_true, Bool.and_false, Bool.not_true, Bool.not_false, not_true_eq_false, not_false_eq_true, Nat.reduceEqDiff, nc0, nc1, nc2, nc3, nc4, nc5, nc6, nc7, nc8, nc9, nc10, nc11, nc12, g0, g1, g2, g3, g4, callAt, callLow, CLk, told_ok, told_x0, told_x1, told_x2, told_x3, told_x4] <;> rfl))
theorem fromP_at {k : Nat} (hk : 2 ≤ k) {a b : List Nat} (h : 46 ∉ a) (hl : (a ++ 46 :: b).length ≤ 500) : C k 8 [.str (a ++ 46 :: b)] = if b = [] then .exc 1 else optP ((wholeV (a ++ b) 20).map fun w => tidyV w (-(b.length : Int))) := by
  obtain ⟨k, rfl⟩ : ∃ j, k = j + 1 := ⟨k - 1, by omega⟩
  have pa := part_at (b := b) h (by omega)
  have mp := mthTy_part (a ++ 46 :: b)
  simp only [List.length_append, List.length_cons] at hl
  have wo := wholeOf (k := k) (by omega) (a ++ b) 20 (by rw [List.length_append]; omega) (by omega)
  rw [c8]
  have pe := fun t w => plainEnd (k := k) t (.pu (.str a)) (.pu (.str [46])) (.pu (.str b)) w (-(b.length : Int))
  unfold B8 at pe ⊢
  have p1 : (denS (CL k) (glOf GS) (.set (.tup [1, 2, 3]) (.meth .partition (.var 0) (.cons (.lit (.str [46])) .nil))) [.pu (.str (a ++ 46 :: b)), .un, .un, .un, .un, .un]) = .ok (.nx [.pu (.str (a ++ 46 :: b)), .pu (.str a), .pu (.str [46]), .pu (.str b), .un, .un]) := by simp (disch := first | omega | assumption | (simp only [List.length_cons, List.length_nil, List.length_append, List.length_replicate, List.length_take, List.length_drop]; omega)) only [den, dens, deno, denc, deni, denS, denSs, fin_nx, fin_rt, Res.bind_ok, Res.bind_exc, truth, partD, getV, setV, setAll, storeT, wipeV, binD_add, binD_sub, binD_mul, binD_fdiv, binD_mod, cmp_lt, cmp_le, cmp_gt, cmp_ge, cmp_eqi, cmp_nei, cmp_eqb, cmp_neb, cmp_eqs, cmp_nes, cmp_is, cmp_isNot, isn_int, isn_non, isn_tup, isn_lst, isn_str, isTy, isFn, ix0, ix1, ix2, ix3, ix4, ix5, ixm1, blt_lenc, blt_lent, blt_lenl, blt_lens, blt_abs, blt_inti, blt_intb, blt_tupt, blt_tupl, blt_lstt, blt_lstl, blt_max, blt_min, slice_tup, slice_lst, List.length_cons, List.length_nil, Nat.reduceAdd, Nat.reduceLeDiff, ↓reduceIte, reduceCtorEq, Bool.false_eq_true, Bool.not_true, Bool.not_false, Bool.not_eq_true, decide_eq_true_eq, decide_not, Bool.not_eq_eq_eq_not, maxl_num, Int.reduceEq, Int.reduceLT, Int.reduceLE, Int.reduceNeg, Int.reduceToNat, decide_true, decide_false, Bool.true_and, Bool.false_and, Bool.and_true, Bool.and_false, Bool.not_true, Bool.not_false, not_true_eq_false, not_false_eq_true, Nat.reduceEqDiff, nc0, nc1, nc2, nc3, nc4, nc5, nc6, nc7, nc8, nc9, nc10, nc11, nc12, g0, g1, g2, g3, g4, callAt, callLow, CLk, told_ok, told_x0, told_x1, told_x2, told_x3, told_x4, mp, pa] <;> rfl
  refine st_ p1 ?_
  by_cases hb : b = []
  · rw [if_pos hb]
    subst hb
    exact sx_ (oit_ (den_andT (by simp (disch := first | omega | assumption | (simp only [List.length_cons, List.length_nil, List.length_append, List.length_replicate, List.length_take, List.length_drop]; omega)) only [den, dens, deno, denc, deni, denS, denSs, fin_nx, fin_rt, Res.bind_ok, Res.bind_exc, truth, partD, getV, setV, setAll, storeT, wipeV, binD_add, binD_sub, binD_mul, binD_fdiv, binD_mod, cmp_lt, cmp_le, cmp_gt, cmp_ge, cmp_eqi, cmp_nei, cmp_eqb, cmp_neb, cmp_eqs, cmp_nes, cmp_is, cmp_isNot, isn_int, isn_non, isn_tup, isn_lst, isn_str, isTy, isFn, ix0, ix1, ix2, ix3, ix4, ix5, ixm1, blt_lenc, blt_lent, blt_lenl, blt_lens, blt_abs, blt_inti, blt_intb, blt_tupt, blt_tupl, blt_lstt, blt_lstl, blt_max, blt_min, slice_tup, slice_lst, List.length_cons, List.length_nil, Nat.reduceAdd, Nat.reduceLeDiff, ↓reduceIte, reduceCtorEq, Bool.false_eq_true, Bool.not_true, Bool.not_false, Bool.not_eq_true, decide_eq_true_eq, decide_not, Bool.not_eq_eq_eq_not, maxl_num, Int.reduceEq, Int.reduceLT, Int.reduceLE, Int.reduceNeg, Int.reduceToNat, decide_true, decide_false, Bool.true_and, Bool.false_and, Bool.and_true, Bool.and_false, Bool.not_true, Bool.not_false, not_true_eq_false, not_false_eq_true, Nat.reduceEqDiff, nc0, nc1, nc2, nc3, nc4, nc5, nc6, nc7, nc8, nc9, nc10, nc11, nc12, g0, g1, g2, g3, g4, callAt, callLow, CLk, told_ok, told_x0, told_x1, told_x2, told_x3, told_x4]) (by simp (disch := first | omega | assumption | (simp only [List.length_cons, List.length_nil, List.length_append, List.length_replicate, List.length_take, List.length_drop]; omega)) only [den, dens, deno, denc, deni, denS, denSs, fin_nx, fin_rt, Res.bind_ok, Res.bind_exc, truth, partD, getV, setV, setAll, storeT, wipeV, binD_add, binD_sub, binD_mul, binD_fdiv, binD_mod, cmp_lt, cmp_le, cmp_gt, cmp_ge, cmp_eqi, cmp_nei, cmp_eqb, cmp_neb, cmp_eqs, cmp_nes, cmp_is, cmp_isNot, isn_int, isn_non, isn_tup, isn_lst, isn_str, isTy, isFn, ix0, ix1, ix2, ix3, ix4, ix5, ixm1, blt_lenc, blt_lent, blt_lenl, blt_lens, blt_abs, blt_inti, blt_intb, blt_tupt, blt_tupl, blt_lstt, blt_lstl, blt_max, blt_min, slice_tup, slice_lst, List.length_cons, List.length_nil, Nat.reduceAdd, Nat.reduceLeDiff, ↓reduceIte, reduceCtorEq, Bool.false_eq_true, Bool.not_true, Bool.not_false, Bool.not_eq_true, decide_eq_true_eq, decide_not, Bool.not_eq_eq_eq_not, maxl_num, Int.reduceEq, Int.reduceLT, Int.reduceLE, Int.reduceNeg, Int.reduceToNat, decide_true, decide_false, Bool.true_and, Bool.false_and, Bool.and_true, Bool.and_false, Bool.not_true, Bool.not_false, not_true_eq_false, not_false_eq_true, Nat.reduceEqDiff, nc0, nc1, nc2, nc3, nc4, nc5, nc6, nc7, nc8, nc9, nc10, nc11, nc12, g0, g1, g2, g3, g4, callAt, callLow, CLk, told_ok, told_x0, told_x1, told_x2, told_x3, told_x4])) (ox_ (by rw [denS])))
  · rw [if_neg hb]
    refine sif_ (den_andT (by simp (disch := first | omega | assumption | (simp only [List.length_cons, List.length_nil, List.length_append, List.length_replicate, List.length_take, List.length_drop]; omega)) only [den, dens, deno, denc, deni, denS, denSs, fin_nx, fin_rt, Res.bind_ok, Res.bind_exc, truth, partD, getV, setV, setAll, storeT, wipeV, binD_add, binD_sub, binD_mul, binD_fdiv, binD_mod, cmp_lt, cmp_le, cmp_gt, cmp_ge, cmp_eqi, cmp_nei, cmp_eqb, cmp_neb, cmp_eqs, cmp_nes, cmp_is, cmp_isNot, isn_int, isn_non, isn_tup, isn_lst, isn_str, isTy, isFn, ix0, ix1, ix2, ix3, ix4, ix5, ixm1, blt_lenc, blt_lent, blt_lenl, blt_lens, blt_abs, blt_inti, blt_intb, blt_tupt, blt_tupl, blt_lstt, blt_lstl, blt_max, blt_min, slice_tup, slice_lst, List.length_cons, List.length_nil, Nat.reduceAdd, Nat.reduceLeDiff, ↓reduceIte, reduceCtorEq, Bool.false_eq_true, Bool.not_true, Bool.not_false, Bool.not_eq_true, decide_eq_true_eq, decide_not, Bool.not_eq_eq_eq_not, maxl_num, Int.reduceEq, Int.reduceLT, Int.reduceLE, Int.reduceNeg, Int.reduceToNat, decide_true, decide_false, Bool.true_and, Bool.false_and, Bool.and_true, Bool.and_false, Bool.not_true, Bool.not_false, not_true_eq_false, not_false_eq_true, Nat.reduceEqDiff, nc0, nc1, nc2, nc3, nc4, nc5, nc6, nc7, nc8, nc9, nc10, nc11, nc12, g0, g1, g2, g3, g4, callAt, callLow, CLk, told_ok, told_x0, told_x1, told_x2, told_x3, told_x4]) (by simp (disch := first | omega | assumption | (simp only [List.length_cons, List.length_nil, List.length_append, List.length_replicate, List.length_take, List.length_drop]; omega)) only [den, dens, deno, denc, deni, denS, denSs, fin_nx, fin_rt, Res.bind_ok, Res.bind_exc, truth, partD, getV, setV, setAll, storeT, wipeV, binD_add, binD_sub, binD_mul, binD_fdiv, binD_mod, cmp_lt, cmp_le, cmp_gt, cmp_ge, cmp_eqi, cmp_nei, cmp_eqb, cmp_neb, cmp_eqs, cmp_nes, cmp_is, cmp_isNot, isn_int, isn_non, isn_tup, isn_lst, isn_str, isTy, isFn, ix0, ix1, ix2, ix3, ix4, ix5, ixm1, blt_lenc, blt_lent, blt_lenl, blt_lens, blt_abs, blt_inti, blt_intb, blt_tupt, blt_tupl, blt_lstt, blt_lstl, blt_max, blt_min, slice_tup, slice_lst, List.length_cons, List.length_nil, Nat.reduceAdd, Nat.reduceLeDiff, ↓reduceIte, reduceCtorEq, Bool.false_eq_true, Bool.not_true, Bool.not_false, Bool.not_eq_true, decide_eq_true_eq, decide_not, Bool.not_eq_eq_eq_not, maxl_num, Int.reduceEq, Int.reduceLT, Int.reduceLE, Int.reduceNeg, Int.reduceToNat, decide_true, decide_false, Bool.true_and, Bool.false_and, Bool.and_true, Bool.and_false, Bool.not_true, Bool.not_false, not_true_eq_false, not_false_eq_true, Nat.reduceEqDiff, nc0, nc1, nc2, nc3, nc4, nc5, nc6, nc7, nc8, nc9, nc10, nc11, nc12, g0, g1, g2, g3, g4, callAt, callLow, CLk, told_ok, told_x0, told_x1, told_x2, told_x3, told_x4, hb])) ?_
    have bl : bltD .len [.str b] = .ok (.int b.length) := blt_lens (by omega)
    have ba : binD .add (.str a) (.str b) = .ok (.str (a ++ b)) := binD_str (by omega)
    cases hw : wholeV (a ++ b) 20 with
    | none =>
      rw [hw] at wo
      have wo : C k 7 [.str (a ++ b), .int 20] = .exc 1 := wo
      exact sx_ (by simp (disch := first | omega | assumption | (simp only [List.length_cons, List.length_nil, List.length_append, List.length_replicate, List.length_take, List.length_drop]; omega)) only [den, dens, deno, denc, deni, denS, denSs, fin_nx, fin_rt, Res.bind_ok, Res.bind_exc, truth, partD, getV, setV, setAll, storeT, wipeV, binD_add, binD_sub, binD_mul, binD_fdiv, binD_mod, cmp_lt, cmp_le, cmp_gt, cmp_ge, cmp_eqi, cmp_nei, cmp_eqb, cmp_neb, cmp_eqs, cmp_nes, cmp_is, cmp_isNot, isn_int, isn_non, isn_tup, isn_lst, isn_str, isTy, isFn, ix0, ix1, ix2, ix3, ix4, ix5, ixm1, blt_lenc, blt_lent, blt_lenl, blt_lens, blt_abs, blt_inti, blt_intb, blt_tupt, blt_tupl, blt_lstt, blt_lstl, blt_max, blt_min, slice_tup, slice_lst, List.length_cons, List.length_nil, Nat.reduceAdd, Nat.reduceLeDiff, ↓reduceIte, reduceCtorEq, Bool.false_eq_true, Bool.not_true, Bool.not_false, Bool.not_eq_true, decide_eq_true_eq, decide_not, Bool.not_eq_eq_eq_not, maxl_num, Int.reduceEq, Int.reduceLT, Int.reduceLE, Int.reduceNeg, Int.reduceToNat, decide_true, decide_false, Bool.true_and, Bool.false_and, Bool.and_true, Bool.and_false, Bool.not_true, Bool.not_false, not_true_eq_false, not_false_eq_true, Nat.reduceEqDiff, nc0, nc1, nc2, nc3, nc4, nc5, nc6, nc7, nc8, nc9, nc10, nc11, nc12, g0, g1, g2, g3, g4, callAt, callLow, CLk, told_ok, told_x0, told_x1, told_x2, told_x3, told_x4, ba, wo])
    | some w =>
      rw [hw] at wo
      have wo : C k 7 [.str (a ++ b), .int 20] = .ok (.int w) := wo
      exact st_ (by simp (disch := first | omega | assumption | (simp only [List.length_cons, List.length_nil, List.length_append, List.length_replicate, List.length_take, List.length_drop]; omega)) only [den, dens, deno, denc, deni, denS, denSs, fin_nx, fin_rt, Res.bind_ok, Res.bind_exc, truth, partD, getV, setV, setAll, storeT, wipeV, binD_add, binD_sub, binD_mul, binD_fdiv, binD_mod, cmp_lt, cmp_le, cmp_gt, cmp_ge, cmp_eqi, cmp_nei, cmp_eqb, cmp_neb, cmp_eqs, cmp_nes, cmp_is, cmp_isNot, isn_int, isn_non, isn_tup, isn_lst, isn_str, isTy, isFn, ix0, ix1, ix2, ix3, ix4, ix5, ixm1, blt_lenc, blt_lent, blt_lenl, blt_lens, blt_abs, blt_inti, blt_intb, blt_tupt, blt_tupl, blt_lstt, blt_lstl, blt_max, blt_min, slice_tup, slice_lst, List.length_cons, List.length_nil, Nat.reduceAdd, Nat.reduceLeDiff, ↓reduceIte, reduceCtorEq, Bool.false_eq_true, Bool.not_true, Bool.not_false, Bool.not_eq_true, decide_eq_true_eq, decide_not, Bool.not_eq_eq_eq_not, maxl_num, Int.reduceEq, Int.reduceLT, Int.reduceLE, Int.reduceNeg, Int.reduceToNat, decide_true, decide_false, Bool.true_and, Bool.false_and, Bool.and_true, Bool.and_false, Bool.not_true, Bool.not_false, not_true_eq_false, not_false_eq_true, Nat.reduceEqDiff, nc0, nc1, nc2, nc3, nc4, nc5, nc6, nc7, nc8, nc9, nc10, nc11, nc12, g0, g1, g2, g3, g4, callAt, callLow, CLk, told_ok, told_x0, told_x1, told_x2, told_x3, told_x4, ba, wo] <;> rfl) (st_ (by simp (disch := first | omega | assumption | (simp only [List.length_cons, List.length_nil, List.length_append, List.length_replicate, List.length_take, List.length_drop]; omega)) only [den, dens, deno, denc, deni, denS, denSs, fin_nx, fin_rt, Res.bind_ok, Res.bind_exc, truth, partD, getV, setV, setAll, storeT, wipeV, binD_add, binD_sub, binD_mul, binD_fdiv, binD_mod, cmp_lt, cmp_le, cmp_gt, cmp_ge, cmp_eqi, cmp_nei, cmp_eqb, cmp_neb, cmp_eqs, cmp_nes, cmp_is, cmp_isNot, isn_int, isn_non, isn_tup, isn_lst, isn_str, isTy, isFn, ix0, ix1, ix2, ix3, ix4, ix5, ixm1, blt_lenc, blt_lent, blt_lenl, blt_lens, blt_abs, blt_inti, blt_intb, blt_tupt, blt_tupl, blt_lstt, blt_lstl, blt_max, blt_min, slice_tup, slice_lst, List.length_cons, List.length_nil, Nat.reduceAdd, Nat.reduceLeDiff, ↓reduceIte, reduceCtorEq, Bool.false_eq_true, Bool.not_true, Bool.not_false, Bool.not_eq_true, decide_eq_true_eq, decide_not, Bool.not_eq_eq_eq_not, maxl_num, Int.reduceEq, Int.reduceLT, Int.reduceLE, Int.reduceNeg, Int.reduceToNat, decide_true, decide_false, Bool.true_and, Bool.false_and, Bool.and_true, Bool.and_false, Bool.not_true, Bool.not_false, not_true_eq_false, not_false_eq_true, Nat.reduceEqDiff, nc0, nc1, nc2, nc3, nc4, nc5, nc6, nc7, nc8, nc9, nc10, nc11, nc12, g0, g1, g2, g3, g4, callAt, callLow, CLk, told_ok, told_x0, told_x1, told_x2, told_x3, told_x4, bl] <;> rfl) (pe _ w))
theorem fromP_no {k : Nat} (hk : 2 ≤ k) {t : List Nat} (h : 46 ∉ t) (hl : t.length ≤ 500) : C k 8 [.str t] = optP ((wholeV t 20).map fun w => tidyV w 0) := by
  obtain ⟨k, rfl⟩ : ∃ j, k = j + 1 := ⟨k - 1, by omega⟩
  have pa := part_no h (by omega)
  have mp := mthTy_part t
  have wo := wholeOf (k := k) (by omega) t 20 (by omega) (by omega)
  rw [c8]
  have pe := fun t w => plainEnd (k := k) t t (.pu (.str [])) (.pu (.str [])) w 0
  unfold B8 at pe ⊢
  have p1 : (denS (CL k) (glOf GS) (.set (.tup [1, 2, 3]) (.meth .partition (.var 0) (.cons (.lit (.str [46])) .nil))) [.pu (.str t), .un, .un, .un, .un, .un]) = .ok (.nx [.pu (.str t), .pu (.str t), .pu (.str []), .pu (.str []), .un, .un]) := by simp (disch := first | omega | assumption | (simp only [List.length_cons, List.length_nil, List.length_append, List.length_replicate, List.length_take, List.length_drop]; omega)) only [den, dens, deno, denc, deni, denS, denSs, fin_nx, fin_rt, Res.bind_ok, Res.bind_exc, truth, partD, getV, setV, setAll, storeT, wipeV, binD_add, binD_sub, binD_mul, binD_fdiv, binD_mod, cmp_lt, cmp_le, cmp_gt, cmp_ge, cmp_eqi, cmp_nei, cmp_eqb, cmp_neb, cmp_eqs, cmp_nes, cmp_is, cmp_isNot, isn_int, isn_non, isn_tup, isn_lst, isn_str, isTy, isFn, ix0, ix1, ix2, ix3, ix4, ix5, ixm1, blt_lenc, blt_lent, blt_lenl, blt_lens, blt_abs, blt_inti, blt_intb, blt_tupt, blt_tupl, blt_lstt, blt_lstl, blt_max, blt_min, slice_tup, slice_lst, List.length_cons, List.length_nil, Nat.reduceAdd, Nat.reduceLeDiff, ↓reduceIte, reduceCtorEq, Bool.false_eq_true, Bool.not_true, Bool.not_false, Bool.not_eq_true, decide_eq_true_eq, decide_not, Bool.not_eq_eq_eq_not, maxl_num, Int.reduceEq, Int.reduceLT, Int.reduceLE, Int.reduceNeg, Int.reduceToNat, decide_true, decide_false, Bool.true_and, Bool.false_and, Bool.and_true, Bool.and_false, Bool.not_true, Bool.not_false, not_true_eq_false, not_false_eq_true, Nat.reduceEqDiff, nc0, nc1, nc2, nc3, nc4, nc5, nc6, nc7, nc8, nc9, nc10, nc11, nc12, g0, g1, g2, g3, g4, callAt, callLow, CLk, told_ok, told_x0, told_x1, told_x2, told_x3, told_x4, mp, pa] <;> rfl
  refine st_ p1 (sif_ (den_andF (by simp (disch := first | omega | assumption | (simp only [List.length_cons, List.length_nil, List.length_append, List.length_replicate, List.length_take, List.length_drop]; omega)) only [den, dens, deno, denc, deni, denS, denSs, fin_nx, fin_rt, Res.bind_ok, Res.bind_exc, truth, partD, getV, setV, setAll, storeT, wipeV, binD_add, binD_sub, binD_mul, binD_fdiv, binD_mod, cmp_lt, cmp_le, cmp_gt, cmp_ge, cmp_eqi, cmp_nei, cmp_eqb, cmp_neb, cmp_eqs, cmp_nes, cmp_is, cmp_isNot, isn_int, isn_non, isn_tup, isn_lst, isn_str, isTy, isFn, ix0, ix1, ix2, ix3, ix4, ix5, ixm1, blt_lenc, blt_lent, blt_lenl, blt_lens, blt_abs, blt_inti, blt_intb, blt_tupt, blt_tupl, blt_lstt, blt_lstl, blt_max, blt_min, slice_tup, slice_lst, List.length_cons, List.length_nil, Nat.reduceAdd, Nat.reduceLeDiff, ↓reduceIte, reduceCtorEq, Bool.false_eq_true, Bool.not_true, Bool.not_false, Bool.not_eq_true, decide_eq_true_eq, decide_not, Bool.not_eq_eq_eq_not, maxl_num, Int.reduceEq, Int.reduceLT, Int.reduceLE, Int.reduceNeg, Int.reduceToNat, decide_true, decide_false, Bool.true_and, Bool.false_and, Bool.and_true, Bool.and_false, Bool.not_true, Bool.not_false, not_true_eq_false, not_false_eq_true, Nat.reduceEqDiff, nc0, nc1, nc2, nc3, nc4, nc5, nc6, nc7, nc8, nc9, nc10, nc11, nc12, g0, g1, g2, g3, g4, callAt, callLow, CLk, told_ok, told_x0, told_x1, told_x2, told_x3, told_x4])) ?_)
  have ba : binD .add (.str t) (.str []) = .ok (.str t) := by rw [binD_str (by rw [List.length_nil]; omega), List.append_nil]
  cases hw : wholeV t 20 with
  | none =>
    rw [hw] at wo
    have wo : C k 7 [.str t, .int 20] = .exc 1 := wo
    exact sx_ (by simp (disch := first | omega | assumption | (simp only [List.length_cons, List.length_nil, List.length_append, List.length_replicate, List.length_take, List.length_drop]; omega)) only [den, dens, deno, denc, deni, denS, denSs, fin_nx, fin_rt, Res.bind_ok, Res.bind_exc, truth, partD, getV, setV, setAll, storeT, wipeV, binD_add, binD_sub, binD_mul, binD_fdiv, binD_mod, cmp_lt, cmp_le, cmp_gt, cmp_ge, cmp_eqi, cmp_nei, cmp_eqb, cmp_neb, cmp_eqs, cmp_nes, cmp_is, cmp_isNot, isn_int, isn_non, isn_tup, isn_lst, isn_str, isTy, isFn, ix0, ix1, ix2, ix3, ix4, ix5, ixm1, blt_lenc, blt_lent, blt_lenl, blt_lens, blt_abs, blt_inti, blt_intb, blt_tupt, blt_tupl, blt_lstt, blt_lstl, blt_max, blt_min, slice_tup, slice_lst, List.length_cons, List.length_nil, Nat.reduceAdd, Nat.reduceLeDiff, ↓reduceIte, reduceCtorEq, Bool.false_eq_true, Bool.not_true, Bool.not_false, Bool.not_eq_true, decide_eq_true_eq, decide_not, Bool.not_eq_eq_eq_not, maxl_num, Int.reduceEq, Int.reduceLT, Int.reduceLE, Int.reduceNeg, Int.reduceToNat, decide_true, decide_false, Bool.true_and, Bool.false_and, Bool.and_true, Bool.and_false, Bool.not_true, Bool.not_false, not_true_eq_false, not_false_eq_true, Nat.reduceEqDiff, nc0, nc1, nc2, nc3, nc4, nc5, nc6, nc7, nc8, nc9, nc10, nc11, nc12, g0, g1, g2, g3, g4, callAt, callLow, CLk, told_ok, told_x0, told_x1, told_x2, told_x3, told_x4, ba, wo])
  | some w =>
    rw [hw] at wo
    have wo : C k 7 [.str t, .int 20] = .ok (.int w) := wo
    exact st_ (by simp (disch := first | omega | assumption | (simp only [List.length_cons, List.length_nil, List.length_append, List.length_replicate, List.length_take, List.length_drop]; omega)) only [den, dens, deno, denc, deni, denS, denSs, fin_nx, fin_rt, Res.bind_ok, Res.bind_exc, truth, partD, getV, setV, setAll, storeT, wipeV, binD_add, binD_sub, binD_mul, binD_fdiv, binD_mod, cmp_lt, cmp_le, cmp_gt, cmp_ge, cmp_eqi, cmp_nei, cmp_eqb, cmp_neb, cmp_eqs, cmp_nes, cmp_is, cmp_isNot, isn_int, isn_non, isn_tup, isn_lst, isn_str, isTy, isFn, ix0, ix1, ix2, ix3, ix4, ix5, ixm1, blt_lenc, blt_lent, blt_lenl, blt_lens, blt_abs, blt_inti, blt_intb, blt_tupt, blt_tupl, blt_lstt, blt_lstl, blt_max, blt_min, slice_tup, slice_lst, List.length_cons, List.length_nil, Nat.reduceAdd, Nat.reduceLeDiff, ↓reduceIte, reduceCtorEq, Bool.false_eq_true, Bool.not_true, Bool.not_false, Bool.not_eq_true, decide_eq_true_eq, decide_not, Bool.not_eq_eq_eq_not, maxl_num, Int.reduceEq, Int.reduceLT, Int.reduceLE, Int.reduceNeg, Int.reduceToNat, decide_true, decide_false, Bool.true_and, Bool.false_and, Bool.and_true, Bool.and_false, Bool.not_true, Bool.not_false, not_true_eq_false, not_false_eq_true, Nat.reduceEqDiff, nc0, nc1, nc2, nc3, nc4, nc5, nc6, nc7, nc8, nc9, nc10, nc11, nc12, g0, g1, g2, g3, g4, callAt, callLow, CLk, told_ok, told_x0, told_x1, told_x2, told_x3, told_x4, ba, wo] <;> rfl) (st_ (by simp (disch := first | omega | assumption | (simp only [List.length_cons, List.length_nil, List.length_append, List.length_replicate, List.length_take, List.length_drop]; omega)) only [den, dens, deno, denc, deni, denS, denSs, fin_nx, fin_rt, Res.bind_ok, Res.bind_exc, truth, partD, getV, setV, setAll, storeT, wipeV, binD_add, binD_sub, binD_mul, binD_fdiv, binD_mod, cmp_lt, cmp_le, cmp_gt, cmp_ge, cmp_eqi, cmp_nei, cmp_eqb, cmp_neb, cmp_eqs, cmp_nes, cmp_is, cmp_isNot, isn_int, isn_non, isn_tup, isn_lst, isn_str, isTy, isFn, ix0, ix1, ix2, ix3, ix4, ix5, ixm1, blt_lenc, blt_lent, blt_lenl, blt_lens, blt_abs, blt_inti, blt_intb, blt_tupt, blt_tupl, blt_lstt, blt_lstl, blt_max, blt_min, slice_tup, slice_lst, List.length_cons, List.length_nil, Nat.reduceAdd, Nat.reduceLeDiff, ↓reduceIte, reduceCtorEq, Bool.false_eq_true, Bool.not_true, Bool.not_false, Bool.not_eq_true, decide_eq_true_eq, decide_not, Bool.not_eq_eq_eq_not, maxl_num, Int.reduceEq, Int.reduceLT, Int.reduceLE, Int.reduceNeg, Int.reduceToNat, decide_true, decide_false, Bool.true_and, Bool.false_and, Bool.and_true, Bool.and_false, Bool.not_true, Bool.not_false, not_true_eq_false, not_false_eq_true, Nat.reduceEqDiff, nc0, nc1, nc2, nc3, nc4, nc5, nc6, nc7, nc8, nc9, nc10, nc11, nc12, g0, g1, g2, g3, g4, callAt, callLow, CLk, told_ok, told_x0, told_x1, told_x2, told_x3, told_x4] <;> rfl) (pe _ w))
/-! read -/
def filt (t : List Nat) (o : Option (Int × Int)) : Option (Int × Int) := match o with
  | some g => if Numb g.1 g.2 ∧ textT g.1 g.2 = t then some g else none
  | none => none
def FB (g : Int × Int) : Prop := (-100000000000000000000 < g.1 ∧ g.1 < 100000000000000000000) ∧ -3000 < g.2 ∧ g.2 < 3000
theorem b20 : (100000000000000000000 : Int) < BIG := by unfold BIG; decide +kernel
theorem tidyV_bd {w q : Int} (h : -100000000000000000000 < w ∧ w < 100000000000000000000) (hq : -1000 ≤ q ∧ q ≤ 1000) : -100000000000000000000 < (tidyV w q).1 ∧ (tidyV w q).1 < 100000000000000000000 ∧ -1500 < (tidyV w q).2 ∧ (tidyV w q).2 < 2000 := by
  unfold tidyV
  by_cases z : w = 0
  · rw [if_pos z]
    refine ⟨?_, ?_, ?_, ?_⟩ <;> (show _ < _) <;> simp
  · rw [if_neg z]
    have bb := b20
    obtain ⟨s1, s2, s3, s4, s5, s6, s7⟩ := stripN_ok w.natAbs w q z (Nat.le_refl _) (by omega)
    change q ≤ (strip w q).2 at s3
    change (strip w q).1.natAbs ≤ w.natAbs at s6
    change (strip w q).2 + fig (strip w q).1 = _ at s5
    have f1 := fig_ok (a := w) ⟨by omega, by omega⟩
    have f2 := fig_ok (a := (strip w q).1) ⟨by omega, by omega⟩
    generalize (strip w q).1 = a at *
    generalize (strip w q).2 = b at *
    refine ⟨?_, ?_, ?_, ?_⟩ <;> omega
theorem readFin {k : Nat} (hk : 3 ≤ k) (t : List Nat) (p s h : SV) {g : Int × Int} (b : FB g) :
    (denSs (CL k) (glOf GS) (match B9 with | .cons _ (.cons _ (.cons _ (.cons _ r))) => r | _ => .nil) [.pu (.str t), p, s, h, .pu (nD g)]).bind fin = optP (filt t (some g)) := by
  obtain ⟨⟨b1, b2⟩, b3, b4⟩ := b
  have bb := b20
  have isn := isnumber (k := k) hk (d := nD g) (by
    unfold nD
    simp only [Fine, FineI, List.forall_mem_cons, List.not_mem_nil, false_imp_iff, implies_true, and_true]
    omega)
  have nb : numB (nD g) = decide (Numb g.1 g.2) := rfl
  rw [nb] at isn
  have wr := written (k := k) hk (a := g.1) (b := g.2) ⟨by omega, by omega⟩ ⟨by omega, by omega⟩
  have wr : C k 6 [nD g] = .ok (.str (textT g.1 g.2)) := wr
  unfold B9
  have ef : optP (filt t (some g)) = if Numb g.1 g.2 ∧ textT g.1 g.2 = t then .ok (nD g) else .exc 1 := by
    show optP (if Numb g.1 g.2 ∧ textT g.1 g.2 = t then some g else none) = _
    split <;> rfl
  rw [ef]
  generalize nD g = d at *
  by_cases c1 : Numb g.1 g.2
  · rw [decide_eq_true c1] at isn
    by_cases c2 : textT g.1 g.2 = t
    · rw [if_pos ⟨c1, c2⟩]
      exact sif_ (den_orF (by simp (disch := first | omega | assumption | (simp only [List.length_cons, List.length_nil, List.length_append, List.length_replicate, List.length_take, List.length_drop]; omega)) only [den, dens, deno, denc, deni, denS, denSs, fin_nx, fin_rt, Res.bind_ok, Res.bind_exc, truth, partD, getV, setV, setAll, storeT, wipeV, binD_add, binD_sub, binD_mul, binD_fdiv, binD_mod, cmp_lt, cmp_le, cmp_gt, cmp_ge, cmp_eqi, cmp_nei, cmp_eqb, cmp_neb, cmp_eqs, cmp_nes, cmp_is, cmp_isNot, isn_int, isn_non, isn_tup, isn_lst, isn_str, isTy, isFn, ix0, ix1, ix2, ix3, ix4, ix5, ixm1, blt_lenc, blt_lent, blt_lenl, blt_lens, blt_abs, blt_inti, blt_intb, blt_tupt, blt_tupl, blt_lstt, blt_lstl, blt_max, blt_min, slice_tup, slice_lst, List.length_cons, List.length_nil, Nat.reduceAdd, Nat.reduceLeDiff, ↓reduceIte, reduceCtorEq, Bool.false_eq_true, Bool.not_true, Bool.not_false, Bool.not_eq_true, decide_eq_true_eq, decide_not, Bool.not_eq_eq_eq_not, maxl_num, Int.reduceEq, Int.reduceLT, Int.reduceLE, Int.reduceNeg, Int.reduceToNat, decide_true, decide_false, Bool.true_and, Bool.false_and, Bool.and_true, Bool.and_false, Bool.not_true, Bool.not_false, not_true_eq_false, not_false_eq_true, Nat.reduceEqDiff, nc0, nc1, nc2, nc3, nc4, nc5, nc6, nc7, nc8, nc9, nc10, nc11, nc12, g0, g1, g2, g3, g4, callAt, callLow, CLk, told_ok, told_x0, told_x1, told_x2, told_x3, told_x4, isn]) (by simp (disch := first | omega | assumption | (simp only [List.length_cons, List.length_nil, List.length_append, List.length_replicate, List.length_take, List.length_drop]; omega)) only [den, dens, deno, denc, deni, denS, denSs, fin_nx, fin_rt, Res.bind_ok, Res.bind_exc, truth, partD, getV, setV, setAll, storeT, wipeV, binD_add, binD_sub, binD_mul, binD_fdiv, binD_mod, cmp_lt, cmp_le, cmp_gt, cmp_ge, cmp_eqi, cmp_nei, cmp_eqb, cmp_neb, cmp_eqs, cmp_nes, cmp_is, cmp_isNot, isn_int, isn_non, isn_tup, isn_lst, isn_str, isTy, isFn, ix0, ix1, ix2, ix3, ix4, ix5, ixm1, blt_lenc, blt_lent, blt_lenl, blt_lens, blt_abs, blt_inti, blt_intb, blt_tupt, blt_tupl, blt_lstt, blt_lstl, blt_max, blt_min, slice_tup, slice_lst, List.length_cons, List.length_nil, Nat.reduceAdd, Nat.reduceLeDiff, ↓reduceIte, reduceCtorEq, Bool.false_eq_true, Bool.not_true, Bool.not_false, Bool.not_eq_true, decide_eq_true_eq, decide_not, Bool.not_eq_eq_eq_not, maxl_num, Int.reduceEq, Int.reduceLT, Int.reduceLE, Int.reduceNeg, Int.reduceToNat, decide_true, decide_false, Bool.true_and, Bool.false_and, Bool.and_true, Bool.and_false, Bool.not_true, Bool.not_false, not_true_eq_false, not_false_eq_true, Nat.reduceEqDiff, nc0, nc1, nc2, nc3, nc4, nc5, nc6, nc7, nc8, nc9, nc10, nc11, nc12, g0, g1, g2, g3, g4, callAt, callLow, CLk, told_ok, told_x0, told_x1, told_x2, told_x3, told_x4, wr, c2, decide_true])) (sr_ (by simp (disch := first | omega | assumption | (simp only [List.length_cons, List.length_nil, List.length_append, List.length_replicate, List.length_take, List.length_drop]; omega)) only [den, dens, deno, denc, deni, denS, denSs, fin_nx, fin_rt, Res.bind_ok, Res.bind_exc, truth, partD, getV, setV, setAll, storeT, wipeV, binD_add, binD_sub, binD_mul, binD_fdiv, binD_mod, cmp_lt, cmp_le, cmp_gt, cmp_ge, cmp_eqi, cmp_nei, cmp_eqb, cmp_neb, cmp_eqs, cmp_nes, cmp_is, cmp_isNot, isn_int, isn_non, isn_tup, isn_lst, isn_str, isTy, isFn, ix0, ix1, ix2, ix3, ix4, ix5, ixm1, blt_lenc, blt_lent, blt_lenl, blt_lens, blt_abs, blt_inti, blt_intb, blt_tupt, blt_tupl, blt_lstt, blt_lstl, blt_max, blt_min, slice_tup, slice_lst, List.length_cons, List.length_nil, Nat.reduceAdd, Nat.reduceLeDiff, ↓reduceIte, reduceCtorEq, Bool.false_eq_true, Bool.not_true, Bool.not_false, Bool.not_eq_true, decide_eq_true_eq, decide_not, Bool.not_eq_eq_eq_not, maxl_num, Int.reduceEq, Int.reduceLT, Int.reduceLE, Int.reduceNeg, Int.reduceToNat, decide_true, decide_false, Bool.true_and, Bool.false_and, Bool.and_true, Bool.and_false, Bool.not_true, Bool.not_false, not_true_eq_false, not_false_eq_true, Nat.reduceEqDiff, nc0, nc1, nc2, nc3, nc4, nc5, nc6, nc7, nc8, nc9, nc10, nc11, nc12, g0, g1, g2, g3, g4, callAt, callLow, CLk, told_ok, told_x0, told_x1, told_x2, told_x3, told_x4] <;> rfl))
    · rw [if_neg (fun z => c2 z.2)]
      exact sx_ (oit_ (den_orF (by simp (disch := first | omega | assumption | (simp only [List.length_cons, List.length_nil, List.length_append, List.length_replicate, List.length_take, List.length_drop]; omega)) only [den, dens, deno, denc, deni, denS, denSs, fin_nx, fin_rt, Res.bind_ok, Res.bind_exc, truth, partD, getV, setV, setAll, storeT, wipeV, binD_add, binD_sub, binD_mul, binD_fdiv, binD_mod, cmp_lt, cmp_le, cmp_gt, cmp_ge, cmp_eqi, cmp_nei, cmp_eqb, cmp_neb, cmp_eqs, cmp_nes, cmp_is, cmp_isNot, isn_int, isn_non, isn_tup, isn_lst, isn_str, isTy, isFn, ix0, ix1, ix2, ix3, ix4, ix5, ixm1, blt_lenc, blt_lent, blt_lenl, blt_lens, blt_abs, blt_inti, blt_intb, blt_tupt, blt_tupl, blt_lstt, blt_lstl, blt_max, blt_min, slice_tup, slice_lst, List.length_cons, List.length_nil, Nat.reduceAdd, Nat.reduceLeDiff, ↓reduceIte, reduceCtorEq, Bool.false_eq_true, Bool.not_true, Bool.not_false, Bool.not_eq_true, decide_eq_true_eq, decide_not, Bool.not_eq_eq_eq_not, maxl_num, Int.reduceEq, Int.reduceLT, Int.reduceLE, Int.reduceNeg, Int.reduceToNat, decide_true, decide_false, Bool.true_and, Bool.false_and, Bool.and_true, Bool.and_false, Bool.not_true, Bool.not_false, not_true_eq_false, not_false_eq_true, Nat.reduceEqDiff, nc0, nc1, nc2, nc3, nc4, nc5, nc6, nc7, nc8, nc9, nc10, nc11, nc12, g0, g1, g2, g3, g4, callAt, callLow, CLk, told_ok, told_x0, told_x1, told_x2, told_x3, told_x4, isn]) (by simp (disch := first | omega | assumption | (simp only [List.length_cons, List.length_nil, List.length_append, List.length_replicate, List.length_take, List.length_drop]; omega)) only [den, dens, deno, denc, deni, denS, denSs, fin_nx, fin_rt, Res.bind_ok, Res.bind_exc, truth, partD, getV, setV, setAll, storeT, wipeV, binD_add, binD_sub, binD_mul, binD_fdiv, binD_mod, cmp_lt, cmp_le, cmp_gt, cmp_ge, cmp_eqi, cmp_nei, cmp_eqb, cmp_neb, cmp_eqs, cmp_nes, cmp_is, cmp_isNot, isn_int, isn_non, isn_tup, isn_lst, isn_str, isTy, isFn, ix0, ix1, ix2, ix3, ix4, ix5, ixm1, blt_lenc, blt_lent, blt_lenl, blt_lens, blt_abs, blt_inti, blt_intb, blt_tupt, blt_tupl, blt_lstt, blt_lstl, blt_max, blt_min, slice_tup, slice_lst, List.length_cons, List.length_nil, Nat.reduceAdd, Nat.reduceLeDiff, ↓reduceIte, reduceCtorEq, Bool.false_eq_true, Bool.not_true, Bool.not_false, Bool.not_eq_true, decide_eq_true_eq, decide_not, Bool.not_eq_eq_eq_not, maxl_num, Int.reduceEq, Int.reduceLT, Int.reduceLE, Int.reduceNeg, Int.reduceToNat, decide_true, decide_false, Bool.true_and, Bool.false_and, Bool.and_true, Bool.and_false, Bool.not_true, Bool.not_false, not_true_eq_false, not_false_eq_true, Nat.reduceEqDiff, nc0, nc1, nc2, nc3, nc4, nc5, nc6, nc7, nc8, nc9, nc10, nc11, nc12, g0, g1, g2, g3, g4, callAt, callLow, CLk, told_ok, told_x0, told_x1, told_x2, told_x3, told_x4, wr, c2])) (ox_ (by rw [denS])))
  · rw [decide_eq_false c1] at isn
    rw [if_neg (fun z => c1 z.1)]
    exact sx_ (oit_ (den_orT (by simp (disch := first | omega | assumption | (simp only [List.length_cons, List.length_nil, List.length_append, List.length_replicate, List.length_take, List.length_drop]; omega)) only [den, dens, deno, denc, deni, denS, denSs, fin_nx, fin_rt, Res.bind_ok, Res.bind_exc, truth, partD, getV, setV, setAll, storeT, wipeV, binD_add, binD_sub, binD_mul, binD_fdiv, binD_mod, cmp_lt, cmp_le, cmp_gt, cmp_ge, cmp_eqi, cmp_nei, cmp_eqb, cmp_neb, cmp_eqs, cmp_nes, cmp_is, cmp_isNot, isn_int, isn_non, isn_tup, isn_lst, isn_str, isTy, isFn, ix0, ix1, ix2, ix3, ix4, ix5, ixm1, blt_lenc, blt_lent, blt_lenl, blt_lens, blt_abs, blt_inti, blt_intb, blt_tupt, blt_tupl, blt_lstt, blt_lstl, blt_max, blt_min, slice_tup, slice_lst, List.length_cons, List.length_nil, Nat.reduceAdd, Nat.reduceLeDiff, ↓reduceIte, reduceCtorEq, Bool.false_eq_true, Bool.not_true, Bool.not_false, Bool.not_eq_true, decide_eq_true_eq, decide_not, Bool.not_eq_eq_eq_not, maxl_num, Int.reduceEq, Int.reduceLT, Int.reduceLE, Int.reduceNeg, Int.reduceToNat, decide_true, decide_false, Bool.true_and, Bool.false_and, Bool.and_true, Bool.and_false, Bool.not_true, Bool.not_false, not_true_eq_false, not_false_eq_true, Nat.reduceEqDiff, nc0, nc1, nc2, nc3, nc4, nc5, nc6, nc7, nc8, nc9, nc10, nc11, nc12, g0, g1, g2, g3, g4, callAt, callLow, CLk, told_ok, told_x0, told_x1, told_x2, told_x3, told_x4, isn])) (ox_ (by rw [denS])))
theorem readW_at {k : Nat} (hk : 4 ≤ k) {p h : List Nat} (hp : 101 ∉ p) (hl : (p ++ 101 :: h).length ≤ 400) {F : Option (Int × Int)} (hF : ∀ j, 2 ≤ j → C j 8 [.str p] = optP F) (bF : ∀ f, F = some f → -100000000000000000000 < f.1 ∧ f.1 < 100000000000000000000 ∧ -1500 < f.2 ∧ f.2 < 2000) :
    C k 9 [.str (p ++ 101 :: h)] = optP (filt (p ++ 101 :: h) (F.bind fun f => (wholeV h 2).map fun v => (f.1, f.2 + v))) := by
  obtain ⟨k, rfl⟩ : ∃ j, k = j + 1 := ⟨k - 1, by omega⟩
  have pa := part_at (b := h) hp (by omega)
  have mp := mthTy_part (p ++ 101 :: h)
  have hF := hF k (by omega)
  simp only [List.length_append, List.length_cons] at hl
  have wo := wholeOf (k := k) (by omega) h 2 (by omega) (by omega)
  have rf := fun g b => readFin (k := k) (by omega) (p ++ 101 :: h) (.pu (.str p)) (.pu (.str [101])) (.pu (.str h)) (g := g) b
  rw [c9]
  unfold B9 at rf ⊢
  have p1 : (denS (CL k) (glOf GS) (.set (.tup [1, 2, 3]) (.meth .partition (.var 0) (.cons (.lit (.str [101])) .nil))) [.pu (.str (p ++ 101 :: h)), .un, .un, .un, .un]) = .ok (.nx [.pu (.str (p ++ 101 :: h)), .pu (.str p), .pu (.str [101]), .pu (.str h), .un]) := by simp (disch := first | omega | assumption | (simp only [List.length_cons, List.length_nil, List.length_append, List.length_replicate, List.length_take, List.length_drop]; omega)) only [den, dens, deno, denc, deni, denS, denSs, fin_nx, fin_rt, Res.bind_ok, Res.bind_exc, truth, partD, getV, setV, setAll, storeT, wipeV, binD_add, binD_sub, binD_mul, binD_fdiv, binD_mod, cmp_lt, cmp_le, cmp_gt, cmp_ge, cmp_eqi, cmp_nei, cmp_eqb, cmp_neb, cmp_eqs, cmp_nes, cmp_is, cmp_isNot, isn_int, isn_non, isn_tup, isn_lst, isn_str, isTy, isFn, ix0, ix1, ix2, ix3, ix4, ix5, ixm1, blt_lenc, blt_lent, blt_lenl, blt_lens, blt_abs, blt_inti, blt_intb, blt_tupt, blt_tupl, blt_lstt, blt_lstl, blt_max, blt_min, slice_tup, slice_lst, List.length_cons, List.length_nil, Nat.reduceAdd, Nat.reduceLeDiff, ↓reduceIte, reduceCtorEq, Bool.false_eq_true, Bool.not_true, Bool.not_false, Bool.not_eq_true, decide_eq_true_eq, decide_not, Bool.not_eq_eq_eq_not, maxl_num, Int.reduceEq, Int.reduceLT, Int.reduceLE, Int.reduceNeg, Int.reduceToNat, decide_true, decide_false, Bool.true_and, Bool.false_and, Bool.and_true, Bool.and_false, Bool.not_true, Bool.not_false, not_true_eq_false, not_false_eq_true, Nat.reduceEqDiff, nc0, nc1, nc2, nc3, nc4, nc5, nc6, nc7, nc8, nc9, nc10, nc11, nc12, g0, g1, g2, g3, g4, callAt, callLow, CLk, told_ok, told_x0, told_x1, told_x2, told_x3, told_x4, mp, pa] <;> rfl
  refine sif_ (by simp (disch := first | omega | assumption | (simp only [List.length_cons, List.length_nil, List.length_append, List.length_replicate, List.length_take, List.length_drop]; omega)) only [den, dens, deno, denc, deni, denS, denSs, fin_nx, fin_rt, Res.bind_ok, Res.bind_exc, truth, partD, getV, setV, setAll, storeT, wipeV, binD_add, binD_sub, binD_mul, binD_fdiv, binD_mod, cmp_lt, cmp_le, cmp_gt, cmp_ge, cmp_eqi, cmp_nei, cmp_eqb, cmp_neb, cmp_eqs, cmp_nes, cmp_is, cmp_isNot, isn_int, isn_non, isn_tup, isn_lst, isn_str, isTy, isFn, ix0, ix1, ix2, ix3, ix4, ix5, ixm1, blt_lenc, blt_lent, blt_lenl, blt_lens, blt_abs, blt_inti, blt_intb, blt_tupt, blt_tupl, blt_lstt, blt_lstl, blt_max, blt_min, slice_tup, slice_lst, List.length_cons, List.length_nil, Nat.reduceAdd, Nat.reduceLeDiff, ↓reduceIte, reduceCtorEq, Bool.false_eq_true, Bool.not_true, Bool.not_false, Bool.not_eq_true, decide_eq_true_eq, decide_not, Bool.not_eq_eq_eq_not, maxl_num, Int.reduceEq, Int.reduceLT, Int.reduceLE, Int.reduceNeg, Int.reduceToNat, decide_true, decide_false, Bool.true_and, Bool.false_and, Bool.and_true, Bool.and_false, Bool.not_true, Bool.not_false, not_true_eq_false, not_false_eq_true, Nat.reduceEqDiff, nc0, nc1, nc2, nc3, nc4, nc5, nc6, nc7, nc8, nc9, nc10, nc11, nc12, g0, g1, g2, g3, g4, callAt, callLow, CLk, told_ok, told_x0, told_x1, told_x2, told_x3, told_x4]) (st_ p1 ?_)
  cases F with
  | none =>
    have hF : C k 8 [.str p] = .exc 1 := hF
    exact sx_ (by simp (disch := first | omega | assumption | (simp only [List.length_cons, List.length_nil, List.length_append, List.length_replicate, List.length_take, List.length_drop]; omega)) only [den, dens, deno, denc, deni, denS, denSs, fin_nx, fin_rt, Res.bind_ok, Res.bind_exc, truth, partD, getV, setV, setAll, storeT, wipeV, binD_add, binD_sub, binD_mul, binD_fdiv, binD_mod, cmp_lt, cmp_le, cmp_gt, cmp_ge, cmp_eqi, cmp_nei, cmp_eqb, cmp_neb, cmp_eqs, cmp_nes, cmp_is, cmp_isNot, isn_int, isn_non, isn_tup, isn_lst, isn_str, isTy, isFn, ix0, ix1, ix2, ix3, ix4, ix5, ixm1, blt_lenc, blt_lent, blt_lenl, blt_lens, blt_abs, blt_inti, blt_intb, blt_tupt, blt_tupl, blt_lstt, blt_lstl, blt_max, blt_min, slice_tup, slice_lst, List.length_cons, List.length_nil, Nat.reduceAdd, Nat.reduceLeDiff, ↓reduceIte, reduceCtorEq, Bool.false_eq_true, Bool.not_true, Bool.not_false, Bool.not_eq_true, decide_eq_true_eq, decide_not, Bool.not_eq_eq_eq_not, maxl_num, Int.reduceEq, Int.reduceLT, Int.reduceLE, Int.reduceNeg, Int.reduceToNat, decide_true, decide_false, Bool.true_and, Bool.false_and, Bool.and_true, Bool.and_false, Bool.not_true, Bool.not_false, not_true_eq_false, not_false_eq_true, Nat.reduceEqDiff, nc0, nc1, nc2, nc3, nc4, nc5, nc6, nc7, nc8, nc9, nc10, nc11, nc12, g0, g1, g2, g3, g4, callAt, callLow, CLk, told_ok, told_x0, told_x1, told_x2, told_x3, told_x4, hF])
  | some f =>
    have hF : C k 8 [.str p] = .ok (nD f) := hF
    obtain ⟨u1, u2, u3, u4⟩ := bF f rfl
    refine st_ (by simp (disch := first | omega | assumption | (simp only [List.length_cons, List.length_nil, List.length_append, List.length_replicate, List.length_take, List.length_drop]; omega)) only [den, dens, deno, denc, deni, denS, denSs, fin_nx, fin_rt, Res.bind_ok, Res.bind_exc, truth, partD, getV, setV, setAll, storeT, wipeV, binD_add, binD_sub, binD_mul, binD_fdiv, binD_mod, cmp_lt, cmp_le, cmp_gt, cmp_ge, cmp_eqi, cmp_nei, cmp_eqb, cmp_neb, cmp_eqs, cmp_nes, cmp_is, cmp_isNot, isn_int, isn_non, isn_tup, isn_lst, isn_str, isTy, isFn, ix0, ix1, ix2, ix3, ix4, ix5, ixm1, blt_lenc, blt_lent, blt_lenl, blt_lens, blt_abs, blt_inti, blt_intb, blt_tupt, blt_tupl, blt_lstt, blt_lstl, blt_max, blt_min, slice_tup, slice_lst, List.length_cons, List.length_nil, Nat.reduceAdd, Nat.reduceLeDiff, ↓reduceIte, reduceCtorEq, Bool.false_eq_true, Bool.not_true, Bool.not_false, Bool.not_eq_true, decide_eq_true_eq, decide_not, Bool.not_eq_eq_eq_not, maxl_num, Int.reduceEq, Int.reduceLT, Int.reduceLE, Int.reduceNeg, Int.reduceToNat, decide_true, decide_false, Bool.true_and, Bool.false_and, Bool.and_true, Bool.and_false, Bool.not_true, Bool.not_false, not_true_eq_false, not_false_eq_true, Nat.reduceEqDiff, nc0, nc1, nc2, nc3, nc4, nc5, nc6, nc7, nc8, nc9, nc10, nc11, nc12, g0, g1, g2, g3, g4, callAt, callLow, CLk, told_ok, told_x0, told_x1, told_x2, told_x3, told_x4, hF] <;> rfl) ?_
    cases hw : wholeV h 2 with
    | none =>
      rw [hw] at wo
      have wo : C k 7 [.str h, .int 2] = .exc 1 := wo
      unfold nD
      exact sx_ (oit_ (by simp (disch := first | omega | assumption | (simp only [List.length_cons, List.length_nil, List.length_append, List.length_replicate, List.length_take, List.length_drop]; omega)) only [den, dens, deno, denc, deni, denS, denSs, fin_nx, fin_rt, Res.bind_ok, Res.bind_exc, truth, partD, getV, setV, setAll, storeT, wipeV, binD_add, binD_sub, binD_mul, binD_fdiv, binD_mod, cmp_lt, cmp_le, cmp_gt, cmp_ge, cmp_eqi, cmp_nei, cmp_eqb, cmp_neb, cmp_eqs, cmp_nes, cmp_is, cmp_isNot, isn_int, isn_non, isn_tup, isn_lst, isn_str, isTy, isFn, ix0, ix1, ix2, ix3, ix4, ix5, ixm1, blt_lenc, blt_lent, blt_lenl, blt_lens, blt_abs, blt_inti, blt_intb, blt_tupt, blt_tupl, blt_lstt, blt_lstl, blt_max, blt_min, slice_tup, slice_lst, List.length_cons, List.length_nil, Nat.reduceAdd, Nat.reduceLeDiff, ↓reduceIte, reduceCtorEq, Bool.false_eq_true, Bool.not_true, Bool.not_false, Bool.not_eq_true, decide_eq_true_eq, decide_not, Bool.not_eq_eq_eq_not, maxl_num, Int.reduceEq, Int.reduceLT, Int.reduceLE, Int.reduceNeg, Int.reduceToNat, decide_true, decide_false, Bool.true_and, Bool.false_and, Bool.and_true, Bool.and_false, Bool.not_true, Bool.not_false, not_true_eq_false, not_false_eq_true, Nat.reduceEqDiff, nc0, nc1, nc2, nc3, nc4, nc5, nc6, nc7, nc8, nc9, nc10, nc11, nc12, g0, g1, g2, g3, g4, callAt, callLow, CLk, told_ok, told_x0, told_x1, told_x2, told_x3, told_x4]) (ox_ (by simp (disch := first | omega | assumption | (simp only [List.length_cons, List.length_nil, List.length_append, List.length_replicate, List.length_take, List.length_drop]; omega)) only [den, dens, deno, denc, deni, denS, denSs, fin_nx, fin_rt, Res.bind_ok, Res.bind_exc, truth, partD, getV, setV, setAll, storeT, wipeV, binD_add, binD_sub, binD_mul, binD_fdiv, binD_mod, cmp_lt, cmp_le, cmp_gt, cmp_ge, cmp_eqi, cmp_nei, cmp_eqb, cmp_neb, cmp_eqs, cmp_nes, cmp_is, cmp_isNot, isn_int, isn_non, isn_tup, isn_lst, isn_str, isTy, isFn, ix0, ix1, ix2, ix3, ix4, ix5, ixm1, blt_lenc, blt_lent, blt_lenl, blt_lens, blt_abs, blt_inti, blt_intb, blt_tupt, blt_tupl, blt_lstt, blt_lstl, blt_max, blt_min, slice_tup, slice_lst, List.length_cons, List.length_nil, Nat.reduceAdd, Nat.reduceLeDiff, ↓reduceIte, reduceCtorEq, Bool.false_eq_true, Bool.not_true, Bool.not_false, Bool.not_eq_true, decide_eq_true_eq, decide_not, Bool.not_eq_eq_eq_not, maxl_num, Int.reduceEq, Int.reduceLT, Int.reduceLE, Int.reduceNeg, Int.reduceToNat, decide_true, decide_false, Bool.true_and, Bool.false_and, Bool.and_true, Bool.and_false, Bool.not_true, Bool.not_false, not_true_eq_false, not_false_eq_true, Nat.reduceEqDiff, nc0, nc1, nc2, nc3, nc4, nc5, nc6, nc7, nc8, nc9, nc10, nc11, nc12, g0, g1, g2, g3, g4, callAt, callLow, CLk, told_ok, told_x0, told_x1, told_x2, told_x3, told_x4, wo])))
    | some v =>
      rw [hw] at wo
      have wo : C k 7 [.str h, .int 2] = .ok (.int v) := wo
      have vb : -100 < v ∧ v < 100 := by
        have key : ∀ l : List Nat, l.length ≤ 2 → (l.all fun c => decide (c ∈ FIGS)) = true → NumText.digitsVal l < 100 := fun l h1 h2 => by
          have := dv_lt l.length l rfl (all_dig h2)
          have h3 : 10 ^ l.length ≤ 10 ^ 2 := Nat.pow_le_pow_right (by omega) (by omega)
          omega
        unfold wholeV at hw
        split at hw
        · split at hw
          · rename_i c
            have := key _ c.1.2 c.2
            injection hw with hw
            omega
          · cases hw
        · split at hw
          · rename_i c
            have := key _ c.1.2 c.2
            injection hw with hw
            omega
          · cases hw
      refine st_ (ρ' := [.pu (.str (p ++ 101 :: h)), .pu (.str p), .pu (.str [101]), .pu (.str h), .pu (nD (f.1, f.2 + v))]) (oit_ (by simp (disch := first | omega | assumption | (simp only [List.length_cons, List.length_nil, List.length_append, List.length_replicate, List.length_take, List.length_drop]; omega)) only [den, dens, deno, denc, deni, denS, denSs, fin_nx, fin_rt, Res.bind_ok, Res.bind_exc, truth, partD, getV, setV, setAll, storeT, wipeV, binD_add, binD_sub, binD_mul, binD_fdiv, binD_mod, cmp_lt, cmp_le, cmp_gt, cmp_ge, cmp_eqi, cmp_nei, cmp_eqb, cmp_neb, cmp_eqs, cmp_nes, cmp_is, cmp_isNot, isn_int, isn_non, isn_tup, isn_lst, isn_str, isTy, isFn, ix0, ix1, ix2, ix3, ix4, ix5, ixm1, blt_lenc, blt_lent, blt_lenl, blt_lens, blt_abs, blt_inti, blt_intb, blt_tupt, blt_tupl, blt_lstt, blt_lstl, blt_max, blt_min, slice_tup, slice_lst, List.length_cons, List.length_nil, Nat.reduceAdd, Nat.reduceLeDiff, ↓reduceIte, reduceCtorEq, Bool.false_eq_true, Bool.not_true, Bool.not_false, Bool.not_eq_true, decide_eq_true_eq, decide_not, Bool.not_eq_eq_eq_not, maxl_num, Int.reduceEq, Int.reduceLT, Int.reduceLE, Int.reduceNeg, Int.reduceToNat, decide_true, decide_false, Bool.true_and, Bool.false_and, Bool.and_true, Bool.and_false, Bool.not_true, Bool.not_false, not_true_eq_false, not_false_eq_true, Nat.reduceEqDiff, nc0, nc1, nc2, nc3, nc4, nc5, nc6, nc7, nc8, nc9, nc10, nc11, nc12, g0, g1, g2, g3, g4, callAt, callLow, CLk, told_ok, told_x0, told_x1, told_x2, told_x3, told_x4]) (ot_ ?_ on_)) (rf (f.1, f.2 + v) ⟨⟨u1, u2⟩, by show -3000 < f.2 + v; omega, by show f.2 + v < 3000; omega⟩)
      unfold nD
      simp (disch := first | omega | assumption | (simp only [List.length_cons, List.length_nil, List.length_append, List.length_replicate, List.length_take, List.length_drop]; omega)) only [den, dens, deno, denc, deni, denS, denSs, fin_nx, fin_rt, Res.bind_ok, Res.bind_exc, truth, partD, getV, setV, setAll, storeT, wipeV, binD_add, binD_sub, binD_mul, binD_fdiv, binD_mod, cmp_lt, cmp_le, cmp_gt, cmp_ge, cmp_eqi, cmp_nei, cmp_eqb, cmp_neb, cmp_eqs, cmp_nes, cmp_is, cmp_isNot, isn_int, isn_non, isn_tup, isn_lst, isn_str, isTy, isFn, ix0, ix1, ix2, ix3, ix4, ix5, ixm1, blt_lenc, blt_lent, blt_lenl, blt_lens, blt_abs, blt_inti, blt_intb, blt_tupt, blt_tupl, blt_lstt, blt_lstl, blt_max, blt_min, slice_tup, slice_lst, List.length_cons, List.length_nil, Nat.reduceAdd, Nat.reduceLeDiff, ↓reduceIte, reduceCtorEq, Bool.false_eq_true, Bool.not_true, Bool.not_false, Bool.not_eq_true, decide_eq_true_eq, decide_not, Bool.not_eq_eq_eq_not, maxl_num, Int.reduceEq, Int.reduceLT, Int.reduceLE, Int.reduceNeg, Int.reduceToNat, decide_true, decide_false, Bool.true_and, Bool.false_and, Bool.and_true, Bool.and_false, Bool.not_true, Bool.not_false, not_true_eq_false, not_false_eq_true, Nat.reduceEqDiff, nc0, nc1, nc2, nc3, nc4, nc5, nc6, nc7, nc8, nc9, nc10, nc11, nc12, g0, g1, g2, g3, g4, callAt, callLow, CLk, told_ok, told_x0, told_x1, told_x2, told_x3, told_x4, wo] <;> rfl
theorem readW_no {k : Nat} (hk : 4 ≤ k) {t : List Nat} (hp : 101 ∉ t) (hl : t.length ≤ 400) {F : Option (Int × Int)} (hF : ∀ j, 2 ≤ j → C j 8 [.str t] = optP F) (bF : ∀ f, F = some f → -100000000000000000000 < f.1 ∧ f.1 < 100000000000000000000 ∧ -1500 < f.2 ∧ f.2 < 2000) :
    C k 9 [.str t] = optP (filt t F) := by
  obtain ⟨k, rfl⟩ : ∃ j, k = j + 1 := ⟨k - 1, by omega⟩
  have pa := part_no hp (by omega)
  have mp := mthTy_part t
  have hF := hF k (by omega)
  have rf := fun g b => readFin (k := k) (by omega) t (.pu (.str t)) (.pu (.str [])) (.pu (.str [])) (g := g) b
  rw [c9]
  unfold B9 at rf ⊢
  have p1 : (denS (CL k) (glOf GS) (.set (.tup [1, 2, 3]) (.meth .partition (.var 0) (.cons (.lit (.str [101])) .nil))) [.pu (.str t), .un, .un, .un, .un]) = .ok (.nx [.pu (.str t), .pu (.str t), .pu (.str []), .pu (.str []), .un]) := by simp (disch := first | omega | assumption | (simp only [List.length_cons, List.length_nil, List.length_append, List.length_replicate, List.length_take, List.length_drop]; omega)) only [den, dens, deno, denc, deni, denS, denSs, fin_nx, fin_rt, Res.bind_ok, Res.bind_exc, truth, partD, getV, setV, setAll, storeT, wipeV, binD_add, binD_sub, binD_mul, binD_fdiv, binD_mod, cmp_lt, cmp_le, cmp_gt, cmp_ge, cmp_eqi, cmp_nei, cmp_eqb, cmp_neb, cmp_eqs, cmp_nes, cmp_is, cmp_isNot, isn_int, isn_non, isn_tup, isn_lst, isn_str, isTy, isFn, ix0, ix1, ix2, ix3, ix4, ix5, ixm1, blt_lenc, blt_lent, blt_lenl, blt_lens, blt_abs, blt_inti, blt_intb, blt_tupt, blt_tupl, blt_lstt, blt_lstl, blt_max, blt_min, slice_tup, slice_lst, List.length_cons, List.length_nil, Nat.reduceAdd, Nat.reduceLeDiff, ↓reduceIte, reduceCtorEq, Bool.false_eq_true, Bool.not_true, Bool.not_false, Bool.not_eq_true, decide_eq_true_eq, decide_not, Bool.not_eq_eq_eq_not, maxl_num, Int.reduceEq, Int.reduceLT, Int.reduceLE, Int.reduceNeg, Int.reduceToNat, decide_true, decide_false, Bool.true_and, Bool.false_and, Bool.and_true, Bool.and_false, Bool.not_true, Bool.not_false, not_true_eq_false, not_false_eq_true, Nat.reduceEqDiff, nc0, nc1, nc2, nc3, nc4, nc5, nc6, nc7, nc8, nc9, nc10, nc11, nc12, g0, g1, g2, g3, g4, callAt, callLow, CLk, told_ok, told_x0, told_x1, told_x2, told_x3, told_x4, mp, pa] <;> rfl
  refine sif_ (by simp (disch := first | omega | assumption | (simp only [List.length_cons, List.length_nil, List.length_append, List.length_replicate, List.length_take, List.length_drop]; omega)) only [den, dens, deno, denc, deni, denS, denSs, fin_nx, fin_rt, Res.bind_ok, Res.bind_exc, truth, partD, getV, setV, setAll, storeT, wipeV, binD_add, binD_sub, binD_mul, binD_fdiv, binD_mod, cmp_lt, cmp_le, cmp_gt, cmp_ge, cmp_eqi, cmp_nei, cmp_eqb, cmp_neb, cmp_eqs, cmp_nes, cmp_is, cmp_isNot, isn_int, isn_non, isn_tup, isn_lst, isn_str, isTy, isFn, ix0, ix1, ix2, ix3, ix4, ix5, ixm1, blt_lenc, blt_lent, blt_lenl, blt_lens, blt_abs, blt_inti, blt_intb, blt_tupt, blt_tupl, blt_lstt, blt_lstl, blt_max, blt_min, slice_tup, slice_lst, List.length_cons, List.length_nil, Nat.reduceAdd, Nat.reduceLeDiff, ↓reduceIte, reduceCtorEq, Bool.false_eq_true, Bool.not_true, Bool.not_false, Bool.not_eq_true, decide_eq_true_eq, decide_not, Bool.not_eq_eq_eq_not, maxl_num, Int.reduceEq, Int.reduceLT, Int.reduceLE, Int.reduceNeg, Int.reduceToNat, decide_true, decide_false, Bool.true_and, Bool.false_and, Bool.and_true, Bool.and_false, Bool.not_true, Bool.not_false, not_true_eq_false, not_false_eq_true, Nat.reduceEqDiff, nc0, nc1, nc2, nc3, nc4, nc5, nc6, nc7, nc8, nc9, nc10, nc11, nc12, g0, g1, g2, g3, g4, callAt, callLow, CLk, told_ok, told_x0, told_x1, told_x2, told_x3, told_x4]) (st_ p1 ?_)
  cases F with
  | none =>
    have hF : C k 8 [.str t] = .exc 1 := hF
    exact sx_ (by simp (disch := first | omega | assumption | (simp only [List.length_cons, List.length_nil, List.length_append, List.length_replicate, List.length_take, List.length_drop]; omega)) only [den, dens, deno, denc, deni, denS, denSs, fin_nx, fin_rt, Res.bind_ok, Res.bind_exc, truth, partD, getV, setV, setAll, storeT, wipeV, binD_add, binD_sub, binD_mul, binD_fdiv, binD_mod, cmp_lt, cmp_le, cmp_gt, cmp_ge, cmp_eqi, cmp_nei, cmp_eqb, cmp_neb, cmp_eqs, cmp_nes, cmp_is, cmp_isNot, isn_int, isn_non, isn_tup, isn_lst, isn_str, isTy, isFn, ix0, ix1, ix2, ix3, ix4, ix5, ixm1, blt_lenc, blt_lent, blt_lenl, blt_lens, blt_abs, blt_inti, blt_intb, blt_tupt, blt_tupl, blt_lstt, blt_lstl, blt_max, blt_min, slice_tup, slice_lst, List.length_cons, List.length_nil, Nat.reduceAdd, Nat.reduceLeDiff, ↓reduceIte, reduceCtorEq, Bool.false_eq_true, Bool.not_true, Bool.not_false, Bool.not_eq_true, decide_eq_true_eq, decide_not, Bool.not_eq_eq_eq_not, maxl_num, Int.reduceEq, Int.reduceLT, Int.reduceLE, Int.reduceNeg, Int.reduceToNat, decide_true, decide_false, Bool.true_and, Bool.false_and, Bool.and_true, Bool.and_false, Bool.not_true, Bool.not_false, not_true_eq_false, not_false_eq_true, Nat.reduceEqDiff, nc0, nc1, nc2, nc3, nc4, nc5, nc6, nc7, nc8, nc9, nc10, nc11, nc12, g0, g1, g2, g3, g4, callAt, callLow, CLk, told_ok, told_x0, told_x1, told_x2, told_x3, told_x4, hF])
  | some f =>
    have hF : C k 8 [.str t] = .ok (nD f) := hF
    obtain ⟨u1, u2, u3, u4⟩ := bF f rfl
    exact st_ (by simp (disch := first | omega | assumption | (simp only [List.length_cons, List.length_nil, List.length_append, List.length_replicate, List.length_take, List.length_drop]; omega)) only [den, dens, deno, denc, deni, denS, denSs, fin_nx, fin_rt, Res.bind_ok, Res.bind_exc, truth, partD, getV, setV, setAll, storeT, wipeV, binD_add, binD_sub, binD_mul, binD_fdiv, binD_mod, cmp_lt, cmp_le, cmp_gt, cmp_ge, cmp_eqi, cmp_nei, cmp_eqb, cmp_neb, cmp_eqs, cmp_nes, cmp_is, cmp_isNot, isn_int, isn_non, isn_tup, isn_lst, isn_str, isTy, isFn, ix0, ix1, ix2, ix3, ix4, ix5, ixm1, blt_lenc, blt_lent, blt_lenl, blt_lens, blt_abs, blt_inti, blt_intb, blt_tupt, blt_tupl, blt_lstt, blt_lstl, blt_max, blt_min, slice_tup, slice_lst, List.length_cons, List.length_nil, Nat.reduceAdd, Nat.reduceLeDiff, ↓reduceIte, reduceCtorEq, Bool.false_eq_true, Bool.not_true, Bool.not_false, Bool.not_eq_true, decide_eq_true_eq, decide_not, Bool.not_eq_eq_eq_not, maxl_num, Int.reduceEq, Int.reduceLT, Int.reduceLE, Int.reduceNeg, Int.reduceToNat, decide_true, decide_false, Bool.true_and, Bool.false_and, Bool.and_true, Bool.and_false, Bool.not_true, Bool.not_false, not_true_eq_false, not_false_eq_true, Nat.reduceEqDiff, nc0, nc1, nc2, nc3, nc4, nc5, nc6, nc7, nc8, nc9, nc10, nc11, nc12, g0, g1, g2, g3, g4, callAt, callLow, CLk, told_ok, told_x0, told_x1, told_x2, told_x3, told_x4, hF] <;> rfl) (st_ (oif_ (by simp (disch := first | omega | assumption | (simp only [List.length_cons, List.length_nil, List.length_append, List.length_replicate, List.length_take, List.length_drop]; omega)) only [den, dens, deno, denc, deni, denS, denSs, fin_nx, fin_rt, Res.bind_ok, Res.bind_exc, truth, partD, getV, setV, setAll, storeT, wipeV, binD_add, binD_sub, binD_mul, binD_fdiv, binD_mod, cmp_lt, cmp_le, cmp_gt, cmp_ge, cmp_eqi, cmp_nei, cmp_eqb, cmp_neb, cmp_eqs, cmp_nes, cmp_is, cmp_isNot, isn_int, isn_non, isn_tup, isn_lst, isn_str, isTy, isFn, ix0, ix1, ix2, ix3, ix4, ix5, ixm1, blt_lenc, blt_lent, blt_lenl, blt_lens, blt_abs, blt_inti, blt_intb, blt_tupt, blt_tupl, blt_lstt, blt_lstl, blt_max, blt_min, slice_tup, slice_lst, List.length_cons, List.length_nil, Nat.reduceAdd, Nat.reduceLeDiff, ↓reduceIte, reduceCtorEq, Bool.false_eq_true, Bool.not_true, Bool.not_false, Bool.not_eq_true, decide_eq_true_eq, decide_not, Bool.not_eq_eq_eq_not, maxl_num, Int.reduceEq, Int.reduceLT, Int.reduceLE, Int.reduceNeg, Int.reduceToNat, decide_true, decide_false, Bool.true_and, Bool.false_and, Bool.and_true, Bool.and_false, Bool.not_true, Bool.not_false, not_true_eq_false, not_false_eq_true, Nat.reduceEqDiff, nc0, nc1, nc2, nc3, nc4, nc5, nc6, nc7, nc8, nc9, nc10, nc11, nc12, g0, g1, g2, g3, g4, callAt, callLow, CLk, told_ok, told_x0, told_x1, told_x2, told_x3, told_x4]) on_) (rf f ⟨⟨u1, u2⟩, by omega, by omega⟩))
/-! one sign in texts: split, replace by nothing -/
theorem spl_one {c : Nat} : ∀ (a acc b : List Nat), c ∉ a → TL.spl [c] 0 acc (a ++ c :: b) = (acc ++ a) :: TL.spl [c] 0 [] b
  | [], acc, b, _ => by
    rw [List.nil_append, TL.spl_hit (show TL.pre [c] (c :: b) = true from TL.pre_self [c] b), List.append_nil]
    rfl
  | x :: a, acc, b, h => by
    have hx : x ≠ c := fun z => h (by rw [z]; exact List.mem_cons_self)
    rw [List.cons_append, TL.spl_miss (TL.pre_of_head [] _ hx), spl_one a (acc ++ [x]) b (fun z => h (List.mem_cons_of_mem _ z)), List.append_assoc]
    rfl
theorem spl_non {c : Nat} : ∀ (a acc : List Nat), c ∉ a → TL.spl [c] 0 acc a = [acc ++ a]
  | [], acc, _ => by rw [TL.spl_nil, List.append_nil]
  | x :: a, acc, h => by
    have hx : x ≠ c := fun z => h (by rw [z]; exact List.mem_cons_self)
    rw [TL.spl_miss (TL.pre_of_head [] _ hx), spl_non a (acc ++ [x]) (fun z => h (List.mem_cons_of_mem _ z)), List.append_assoc]
    rfl
theorem split_one {s : List Nat} {c : Nat} (hc : c < 256) (hl : s.length ≤ 1000000) : mthD .split (.str s) [.str [c]] = .ok (.lst ((TL.spl [c] 0 [] s).map .str)) := by
  have e : mthD .split (.str s) [.str [c]] = (if [c] ≠ ([] : List Nat) ∧ s.length + 2 ≤ MAXL then Res.ok (D.lst ((Txt.split (mkS s) (mkS [c])).map fun z => .str z.cps.toList)) else .bad) := rfl
  have k : (mkS [c]).cps.all (· < 256) = true := by
    rw [← Array.all_toList]
    show [c].all (· < 256) = true
    simp [hc]
  have sp := TL.split_spl (mkS s) (mkS [c]) (by show [c] ≠ []; simp) (TL.kind_ok k)
  have sp : (Txt.split (mkS s) (mkS [c])).map TL.tl = TL.spl [c] 0 [] s := sp
  rw [e, if_pos ⟨by simp, by rw [maxl_num]; omega⟩, ← sp, List.map_map]
  rfl
open PySem.StrLaws in
theorem repl_one {c : Nat} : ∀ s : List Nat, replL [c] [] s = s.filter fun x => !decide (x = c)
  | [] => replL_nil
  | x :: s => by
    by_cases h : x = c
    · subst h
      rw [replL_hit (by simp) (by simp)]
      show [] ++ replL [x] [] s = _
      rw [List.nil_append, repl_one s]
      simp
    · rw [replL_miss (by simp [h]), repl_one s]
      simp [h]
theorem replace_one {s : List Nat} {c : Nat} (hl : s.length ≤ 1000000) : mthD .replace (.str s) [.str [c], .str []] = .ok (.str (s.filter fun x => !decide (x = c))) := by
  have e : mthD .replace (.str s) [.str [c], .str []] = (if [c] ≠ ([] : List Nat) ∧ s.length + (s.length + 1) * ([] : List Nat).length ≤ MAXL then Res.ok (D.str (Txt.replace (mkS s) (mkS [c]) (mkS [])).cps.toList) else .bad) := rfl
  rw [e, if_pos ⟨by simp, by rw [maxl_num]; simp; omega⟩, PySem.StrLaws.replace_list (by show 1 ≤ [c].length; simp)]
  rw [← repl_one]
theorem mthTy_replace (s : List Nat) : mthTy .replace (.str s) = true := rfl
theorem mthTy_split (s : List Nat) : mthTy .split (.str s) = true := rfl
theorem filt_no {s : List Nat} {c : Nat} (h : c ∉ s) : s.filter (fun x => !decide (x = c)) = s := List.filter_eq_self.mpr fun x hx => by
  have : x ≠ c := fun z => h (z ▸ hx)
  simp [this]
/-- an entry's figures with the sign; the figures behind the point -/
theorem entry_repl {e : En} (h : e.ok) : mthD .replace (.str e.t) [.str [46], .str []] = .ok (.str (((if e.neg = true then [45] else []) ++ e.ah) ++ e.be)) := by
  have len := En.len h
  rw [replace_one (by omega)]
  have n := no46 h
  have nb : (46 : Nat) ∉ e.be := dig_not h.db (by omega)
  congr 2
  cases hp : e.pt with
  | true =>
    rw [t_split hp, List.filter_append, filt_no n, List.filter_cons]
    simp only [decide_true, Bool.not_true, Bool.false_eq_true, ↓reduceIte, filt_no nb]
  | false => rw [t_plain hp, filt_no n, h.np hp, List.append_nil]
theorem entry_split {e : En} (h : e.ok) : ∃ l : List D, mthD .split (.str (e.t ++ [46])) [.str [46]] = .ok (.lst l) ∧ idxD (.lst l) (.int 1) = .ok (.str e.be) := by
  have len := En.len h
  have n := no46 h
  have nb : (46 : Nat) ∉ e.be := dig_not h.db (by omega)
  refine ⟨_, split_one (by omega) (by simp; omega), ?_⟩
  cases hp : e.pt with
  | true =>
    rw [t_split hp, List.append_assoc, List.cons_append, spl_one _ _ _ n, spl_one _ _ _ nb]
    rfl
  | false =>
    rw [t_plain hp, spl_one _ _ _ n, h.np hp, TL.spl_nil]
    rfl
theorem lheight {k : Nat} (hk : 1 ≤ k) {a b : Int} (h : -BIG < a ∧ a < BIG) : C k 14 [.tup [.int a, .int b]] = .ok (.int (b + fig a - 1)) := by
  obtain ⟨k, rfl⟩ : ∃ j, k = j + 1 := ⟨k - 1, by omega⟩
  have hb := absB h
  have hl := numS_len hb.1 hb.2
  rw [c14]
  unfold B14
  simp (disch := first | omega | assumption | (simp only [List.length_cons, List.length_nil, List.length_append, List.length_replicate, List.length_take, List.length_drop]; omega)) only [den, dens, deno, denc, deni, denS, denSs, fin_nx, fin_rt, Res.bind_ok, Res.bind_exc, truth, partD, getV, setV, setAll, storeT, wipeV, binD_add, binD_sub, binD_mul, binD_fdiv, binD_mod, cmp_lt, cmp_le, cmp_gt, cmp_ge, cmp_eqi, cmp_nei, cmp_eqb, cmp_neb, cmp_eqs, cmp_nes, cmp_is, cmp_isNot, isn_int, isn_non, isn_tup, isn_lst, isn_str, isTy, isFn, ix0, ix1, ix2, ix3, ix4, ix5, ixm1, blt_lenc, blt_lent, blt_lenl, blt_lens, blt_abs, blt_inti, blt_intb, blt_tupt, blt_tupl, blt_lstt, blt_lstl, blt_max, blt_min, slice_tup, slice_lst, List.length_cons, List.length_nil, Nat.reduceAdd, Nat.reduceLeDiff, ↓reduceIte, reduceCtorEq, Bool.false_eq_true, Bool.not_true, Bool.not_false, Bool.not_eq_true, decide_eq_true_eq, decide_not, Bool.not_eq_eq_eq_not, maxl_num, Int.reduceEq, Int.reduceLT, Int.reduceLE, Int.reduceNeg, Int.reduceToNat, decide_true, decide_false, Bool.true_and, Bool.false_and, Bool.and_true, Bool.and_false, Bool.not_true, Bool.not_false, not_true_eq_false, not_false_eq_true, Nat.reduceEqDiff, nc0, nc1, nc2, nc3, nc4, nc5, nc6, nc7, nc8, nc9, nc10, nc11, nc12, g0, g1, g2, g3, g4, callAt, callLow, CLk, told_ok, told_x0, told_x1, told_x2, told_x3, told_x4, blt_stri hb.1 hb.2]
  rfl
theorem tidyZ {k : Nat} (hk : 1 ≤ k) (p : Int) : C k 15 [.int 0, .int p] = .ok (.tup [.int 0, .int 0]) := by
  obtain ⟨k, rfl⟩ : ∃ j, k = j + 1 := ⟨k - 1, by omega⟩
  rw [c15]
  unfold B15
  exact sr_ (oit_ (by simp (disch := first | omega | assumption | (simp only [List.length_cons, List.length_nil, List.length_append, List.length_replicate, List.length_take, List.length_drop]; omega)) only [den, dens, deno, denc, deni, denS, denSs, fin_nx, fin_rt, Res.bind_ok, Res.bind_exc, truth, partD, getV, setV, setAll, storeT, wipeV, binD_add, binD_sub, binD_mul, binD_fdiv, binD_mod, cmp_lt, cmp_le, cmp_gt, cmp_ge, cmp_eqi, cmp_nei, cmp_eqb, cmp_neb, cmp_eqs, cmp_nes, cmp_is, cmp_isNot, isn_int, isn_non, isn_tup, isn_lst, isn_str, isTy, isFn, ix0, ix1, ix2, ix3, ix4, ix5, ixm1, blt_lenc, blt_lent, blt_lenl, blt_lens, blt_abs, blt_inti, blt_intb, blt_tupt, blt_tupl, blt_lstt, blt_lstl, blt_max, blt_min, slice_tup, slice_lst, List.length_cons, List.length_nil, Nat.reduceAdd, Nat.reduceLeDiff, ↓reduceIte, reduceCtorEq, Bool.false_eq_true, Bool.not_true, Bool.not_false, Bool.not_eq_true, decide_eq_true_eq, decide_not, Bool.not_eq_eq_eq_not, maxl_num, Int.reduceEq, Int.reduceLT, Int.reduceLE, Int.reduceNeg, Int.reduceToNat, decide_true, decide_false, Bool.true_and, Bool.false_and, Bool.and_true, Bool.and_false, Bool.not_true, Bool.not_false, not_true_eq_false, not_false_eq_true, Nat.reduceEqDiff, nc0, nc1, nc2, nc3, nc4, nc5, nc6, nc7, nc8, nc9, nc10, nc11, nc12, g0, g1, g2, g3, g4, callAt, callLow, CLk, told_ok, told_x0, told_x1, told_x2, told_x3, told_x4]) (or_ (by simp (disch := first | omega | assumption | (simp only [List.length_cons, List.length_nil, List.length_append, List.length_replicate, List.length_take, List.length_drop]; omega)) only [den, dens, deno, denc, deni, denS, denSs, fin_nx, fin_rt, Res.bind_ok, Res.bind_exc, truth, partD, getV, setV, setAll, storeT, wipeV, binD_add, binD_sub, binD_mul, binD_fdiv, binD_mod, cmp_lt, cmp_le, cmp_gt, cmp_ge, cmp_eqi, cmp_nei, cmp_eqb, cmp_neb, cmp_eqs, cmp_nes, cmp_is, cmp_isNot, isn_int, isn_non, isn_tup, isn_lst, isn_str, isTy, isFn, ix0, ix1, ix2, ix3, ix4, ix5, ixm1, blt_lenc, blt_lent, blt_lenl, blt_lens, blt_abs, blt_inti, blt_intb, blt_tupt, blt_tupl, blt_lstt, blt_lstl, blt_max, blt_min, slice_tup, slice_lst, List.length_cons, List.length_nil, Nat.reduceAdd, Nat.reduceLeDiff, ↓reduceIte, reduceCtorEq, Bool.false_eq_true, Bool.not_true, Bool.not_false, Bool.not_eq_true, decide_eq_true_eq, decide_not, Bool.not_eq_eq_eq_not, maxl_num, Int.reduceEq, Int.reduceLT, Int.reduceLE, Int.reduceNeg, Int.reduceToNat, decide_true, decide_false, Bool.true_and, Bool.false_and, Bool.and_true, Bool.and_false, Bool.not_true, Bool.not_false, not_true_eq_false, not_false_eq_true, Nat.reduceEqDiff, nc0, nc1, nc2, nc3, nc4, nc5, nc6, nc7, nc8, nc9, nc10, nc11, nc12, g0, g1, g2, g3, g4, callAt, callLow, CLk, told_ok, told_x0, told_x1, told_x2, told_x3, told_x4] <;> rfl)))
theorem tidyS {k : Nat} (hk : 1 ≤ k) (w p : Int) (h : w ≠ 0) : C k 15 [.int w, .int p] = .ok (.tup [.int (strip w p).1, .int (strip w p).2]) := by
  obtain ⟨k, rfl⟩ : ∃ j, k = j + 1 := ⟨k - 1, by omega⟩
  rw [c15]
  unfold B15
  refine sif_ (by simp (disch := first | omega | assumption | (simp only [List.length_cons, List.length_nil, List.length_append, List.length_replicate, List.length_take, List.length_drop]; omega)) only [den, dens, deno, denc, deni, denS, denSs, fin_nx, fin_rt, Res.bind_ok, Res.bind_exc, truth, partD, getV, setV, setAll, storeT, wipeV, binD_add, binD_sub, binD_mul, binD_fdiv, binD_mod, cmp_lt, cmp_le, cmp_gt, cmp_ge, cmp_eqi, cmp_nei, cmp_eqb, cmp_neb, cmp_eqs, cmp_nes, cmp_is, cmp_isNot, isn_int, isn_non, isn_tup, isn_lst, isn_str, isTy, isFn, ix0, ix1, ix2, ix3, ix4, ix5, ixm1, blt_lenc, blt_lent, blt_lenl, blt_lens, blt_abs, blt_inti, blt_intb, blt_tupt, blt_tupl, blt_lstt, blt_lstl, blt_max, blt_min, slice_tup, slice_lst, List.length_cons, List.length_nil, Nat.reduceAdd, Nat.reduceLeDiff, ↓reduceIte, reduceCtorEq, Bool.false_eq_true, Bool.not_true, Bool.not_false, Bool.not_eq_true, decide_eq_true_eq, decide_not, Bool.not_eq_eq_eq_not, maxl_num, Int.reduceEq, Int.reduceLT, Int.reduceLE, Int.reduceNeg, Int.reduceToNat, decide_true, decide_false, Bool.true_and, Bool.false_and, Bool.and_true, Bool.and_false, Bool.not_true, Bool.not_false, not_true_eq_false, not_false_eq_true, Nat.reduceEqDiff, nc0, nc1, nc2, nc3, nc4, nc5, nc6, nc7, nc8, nc9, nc10, nc11, nc12, g0, g1, g2, g3, g4, callAt, callLow, CLk, told_ok, told_x0, told_x1, told_x2, told_x3, told_x4, h]) ?_
  have loop : ∀ (n : Nat) (w q : Int), w ≠ 0 → w.natAbs ≤ n → whileD (fun ρ => (den (CL k) (glOf GS) (.cmp .eq (.bin .mod (.var 0) (.lit (.int 10))) (.lit (.int 0))) ρ).bind truth) (fun ρ => denSs (CL k) (glOf GS) (.cons (.set (.name 0) (.bin .fdiv (.var 0) (.lit (.int 10)))) (.cons (.set (.name 1) (.bin .add (.var 1) (.lit (.int 1)))) .nil)) ρ) [.pu (.int w), .pu (.int q)]
      = .ok (.nx [.pu (.int (stripN n w q).1), .pu (.int (stripN n w q).2)]) := by
    intro n
    induction n with
    | zero => intro w q h2 h3; omega
    | succ n ih =>
      intro w q h2 h3
      unfold stripN
      by_cases e : w % 10 = 0
      · rw [if_pos e, while_step (ρ' := [.pu (.int (w / 10)), .pu (.int (q + 1))]) (by simp (disch := first | omega | assumption | (simp only [List.length_cons, List.length_nil, List.length_append, List.length_replicate, List.length_take, List.length_drop]; omega)) only [den, dens, deno, denc, deni, denS, denSs, fin_nx, fin_rt, Res.bind_ok, Res.bind_exc, truth, partD, getV, setV, setAll, storeT, wipeV, binD_add, binD_sub, binD_mul, binD_fdiv, binD_mod, cmp_lt, cmp_le, cmp_gt, cmp_ge, cmp_eqi, cmp_nei, cmp_eqb, cmp_neb, cmp_eqs, cmp_nes, cmp_is, cmp_isNot, isn_int, isn_non, isn_tup, isn_lst, isn_str, isTy, isFn, ix0, ix1, ix2, ix3, ix4, ix5, ixm1, blt_lenc, blt_lent, blt_lenl, blt_lens, blt_abs, blt_inti, blt_intb, blt_tupt, blt_tupl, blt_lstt, blt_lstl, blt_max, blt_min, slice_tup, slice_lst, List.length_cons, List.length_nil, Nat.reduceAdd, Nat.reduceLeDiff, ↓reduceIte, reduceCtorEq, Bool.false_eq_true, Bool.not_true, Bool.not_false, Bool.not_eq_true, decide_eq_true_eq, decide_not, Bool.not_eq_eq_eq_not, maxl_num, Int.reduceEq, Int.reduceLT, Int.reduceLE, Int.reduceNeg, Int.reduceToNat, decide_true, decide_false, Bool.true_and, Bool.false_and, Bool.and_true, Bool.and_false, Bool.not_true, Bool.not_false, not_true_eq_false, not_false_eq_true, Nat.reduceEqDiff, nc0, nc1, nc2, nc3, nc4, nc5, nc6, nc7, nc8, nc9, nc10, nc11, nc12, g0, g1, g2, g3, g4, callAt, callLow, CLk, told_ok, told_x0, told_x1, told_x2, told_x3, told_x4, e]) (by simp (disch := first | omega | assumption | (simp only [List.length_cons, List.length_nil, List.length_append, List.length_replicate, List.length_take, List.length_drop]; omega)) only [den, dens, deno, denc, deni, denS, denSs, fin_nx, fin_rt, Res.bind_ok, Res.bind_exc, truth, partD, getV, setV, setAll, storeT, wipeV, binD_add, binD_sub, binD_mul, binD_fdiv, binD_mod, cmp_lt, cmp_le, cmp_gt, cmp_ge, cmp_eqi, cmp_nei, cmp_eqb, cmp_neb, cmp_eqs, cmp_nes, cmp_is, cmp_isNot, isn_int, isn_non, isn_tup, isn_lst, isn_str, isTy, isFn, ix0, ix1, ix2, ix3, ix4, ix5, ixm1, blt_lenc, blt_lent, blt_lenl, blt_lens, blt_abs, blt_inti, blt_intb, blt_tupt, blt_tupl, blt_lstt, blt_lstl, blt_max, blt_min, slice_tup, slice_lst, List.length_cons, List.length_nil, Nat.reduceAdd, Nat.reduceLeDiff, ↓reduceIte, reduceCtorEq, Bool.false_eq_true, Bool.not_true, Bool.not_false, Bool.not_eq_true, decide_eq_true_eq, decide_not, Bool.not_eq_eq_eq_not, maxl_num, Int.reduceEq, Int.reduceLT, Int.reduceLE, Int.reduceNeg, Int.reduceToNat, decide_true, decide_false, Bool.true_and, Bool.false_and, Bool.and_true, Bool.and_false, Bool.not_true, Bool.not_false, not_true_eq_false, not_false_eq_true, Nat.reduceEqDiff, nc0, nc1, nc2, nc3, nc4, nc5, nc6, nc7, nc8, nc9, nc10, nc11, nc12, g0, g1, g2, g3, g4, callAt, callLow, CLk, told_ok, told_x0, told_x1, told_x2, told_x3, told_x4])]
        exact ih (w / 10) (q + 1) (by omega) (by omega)
      · rw [if_neg e]
        exact while_stop (by simp (disch := first | omega | assumption | (simp only [List.length_cons, List.length_nil, List.length_append, List.length_replicate, List.length_take, List.length_drop]; omega)) only [den, dens, deno, denc, deni, denS, denSs, fin_nx, fin_rt, Res.bind_ok, Res.bind_exc, truth, partD, getV, setV, setAll, storeT, wipeV, binD_add, binD_sub, binD_mul, binD_fdiv, binD_mod, cmp_lt, cmp_le, cmp_gt, cmp_ge, cmp_eqi, cmp_nei, cmp_eqb, cmp_neb, cmp_eqs, cmp_nes, cmp_is, cmp_isNot, isn_int, isn_non, isn_tup, isn_lst, isn_str, isTy, isFn, ix0, ix1, ix2, ix3, ix4, ix5, ixm1, blt_lenc, blt_lent, blt_lenl, blt_lens, blt_abs, blt_inti, blt_intb, blt_tupt, blt_tupl, blt_lstt, blt_lstl, blt_max, blt_min, slice_tup, slice_lst, List.length_cons, List.length_nil, Nat.reduceAdd, Nat.reduceLeDiff, ↓reduceIte, reduceCtorEq, Bool.false_eq_true, Bool.not_true, Bool.not_false, Bool.not_eq_true, decide_eq_true_eq, decide_not, Bool.not_eq_eq_eq_not, maxl_num, Int.reduceEq, Int.reduceLT, Int.reduceLE, Int.reduceNeg, Int.reduceToNat, decide_true, decide_false, Bool.true_and, Bool.false_and, Bool.and_true, Bool.and_false, Bool.not_true, Bool.not_false, not_true_eq_false, not_false_eq_true, Nat.reduceEqDiff, nc0, nc1, nc2, nc3, nc4, nc5, nc6, nc7, nc8, nc9, nc10, nc11, nc12, g0, g1, g2, g3, g4, callAt, callLow, CLk, told_ok, told_x0, told_x1, told_x2, told_x3, told_x4, e])
  exact st_ (by rw [denS]; exact loop _ w p h (Nat.le_refl _)) (sr_ (by simp (disch := first | omega | assumption | (simp only [List.length_cons, List.length_nil, List.length_append, List.length_replicate, List.length_take, List.length_drop]; omega)) only [den, dens, deno, denc, deni, denS, denSs, fin_nx, fin_rt, Res.bind_ok, Res.bind_exc, truth, partD, getV, setV, setAll, storeT, wipeV, binD_add, binD_sub, binD_mul, binD_fdiv, binD_mod, cmp_lt, cmp_le, cmp_gt, cmp_ge, cmp_eqi, cmp_nei, cmp_eqb, cmp_neb, cmp_eqs, cmp_nes, cmp_is, cmp_isNot, isn_int, isn_non, isn_tup, isn_lst, isn_str, isTy, isFn, ix0, ix1, ix2, ix3, ix4, ix5, ixm1, blt_lenc, blt_lent, blt_lenl, blt_lens, blt_abs, blt_inti, blt_intb, blt_tupt, blt_tupl, blt_lstt, blt_lstl, blt_max, blt_min, slice_tup, slice_lst, List.length_cons, List.length_nil, Nat.reduceAdd, Nat.reduceLeDiff, ↓reduceIte, reduceCtorEq, Bool.false_eq_true, Bool.not_true, Bool.not_false, Bool.not_eq_true, decide_eq_true_eq, decide_not, Bool.not_eq_eq_eq_not, maxl_num, Int.reduceEq, Int.reduceLT, Int.reduceLE, Int.reduceNeg, Int.reduceToNat, decide_true, decide_false, Bool.true_and, Bool.false_and, Bool.and_true, Bool.and_false, Bool.not_true, Bool.not_false, not_true_eq_false, not_false_eq_true, Nat.reduceEqDiff, nc0, nc1, nc2, nc3, nc4, nc5, nc6, nc7, nc8, nc9, nc10, nc11, nc12, g0, g1, g2, g3, g4, callAt, callLow, CLk, told_ok, told_x0, told_x1, told_x2, told_x3, told_x4] <;> rfl))
theorem ltext {k : Nat} (hk : 3 ≤ k) {a b : Int} (ha : -BIG < a ∧ a < BIG) (hb : -100000 < b ∧ b < 100000) : C k 18 [.tup [.int a, .int b]] = .ok (.str (textT a b)) := by
  obtain ⟨k, rfl⟩ : ∃ j, k = j + 3 := ⟨k - 3, by omega⟩
  have hB := absB ha
  obtain ⟨l1, l2, l3⟩ := figS_len ha
  have l4 := sign_len a
  have hh := lheight (k := k + 2) (by omega) (b := b) ha
  have bh := big_small (a := b + fig a - 1) (by omega) (by omega)
  have nh := numS_len bh.1 bh.2
  rw [c18]
  unfold B18 textT
  have e0 : (if a < 0 then (1 : Int) else 0) ≤ 1000000 ∧ -1000000 ≤ (if a < 0 then (1 : Int) else 0) := by split <;> omega
  have e1 : 1 * (if a < 0 then (1 : Int) else 0).toNat ≤ 16777216 := by split <;> simp
  have es : numS (if a < 0 then -a else a) = figS a := rfl
  refine st_ (by simp (disch := first | omega | assumption | (simp only [List.length_cons, List.length_nil, List.length_append, List.length_replicate, List.length_take, List.length_drop]; omega)) only [den, dens, deno, denc, deni, denS, denSs, fin_nx, fin_rt, Res.bind_ok, Res.bind_exc, truth, partD, getV, setV, setAll, storeT, wipeV, binD_add, binD_sub, binD_mul, binD_fdiv, binD_mod, cmp_lt, cmp_le, cmp_gt, cmp_ge, cmp_eqi, cmp_nei, cmp_eqb, cmp_neb, cmp_eqs, cmp_nes, cmp_is, cmp_isNot, isn_int, isn_non, isn_tup, isn_lst, isn_str, isTy, isFn, ix0, ix1, ix2, ix3, ix4, ix5, ixm1, blt_lenc, blt_lent, blt_lenl, blt_lens, blt_abs, blt_inti, blt_intb, blt_tupt, blt_tupl, blt_lstt, blt_lstl, blt_max, blt_min, slice_tup, slice_lst, List.length_cons, List.length_nil, Nat.reduceAdd, Nat.reduceLeDiff, ↓reduceIte, reduceCtorEq, Bool.false_eq_true, Bool.not_true, Bool.not_false, Bool.not_eq_true, decide_eq_true_eq, decide_not, Bool.not_eq_eq_eq_not, maxl_num, Int.reduceEq, Int.reduceLT, Int.reduceLE, Int.reduceNeg, Int.reduceToNat, decide_true, decide_false, Bool.true_and, Bool.false_and, Bool.and_true, Bool.and_false, Bool.not_true, Bool.not_false, not_true_eq_false, not_false_eq_true, Nat.reduceEqDiff, nc0, nc1, nc2, nc3, nc4, nc5, nc6, nc7, nc8, nc9, nc10, nc11, nc12, g0, g1, g2, g3, g4, callAt, callLow, CLk, told_ok, told_x0, told_x1, told_x2, told_x3, told_x4] <;> rfl) (st_ (by simp (disch := first | omega | assumption | (simp only [List.length_cons, List.length_nil, List.length_append, List.length_replicate, List.length_take, List.length_drop]; omega)) only [den, dens, deno, denc, deni, denS, denSs, fin_nx, fin_rt, Res.bind_ok, Res.bind_exc, truth, partD, getV, setV, setAll, storeT, wipeV, binD_add, binD_sub, binD_mul, binD_fdiv, binD_mod, cmp_lt, cmp_le, cmp_gt, cmp_ge, cmp_eqi, cmp_nei, cmp_eqb, cmp_neb, cmp_eqs, cmp_nes, cmp_is, cmp_isNot, isn_int, isn_non, isn_tup, isn_lst, isn_str, isTy, isFn, ix0, ix1, ix2, ix3, ix4, ix5, ixm1, blt_lenc, blt_lent, blt_lenl, blt_lens, blt_abs, blt_inti, blt_intb, blt_tupt, blt_tupl, blt_lstt, blt_lstl, blt_max, blt_min, slice_tup, slice_lst, List.length_cons, List.length_nil, Nat.reduceAdd, Nat.reduceLeDiff, ↓reduceIte, reduceCtorEq, Bool.false_eq_true, Bool.not_true, Bool.not_false, Bool.not_eq_true, decide_eq_true_eq, decide_not, Bool.not_eq_eq_eq_not, maxl_num, Int.reduceEq, Int.reduceLT, Int.reduceLE, Int.reduceNeg, Int.reduceToNat, decide_true, decide_false, Bool.true_and, Bool.false_and, Bool.and_true, Bool.and_false, Bool.not_true, Bool.not_false, not_true_eq_false, not_false_eq_true, Nat.reduceEqDiff, nc0, nc1, nc2, nc3, nc4, nc5, nc6, nc7, nc8, nc9, nc10, nc11, nc12, g0, g1, g2, g3, g4, callAt, callLow, CLk, told_ok, told_x0, told_x1, told_x2, told_x3, told_x4, binD_rep, reps_sign, e0.1, e0.2, e1] <;> rfl) (st_ (by simp (disch := first | omega | assumption | (simp only [List.length_cons, List.length_nil, List.length_append, List.length_replicate, List.length_take, List.length_drop]; omega)) only [den, dens, deno, denc, deni, denS, denSs, fin_nx, fin_rt, Res.bind_ok, Res.bind_exc, truth, partD, getV, setV, setAll, storeT, wipeV, binD_add, binD_sub, binD_mul, binD_fdiv, binD_mod, cmp_lt, cmp_le, cmp_gt, cmp_ge, cmp_eqi, cmp_nei, cmp_eqb, cmp_neb, cmp_eqs, cmp_nes, cmp_is, cmp_isNot, isn_int, isn_non, isn_tup, isn_lst, isn_str, isTy, isFn, ix0, ix1, ix2, ix3, ix4, ix5, ixm1, blt_lenc, blt_lent, blt_lenl, blt_lens, blt_abs, blt_inti, blt_intb, blt_tupt, blt_tupl, blt_lstt, blt_lstl, blt_max, blt_min, slice_tup, slice_lst, List.length_cons, List.length_nil, Nat.reduceAdd, Nat.reduceLeDiff, ↓reduceIte, reduceCtorEq, Bool.false_eq_true, Bool.not_true, Bool.not_false, Bool.not_eq_true, decide_eq_true_eq, decide_not, Bool.not_eq_eq_eq_not, maxl_num, Int.reduceEq, Int.reduceLT, Int.reduceLE, Int.reduceNeg, Int.reduceToNat, decide_true, decide_false, Bool.true_and, Bool.false_and, Bool.and_true, Bool.and_false, Bool.not_true, Bool.not_false, not_true_eq_false, not_false_eq_true, Nat.reduceEqDiff, nc0, nc1, nc2, nc3, nc4, nc5, nc6, nc7, nc8, nc9, nc10, nc11, nc12, g0, g1, g2, g3, g4, callAt, callLow, CLk, told_ok, told_x0, told_x1, told_x2, told_x3, told_x4, blt_stri hB.1 hB.2, es] <;> rfl) (st_ (by simp (disch := first | omega | assumption | (simp only [List.length_cons, List.length_nil, List.length_append, List.length_replicate, List.length_take, List.length_drop]; omega)) only [den, dens, deno, denc, deni, denS, denSs, fin_nx, fin_rt, Res.bind_ok, Res.bind_exc, truth, partD, getV, setV, setAll, storeT, wipeV, binD_add, binD_sub, binD_mul, binD_fdiv, binD_mod, cmp_lt, cmp_le, cmp_gt, cmp_ge, cmp_eqi, cmp_nei, cmp_eqb, cmp_neb, cmp_eqs, cmp_nes, cmp_is, cmp_isNot, isn_int, isn_non, isn_tup, isn_lst, isn_str, isTy, isFn, ix0, ix1, ix2, ix3, ix4, ix5, ixm1, blt_lenc, blt_lent, blt_lenl, blt_lens, blt_abs, blt_inti, blt_intb, blt_tupt, blt_tupl, blt_lstt, blt_lstl, blt_max, blt_min, slice_tup, slice_lst, List.length_cons, List.length_nil, Nat.reduceAdd, Nat.reduceLeDiff, ↓reduceIte, reduceCtorEq, Bool.false_eq_true, Bool.not_true, Bool.not_false, Bool.not_eq_true, decide_eq_true_eq, decide_not, Bool.not_eq_eq_eq_not, maxl_num, Int.reduceEq, Int.reduceLT, Int.reduceLE, Int.reduceNeg, Int.reduceToNat, decide_true, decide_false, Bool.true_and, Bool.false_and, Bool.and_true, Bool.and_false, Bool.not_true, Bool.not_false, not_true_eq_false, not_false_eq_true, Nat.reduceEqDiff, nc0, nc1, nc2, nc3, nc4, nc5, nc6, nc7, nc8, nc9, nc10, nc11, nc12, g0, g1, g2, g3, g4, callAt, callLow, CLk, told_ok, told_x0, told_x1, told_x2, told_x3, told_x4, hh] <;> rfl) ?_)))
  by_cases h1 : -4 ≤ b + fig a - 1 ∧ b + fig a - 1 ≤ 9
  · rw [if_pos h1]
    refine sif_ (by simp (disch := first | omega | assumption | (simp only [List.length_cons, List.length_nil, List.length_append, List.length_replicate, List.length_take, List.length_drop]; omega)) only [den, dens, deno, denc, deni, denS, denSs, fin_nx, fin_rt, Res.bind_ok, Res.bind_exc, truth, partD, getV, setV, setAll, storeT, wipeV, binD_add, binD_sub, binD_mul, binD_fdiv, binD_mod, cmp_lt, cmp_le, cmp_gt, cmp_ge, cmp_eqi, cmp_nei, cmp_eqb, cmp_neb, cmp_eqs, cmp_nes, cmp_is, cmp_isNot, isn_int, isn_non, isn_tup, isn_lst, isn_str, isTy, isFn, ix0, ix1, ix2, ix3, ix4, ix5, ixm1, blt_lenc, blt_lent, blt_lenl, blt_lens, blt_abs, blt_inti, blt_intb, blt_tupt, blt_tupl, blt_lstt, blt_lstl, blt_max, blt_min, slice_tup, slice_lst, List.length_cons, List.length_nil, Nat.reduceAdd, Nat.reduceLeDiff, ↓reduceIte, reduceCtorEq, Bool.false_eq_true, Bool.not_true, Bool.not_false, Bool.not_eq_true, decide_eq_true_eq, decide_not, Bool.not_eq_eq_eq_not, maxl_num, Int.reduceEq, Int.reduceLT, Int.reduceLE, Int.reduceNeg, Int.reduceToNat, decide_true, decide_false, Bool.true_and, Bool.false_and, Bool.and_true, Bool.and_false, Bool.not_true, Bool.not_false, not_true_eq_false, not_false_eq_true, Nat.reduceEqDiff, nc0, nc1, nc2, nc3, nc4, nc5, nc6, nc7, nc8, nc9, nc10, nc11, nc12, g0, g1, g2, g3, g4, callAt, callLow, CLk, told_ok, told_x0, told_x1, told_x2, told_x3, told_x4, h1.1, h1.2]) ?_
    unfold plainT
    by_cases hp : 0 ≤ b
    · rw [if_pos hp]
      exact sr_ (oit_ (by simp (disch := first | omega | assumption | (simp only [List.length_cons, List.length_nil, List.length_append, List.length_replicate, List.length_take, List.length_drop]; omega)) only [den, dens, deno, denc, deni, denS, denSs, fin_nx, fin_rt, Res.bind_ok, Res.bind_exc, truth, partD, getV, setV, setAll, storeT, wipeV, binD_add, binD_sub, binD_mul, binD_fdiv, binD_mod, cmp_lt, cmp_le, cmp_gt, cmp_ge, cmp_eqi, cmp_nei, cmp_eqb, cmp_neb, cmp_eqs, cmp_nes, cmp_is, cmp_isNot, isn_int, isn_non, isn_tup, isn_lst, isn_str, isTy, isFn, ix0, ix1, ix2, ix3, ix4, ix5, ixm1, blt_lenc, blt_lent, blt_lenl, blt_lens, blt_abs, blt_inti, blt_intb, blt_tupt, blt_tupl, blt_lstt, blt_lstl, blt_max, blt_min, slice_tup, slice_lst, List.length_cons, List.length_nil, Nat.reduceAdd, Nat.reduceLeDiff, ↓reduceIte, reduceCtorEq, Bool.false_eq_true, Bool.not_true, Bool.not_false, Bool.not_eq_true, decide_eq_true_eq, decide_not, Bool.not_eq_eq_eq_not, maxl_num, Int.reduceEq, Int.reduceLT, Int.reduceLE, Int.reduceNeg, Int.reduceToNat, decide_true, decide_false, Bool.true_and, Bool.false_and, Bool.and_true, Bool.and_false, Bool.not_true, Bool.not_false, not_true_eq_false, not_false_eq_true, Nat.reduceEqDiff, nc0, nc1, nc2, nc3, nc4, nc5, nc6, nc7, nc8, nc9, nc10, nc11, nc12, g0, g1, g2, g3, g4, callAt, callLow, CLk, told_ok, told_x0, told_x1, told_x2, told_x3, told_x4, hp]) (or_ (by simp (disch := first | omega | assumption | (simp only [List.length_cons, List.length_nil, List.length_append, List.length_replicate, List.length_take, List.length_drop]; omega)) only [den, dens, deno, denc, deni, denS, denSs, fin_nx, fin_rt, Res.bind_ok, Res.bind_exc, truth, partD, getV, setV, setAll, storeT, wipeV, binD_add, binD_sub, binD_mul, binD_fdiv, binD_mod, cmp_lt, cmp_le, cmp_gt, cmp_ge, cmp_eqi, cmp_nei, cmp_eqb, cmp_neb, cmp_eqs, cmp_nes, cmp_is, cmp_isNot, isn_int, isn_non, isn_tup, isn_lst, isn_str, isTy, isFn, ix0, ix1, ix2, ix3, ix4, ix5, ixm1, blt_lenc, blt_lent, blt_lenl, blt_lens, blt_abs, blt_inti, blt_intb, blt_tupt, blt_tupl, blt_lstt, blt_lstl, blt_max, blt_min, slice_tup, slice_lst, List.length_cons, List.length_nil, Nat.reduceAdd, Nat.reduceLeDiff, ↓reduceIte, reduceCtorEq, Bool.false_eq_true, Bool.not_true, Bool.not_false, Bool.not_eq_true, decide_eq_true_eq, decide_not, Bool.not_eq_eq_eq_not, maxl_num, Int.reduceEq, Int.reduceLT, Int.reduceLE, Int.reduceNeg, Int.reduceToNat, decide_true, decide_false, Bool.true_and, Bool.false_and, Bool.and_true, Bool.and_false, Bool.not_true, Bool.not_false, not_true_eq_false, not_false_eq_true, Nat.reduceEqDiff, nc0, nc1, nc2, nc3, nc4, nc5, nc6, nc7, nc8, nc9, nc10, nc11, nc12, g0, g1, g2, g3, g4, callAt, callLow, CLk, told_ok, told_x0, told_x1, told_x2, told_x3, told_x4, binD_rep, reps_one, binD_str, List.append_assoc])))
    · rw [if_neg hp]
      have el : (1 - b - ((figS a).length : Int)).toNat = (1 - b).toNat - (figS a).length := by omega
      have l5 := cut_le (List.replicate ((1 - b).toNat - (figS a).length) 48 ++ figS a) none (some b)
      have l6 := cut_le (List.replicate ((1 - b).toNat - (figS a).length) 48 ++ figS a) (some b) none
      simp only [List.length_append, List.length_replicate] at l5 l6
      refine sif_ (by simp (disch := first | omega | assumption | (simp only [List.length_cons, List.length_nil, List.length_append, List.length_replicate, List.length_take, List.length_drop]; omega)) only [den, dens, deno, denc, deni, denS, denSs, fin_nx, fin_rt, Res.bind_ok, Res.bind_exc, truth, partD, getV, setV, setAll, storeT, wipeV, binD_add, binD_sub, binD_mul, binD_fdiv, binD_mod, cmp_lt, cmp_le, cmp_gt, cmp_ge, cmp_eqi, cmp_nei, cmp_eqb, cmp_neb, cmp_eqs, cmp_nes, cmp_is, cmp_isNot, isn_int, isn_non, isn_tup, isn_lst, isn_str, isTy, isFn, ix0, ix1, ix2, ix3, ix4, ix5, ixm1, blt_lenc, blt_lent, blt_lenl, blt_lens, blt_abs, blt_inti, blt_intb, blt_tupt, blt_tupl, blt_lstt, blt_lstl, blt_max, blt_min, slice_tup, slice_lst, List.length_cons, List.length_nil, Nat.reduceAdd, Nat.reduceLeDiff, ↓reduceIte, reduceCtorEq, Bool.false_eq_true, Bool.not_true, Bool.not_false, Bool.not_eq_true, decide_eq_true_eq, decide_not, Bool.not_eq_eq_eq_not, maxl_num, Int.reduceEq, Int.reduceLT, Int.reduceLE, Int.reduceNeg, Int.reduceToNat, decide_true, decide_false, Bool.true_and, Bool.false_and, Bool.and_true, Bool.and_false, Bool.not_true, Bool.not_false, not_true_eq_false, not_false_eq_true, Nat.reduceEqDiff, nc0, nc1, nc2, nc3, nc4, nc5, nc6, nc7, nc8, nc9, nc10, nc11, nc12, g0, g1, g2, g3, g4, callAt, callLow, CLk, told_ok, told_x0, told_x1, told_x2, told_x3, told_x4, hp]) (st_ (by simp (disch := first | omega | assumption | (simp only [List.length_cons, List.length_nil, List.length_append, List.length_replicate, List.length_take, List.length_drop]; omega)) only [den, dens, deno, denc, deni, denS, denSs, fin_nx, fin_rt, Res.bind_ok, Res.bind_exc, truth, partD, getV, setV, setAll, storeT, wipeV, binD_add, binD_sub, binD_mul, binD_fdiv, binD_mod, cmp_lt, cmp_le, cmp_gt, cmp_ge, cmp_eqi, cmp_nei, cmp_eqb, cmp_neb, cmp_eqs, cmp_nes, cmp_is, cmp_isNot, isn_int, isn_non, isn_tup, isn_lst, isn_str, isTy, isFn, ix0, ix1, ix2, ix3, ix4, ix5, ixm1, blt_lenc, blt_lent, blt_lenl, blt_lens, blt_abs, blt_inti, blt_intb, blt_tupt, blt_tupl, blt_lstt, blt_lstl, blt_max, blt_min, slice_tup, slice_lst, List.length_cons, List.length_nil, Nat.reduceAdd, Nat.reduceLeDiff, ↓reduceIte, reduceCtorEq, Bool.false_eq_true, Bool.not_true, Bool.not_false, Bool.not_eq_true, decide_eq_true_eq, decide_not, Bool.not_eq_eq_eq_not, maxl_num, Int.reduceEq, Int.reduceLT, Int.reduceLE, Int.reduceNeg, Int.reduceToNat, decide_true, decide_false, Bool.true_and, Bool.false_and, Bool.and_true, Bool.and_false, Bool.not_true, Bool.not_false, not_true_eq_false, not_false_eq_true, Nat.reduceEqDiff, nc0, nc1, nc2, nc3, nc4, nc5, nc6, nc7, nc8, nc9, nc10, nc11, nc12, g0, g1, g2, g3, g4, callAt, callLow, CLk, told_ok, told_x0, told_x1, told_x2, told_x3, told_x4, binD_rep, reps_one, binD_str, el] <;> rfl) (sr_ (by simp (disch := first | omega | assumption | (simp only [List.length_cons, List.length_nil, List.length_append, List.length_replicate, List.length_take, List.length_drop]; omega)) only [den, dens, deno, denc, deni, denS, denSs, fin_nx, fin_rt, Res.bind_ok, Res.bind_exc, truth, partD, getV, setV, setAll, storeT, wipeV, binD_add, binD_sub, binD_mul, binD_fdiv, binD_mod, cmp_lt, cmp_le, cmp_gt, cmp_ge, cmp_eqi, cmp_nei, cmp_eqb, cmp_neb, cmp_eqs, cmp_nes, cmp_is, cmp_isNot, isn_int, isn_non, isn_tup, isn_lst, isn_str, isTy, isFn, ix0, ix1, ix2, ix3, ix4, ix5, ixm1, blt_lenc, blt_lent, blt_lenl, blt_lens, blt_abs, blt_inti, blt_intb, blt_tupt, blt_tupl, blt_lstt, blt_lstl, blt_max, blt_min, slice_tup, slice_lst, List.length_cons, List.length_nil, Nat.reduceAdd, Nat.reduceLeDiff, ↓reduceIte, reduceCtorEq, Bool.false_eq_true, Bool.not_true, Bool.not_false, Bool.not_eq_true, decide_eq_true_eq, decide_not, Bool.not_eq_eq_eq_not, maxl_num, Int.reduceEq, Int.reduceLT, Int.reduceLE, Int.reduceNeg, Int.reduceToNat, decide_true, decide_false, Bool.true_and, Bool.false_and, Bool.and_true, Bool.and_false, Bool.not_true, Bool.not_false, not_true_eq_false, not_false_eq_true, Nat.reduceEqDiff, nc0, nc1, nc2, nc3, nc4, nc5, nc6, nc7, nc8, nc9, nc10, nc11, nc12, g0, g1, g2, g3, g4, callAt, callLow, CLk, told_ok, told_x0, told_x1, told_x2, told_x3, told_x4, slice_str, binD_str, List.append_assoc])))
  · rw [if_neg h1]
    have dot : reps (Int.toNat (if 1 < ((figS a).length : Int) then 1 else 0)) [46] = (if 1 < (figS a).length then [46] else []) := by
      by_cases h3 : 1 < (figS a).length
      · have h3' : (1 : Int) < ((figS a).length : Int) := by omega
        simp only [h3, h3', if_true]
        rfl
      · have h3' : ¬(1 : Int) < ((figS a).length : Int) := by omega
        simp only [h3, h3', if_false]
        rfl
    have d0 : (if (1 : Int) < ((figS a).length : Int) then (1 : Int) else 0) ≤ 1000000 ∧ -1000000 ≤ (if (1 : Int) < ((figS a).length : Int) then (1 : Int) else 0) := by split <;> omega
    have d1 : 1 * (if (1 : Int) < ((figS a).length : Int) then (1 : Int) else 0).toNat ≤ 16777216 := by split <;> simp
    have d2 : (if 1 < (figS a).length then [46] else []).length ≤ 1 := by split <;> simp
    have hn : den (CL (k + 2)) (glOf GS) (match B18 with
      | .cons _ (.cons _ (.cons _ (.cons _ (.cons (.iff c _ _) _)))) => c
      | _ => .lit .non) [.pu (.tup [.int a, .int b]), .pu (.int a), .pu (.int b), .pu (.str (signT a)), .pu (.str (figS a)), .pu (.int (b + fig a - 1))] = .ok (.bl true) := by
      unfold B18
      by_cases h2 : -4 ≤ b + fig a - 1
      · have h3 : ¬b + fig a - 1 ≤ 9 := fun h => h1 ⟨h2, h⟩
        simp (disch := first | omega | assumption | (simp only [List.length_cons, List.length_nil, List.length_append, List.length_replicate, List.length_take, List.length_drop]; omega)) only [den, dens, deno, denc, deni, denS, denSs, fin_nx, fin_rt, Res.bind_ok, Res.bind_exc, truth, partD, getV, setV, setAll, storeT, wipeV, binD_add, binD_sub, binD_mul, binD_fdiv, binD_mod, cmp_lt, cmp_le, cmp_gt, cmp_ge, cmp_eqi, cmp_nei, cmp_eqb, cmp_neb, cmp_eqs, cmp_nes, cmp_is, cmp_isNot, isn_int, isn_non, isn_tup, isn_lst, isn_str, isTy, isFn, ix0, ix1, ix2, ix3, ix4, ix5, ixm1, blt_lenc, blt_lent, blt_lenl, blt_lens, blt_abs, blt_inti, blt_intb, blt_tupt, blt_tupl, blt_lstt, blt_lstl, blt_max, blt_min, slice_tup, slice_lst, List.length_cons, List.length_nil, Nat.reduceAdd, Nat.reduceLeDiff, ↓reduceIte, reduceCtorEq, Bool.false_eq_true, Bool.not_true, Bool.not_false, Bool.not_eq_true, decide_eq_true_eq, decide_not, Bool.not_eq_eq_eq_not, maxl_num, Int.reduceEq, Int.reduceLT, Int.reduceLE, Int.reduceNeg, Int.reduceToNat, decide_true, decide_false, Bool.true_and, Bool.false_and, Bool.and_true, Bool.and_false, Bool.not_true, Bool.not_false, not_true_eq_false, not_false_eq_true, Nat.reduceEqDiff, nc0, nc1, nc2, nc3, nc4, nc5, nc6, nc7, nc8, nc9, nc10, nc11, nc12, g0, g1, g2, g3, g4, callAt, callLow, CLk, told_ok, told_x0, told_x1, told_x2, told_x3, told_x4, h2, h3]
      · simp (disch := first | omega | assumption | (simp only [List.length_cons, List.length_nil, List.length_append, List.length_replicate, List.length_take, List.length_drop]; omega)) only [den, dens, deno, denc, deni, denS, denSs, fin_nx, fin_rt, Res.bind_ok, Res.bind_exc, truth, partD, getV, setV, setAll, storeT, wipeV, binD_add, binD_sub, binD_mul, binD_fdiv, binD_mod, cmp_lt, cmp_le, cmp_gt, cmp_ge, cmp_eqi, cmp_nei, cmp_eqb, cmp_neb, cmp_eqs, cmp_nes, cmp_is, cmp_isNot, isn_int, isn_non, isn_tup, isn_lst, isn_str, isTy, isFn, ix0, ix1, ix2, ix3, ix4, ix5, ixm1, blt_lenc, blt_lent, blt_lenl, blt_lens, blt_abs, blt_inti, blt_intb, blt_tupt, blt_tupl, blt_lstt, blt_lstl, blt_max, blt_min, slice_tup, slice_lst, List.length_cons, List.length_nil, Nat.reduceAdd, Nat.reduceLeDiff, ↓reduceIte, reduceCtorEq, Bool.false_eq_true, Bool.not_true, Bool.not_false, Bool.not_eq_true, decide_eq_true_eq, decide_not, Bool.not_eq_eq_eq_not, maxl_num, Int.reduceEq, Int.reduceLT, Int.reduceLE, Int.reduceNeg, Int.reduceToNat, decide_true, decide_false, Bool.true_and, Bool.false_and, Bool.and_true, Bool.and_false, Bool.not_true, Bool.not_false, not_true_eq_false, not_false_eq_true, Nat.reduceEqDiff, nc0, nc1, nc2, nc3, nc4, nc5, nc6, nc7, nc8, nc9, nc10, nc11, nc12, g0, g1, g2, g3, g4, callAt, callLow, CLk, told_ok, told_x0, told_x1, told_x2, told_x3, told_x4, h2]
    refine sr_ (oit_ hn (or_ ?_))
    have q1 := d0.1
    have q2 := d0.2
    simp (disch := first | omega | assumption | (simp only [List.length_cons, List.length_nil, List.length_append, List.length_replicate, List.length_take, List.length_drop]; omega)) only [den, dens, deno, denc, deni, denS, denSs, fin_nx, fin_rt, Res.bind_ok, Res.bind_exc, truth, partD, getV, setV, setAll, storeT, wipeV, binD_add, binD_sub, binD_mul, binD_fdiv, binD_mod, cmp_lt, cmp_le, cmp_gt, cmp_ge, cmp_eqi, cmp_nei, cmp_eqb, cmp_neb, cmp_eqs, cmp_nes, cmp_is, cmp_isNot, isn_int, isn_non, isn_tup, isn_lst, isn_str, isTy, isFn, ix0, ix1, ix2, ix3, ix4, ix5, ixm1, blt_lenc, blt_lent, blt_lenl, blt_lens, blt_abs, blt_inti, blt_intb, blt_tupt, blt_tupl, blt_lstt, blt_lstl, blt_max, blt_min, slice_tup, slice_lst, List.length_cons, List.length_nil, Nat.reduceAdd, Nat.reduceLeDiff, ↓reduceIte, reduceCtorEq, Bool.false_eq_true, Bool.not_true, Bool.not_false, Bool.not_eq_true, decide_eq_true_eq, decide_not, Bool.not_eq_eq_eq_not, maxl_num, Int.reduceEq, Int.reduceLT, Int.reduceLE, Int.reduceNeg, Int.reduceToNat, decide_true, decide_false, Bool.true_and, Bool.false_and, Bool.and_true, Bool.and_false, Bool.not_true, Bool.not_false, not_true_eq_false, not_false_eq_true, Nat.reduceEqDiff, nc0, nc1, nc2, nc3, nc4, nc5, nc6, nc7, nc8, nc9, nc10, nc11, nc12, g0, g1, g2, g3, g4, callAt, callLow, CLk, told_ok, told_x0, told_x1, told_x2, told_x3, told_x4, slice_str, cut_take1, cut_drop1, binD_rep, dot, binD_str, blt_stri bh.1 bh.2, List.append_assoc]
theorem lisnumber {k : Nat} (hk : 2 ≤ k) {d : D} (h : Fine d) : C k 17 [d] = .ok (.bl (numB d)) := by
  obtain ⟨k, rfl⟩ : ∃ j, k = j + 2 := ⟨k - 2, by omega⟩
  rw [c17]
  unfold B17
  match d, h with
  | .tup [], _ => simp (disch := first | omega | assumption | (simp only [List.length_cons, List.length_nil, List.length_append, List.length_replicate, List.length_take, List.length_drop]; omega)) only [den, dens, deno, denc, deni, denS, denSs, fin_nx, fin_rt, Res.bind_ok, Res.bind_exc, truth, partD, getV, setV, setAll, storeT, wipeV, binD_add, binD_sub, binD_mul, binD_fdiv, binD_mod, cmp_lt, cmp_le, cmp_gt, cmp_ge, cmp_eqi, cmp_nei, cmp_eqb, cmp_neb, cmp_eqs, cmp_nes, cmp_is, cmp_isNot, isn_int, isn_non, isn_tup, isn_lst, isn_str, isTy, isFn, ix0, ix1, ix2, ix3, ix4, ix5, ixm1, blt_lenc, blt_lent, blt_lenl, blt_lens, blt_abs, blt_inti, blt_intb, blt_tupt, blt_tupl, blt_lstt, blt_lstl, blt_max, blt_min, slice_tup, slice_lst, List.length_cons, List.length_nil, Nat.reduceAdd, Nat.reduceLeDiff, ↓reduceIte, reduceCtorEq, Bool.false_eq_true, Bool.not_true, Bool.not_false, Bool.not_eq_true, decide_eq_true_eq, decide_not, Bool.not_eq_eq_eq_not, maxl_num, Int.reduceEq, Int.reduceLT, Int.reduceLE, Int.reduceNeg, Int.reduceToNat, decide_true, decide_false, Bool.true_and, Bool.false_and, Bool.and_true, Bool.and_false, Bool.not_true, Bool.not_false, not_true_eq_false, not_false_eq_true, Nat.reduceEqDiff, nc0, nc1, nc2, nc3, nc4, nc5, nc6, nc7, nc8, nc9, nc10, nc11, nc12, g0, g1, g2, g3, g4, callAt, callLow, CLk, told_ok, told_x0, told_x1, told_x2, told_x3, told_x4]; rfl
  | .tup [x], _ => simp (disch := first | omega | assumption | (simp only [List.length_cons, List.length_nil, List.length_append, List.length_replicate, List.length_take, List.length_drop]; omega)) only [den, dens, deno, denc, deni, denS, denSs, fin_nx, fin_rt, Res.bind_ok, Res.bind_exc, truth, partD, getV, setV, setAll, storeT, wipeV, binD_add, binD_sub, binD_mul, binD_fdiv, binD_mod, cmp_lt, cmp_le, cmp_gt, cmp_ge, cmp_eqi, cmp_nei, cmp_eqb, cmp_neb, cmp_eqs, cmp_nes, cmp_is, cmp_isNot, isn_int, isn_non, isn_tup, isn_lst, isn_str, isTy, isFn, ix0, ix1, ix2, ix3, ix4, ix5, ixm1, blt_lenc, blt_lent, blt_lenl, blt_lens, blt_abs, blt_inti, blt_intb, blt_tupt, blt_tupl, blt_lstt, blt_lstl, blt_max, blt_min, slice_tup, slice_lst, List.length_cons, List.length_nil, Nat.reduceAdd, Nat.reduceLeDiff, ↓reduceIte, reduceCtorEq, Bool.false_eq_true, Bool.not_true, Bool.not_false, Bool.not_eq_true, decide_eq_true_eq, decide_not, Bool.not_eq_eq_eq_not, maxl_num, Int.reduceEq, Int.reduceLT, Int.reduceLE, Int.reduceNeg, Int.reduceToNat, decide_true, decide_false, Bool.true_and, Bool.false_and, Bool.and_true, Bool.and_false, Bool.not_true, Bool.not_false, not_true_eq_false, not_false_eq_true, Nat.reduceEqDiff, nc0, nc1, nc2, nc3, nc4, nc5, nc6, nc7, nc8, nc9, nc10, nc11, nc12, g0, g1, g2, g3, g4, callAt, callLow, CLk, told_ok, told_x0, told_x1, told_x2, told_x3, told_x4, numB1]
  | .tup (x :: y :: z :: r), _ =>
    have : ¬((((r.length + 1 + 1 + 1 : Nat)) : Int) = 2) := by omega
    simp (disch := first | omega | assumption | (simp only [List.length_cons, List.length_nil, List.length_append, List.length_replicate, List.length_take, List.length_drop]; omega)) only [den, dens, deno, denc, deni, denS, denSs, fin_nx, fin_rt, Res.bind_ok, Res.bind_exc, truth, partD, getV, setV, setAll, storeT, wipeV, binD_add, binD_sub, binD_mul, binD_fdiv, binD_mod, cmp_lt, cmp_le, cmp_gt, cmp_ge, cmp_eqi, cmp_nei, cmp_eqb, cmp_neb, cmp_eqs, cmp_nes, cmp_is, cmp_isNot, isn_int, isn_non, isn_tup, isn_lst, isn_str, isTy, isFn, ix0, ix1, ix2, ix3, ix4, ix5, ixm1, blt_lenc, blt_lent, blt_lenl, blt_lens, blt_abs, blt_inti, blt_intb, blt_tupt, blt_tupl, blt_lstt, blt_lstl, blt_max, blt_min, slice_tup, slice_lst, List.length_cons, List.length_nil, Nat.reduceAdd, Nat.reduceLeDiff, ↓reduceIte, reduceCtorEq, Bool.false_eq_true, Bool.not_true, Bool.not_false, Bool.not_eq_true, decide_eq_true_eq, decide_not, Bool.not_eq_eq_eq_not, maxl_num, Int.reduceEq, Int.reduceLT, Int.reduceLE, Int.reduceNeg, Int.reduceToNat, decide_true, decide_false, Bool.true_and, Bool.false_and, Bool.and_true, Bool.and_false, Bool.not_true, Bool.not_false, not_true_eq_false, not_false_eq_true, Nat.reduceEqDiff, nc0, nc1, nc2, nc3, nc4, nc5, nc6, nc7, nc8, nc9, nc10, nc11, nc12, g0, g1, g2, g3, g4, callAt, callLow, CLk, told_ok, told_x0, told_x1, told_x2, told_x3, told_x4, this, decide_false, numB3]
  | .tup [x, y], h =>
    have hx : FineI x := h x (by simp)
    have hy : FineI y := h y (by simp)
    have e2 : ((2 : Nat) : Int) = 2 := rfl
    simp (disch := first | omega | assumption | (simp only [List.length_cons, List.length_nil, List.length_append, List.length_replicate, List.length_take, List.length_drop]; omega)) only [den, dens, deno, denc, deni, denS, denSs, fin_nx, fin_rt, Res.bind_ok, Res.bind_exc, truth, partD, getV, setV, setAll, storeT, wipeV, binD_add, binD_sub, binD_mul, binD_fdiv, binD_mod, cmp_lt, cmp_le, cmp_gt, cmp_ge, cmp_eqi, cmp_nei, cmp_eqb, cmp_neb, cmp_eqs, cmp_nes, cmp_is, cmp_isNot, isn_int, isn_non, isn_tup, isn_lst, isn_str, isTy, isFn, ix0, ix1, ix2, ix3, ix4, ix5, ixm1, blt_lenc, blt_lent, blt_lenl, blt_lens, blt_abs, blt_inti, blt_intb, blt_tupt, blt_tupl, blt_lstt, blt_lstl, blt_max, blt_min, slice_tup, slice_lst, List.length_cons, List.length_nil, Nat.reduceAdd, Nat.reduceLeDiff, ↓reduceIte, reduceCtorEq, Bool.false_eq_true, Bool.not_true, Bool.not_false, Bool.not_eq_true, decide_eq_true_eq, decide_not, Bool.not_eq_eq_eq_not, maxl_num, Int.reduceEq, Int.reduceLT, Int.reduceLE, Int.reduceNeg, Int.reduceToNat, decide_true, decide_false, Bool.true_and, Bool.false_and, Bool.and_true, Bool.and_false, Bool.not_true, Bool.not_false, not_true_eq_false, not_false_eq_true, Nat.reduceEqDiff, nc0, nc1, nc2, nc3, nc4, nc5, nc6, nc7, nc8, nc9, nc10, nc11, nc12, g0, g1, g2, g3, g4, callAt, callLow, CLk, told_ok, told_x0, told_x1, told_x2, told_x3, told_x4, e2, decide_true, for_name, for_nil]
    cases x <;> first | exact hx.elim | (simp (disch := first | omega | assumption | (simp only [List.length_cons, List.length_nil, List.length_append, List.length_replicate, List.length_take, List.length_drop]; omega)) only [den, dens, deno, denc, deni, denS, denSs, fin_nx, fin_rt, Res.bind_ok, Res.bind_exc, truth, partD, getV, setV, setAll, storeT, wipeV, binD_add, binD_sub, binD_mul, binD_fdiv, binD_mod, cmp_lt, cmp_le, cmp_gt, cmp_ge, cmp_eqi, cmp_nei, cmp_eqb, cmp_neb, cmp_eqs, cmp_nes, cmp_is, cmp_isNot, isn_int, isn_non, isn_tup, isn_lst, isn_str, isTy, isFn, ix0, ix1, ix2, ix3, ix4, ix5, ixm1, blt_lenc, blt_lent, blt_lenl, blt_lens, blt_abs, blt_inti, blt_intb, blt_tupt, blt_tupl, blt_lstt, blt_lstl, blt_max, blt_min, slice_tup, slice_lst, List.length_cons, List.length_nil, Nat.reduceAdd, Nat.reduceLeDiff, ↓reduceIte, reduceCtorEq, Bool.false_eq_true, Bool.not_true, Bool.not_false, Bool.not_eq_true, decide_eq_true_eq, decide_not, Bool.not_eq_eq_eq_not, maxl_num, Int.reduceEq, Int.reduceLT, Int.reduceLE, Int.reduceNeg, Int.reduceToNat, decide_true, decide_false, Bool.true_and, Bool.false_and, Bool.and_true, Bool.and_false, Bool.not_true, Bool.not_false, not_true_eq_false, not_false_eq_true, Nat.reduceEqDiff, nc0, nc1, nc2, nc3, nc4, nc5, nc6, nc7, nc8, nc9, nc10, nc11, nc12, g0, g1, g2, g3, g4, callAt, callLow, CLk, told_ok, told_x0, told_x1, told_x2, told_x3, told_x4]; rfl) | skip
    cases y <;> first | exact hy.elim | (simp (disch := first | omega | assumption | (simp only [List.length_cons, List.length_nil, List.length_append, List.length_replicate, List.length_take, List.length_drop]; omega)) only [den, dens, deno, denc, deni, denS, denSs, fin_nx, fin_rt, Res.bind_ok, Res.bind_exc, truth, partD, getV, setV, setAll, storeT, wipeV, binD_add, binD_sub, binD_mul, binD_fdiv, binD_mod, cmp_lt, cmp_le, cmp_gt, cmp_ge, cmp_eqi, cmp_nei, cmp_eqb, cmp_neb, cmp_eqs, cmp_nes, cmp_is, cmp_isNot, isn_int, isn_non, isn_tup, isn_lst, isn_str, isTy, isFn, ix0, ix1, ix2, ix3, ix4, ix5, ixm1, blt_lenc, blt_lent, blt_lenl, blt_lens, blt_abs, blt_inti, blt_intb, blt_tupt, blt_tupl, blt_lstt, blt_lstl, blt_max, blt_min, slice_tup, slice_lst, List.length_cons, List.length_nil, Nat.reduceAdd, Nat.reduceLeDiff, ↓reduceIte, reduceCtorEq, Bool.false_eq_true, Bool.not_true, Bool.not_false, Bool.not_eq_true, decide_eq_true_eq, decide_not, Bool.not_eq_eq_eq_not, maxl_num, Int.reduceEq, Int.reduceLT, Int.reduceLE, Int.reduceNeg, Int.reduceToNat, decide_true, decide_false, Bool.true_and, Bool.false_and, Bool.and_true, Bool.and_false, Bool.not_true, Bool.not_false, not_true_eq_false, not_false_eq_true, Nat.reduceEqDiff, nc0, nc1, nc2, nc3, nc4, nc5, nc6, nc7, nc8, nc9, nc10, nc11, nc12, g0, g1, g2, g3, g4, callAt, callLow, CLk, told_ok, told_x0, told_x1, told_x2, told_x3, told_x4]; rfl) | skip
    rename_i a b
    have hh : C (k + 1) 14 [.tup [.int a, .int b]] = .ok (.int (b + fig a - 1)) := lheight (k := k + 1) (by omega) hx
    simp (disch := first | omega | assumption | (simp only [List.length_cons, List.length_nil, List.length_append, List.length_replicate, List.length_take, List.length_drop]; omega)) only [den, dens, deno, denc, deni, denS, denSs, fin_nx, fin_rt, Res.bind_ok, Res.bind_exc, truth, partD, getV, setV, setAll, storeT, wipeV, binD_add, binD_sub, binD_mul, binD_fdiv, binD_mod, cmp_lt, cmp_le, cmp_gt, cmp_ge, cmp_eqi, cmp_nei, cmp_eqb, cmp_neb, cmp_eqs, cmp_nes, cmp_is, cmp_isNot, isn_int, isn_non, isn_tup, isn_lst, isn_str, isTy, isFn, ix0, ix1, ix2, ix3, ix4, ix5, ixm1, blt_lenc, blt_lent, blt_lenl, blt_lens, blt_abs, blt_inti, blt_intb, blt_tupt, blt_tupl, blt_lstt, blt_lstl, blt_max, blt_min, slice_tup, slice_lst, List.length_cons, List.length_nil, Nat.reduceAdd, Nat.reduceLeDiff, ↓reduceIte, reduceCtorEq, Bool.false_eq_true, Bool.not_true, Bool.not_false, Bool.not_eq_true, decide_eq_true_eq, decide_not, Bool.not_eq_eq_eq_not, maxl_num, Int.reduceEq, Int.reduceLT, Int.reduceLE, Int.reduceNeg, Int.reduceToNat, decide_true, decide_false, Bool.true_and, Bool.false_and, Bool.and_true, Bool.and_false, Bool.not_true, Bool.not_false, not_true_eq_false, not_false_eq_true, Nat.reduceEqDiff, nc0, nc1, nc2, nc3, nc4, nc5, nc6, nc7, nc8, nc9, nc10, nc11, nc12, g0, g1, g2, g3, g4, callAt, callLow, CLk, told_ok, told_x0, told_x1, told_x2, told_x3, told_x4]
    by_cases ha : a = 0
    · subst ha
      simp (disch := first | omega | assumption | (simp only [List.length_cons, List.length_nil, List.length_append, List.length_replicate, List.length_take, List.length_drop]; omega)) only [den, dens, deno, denc, deni, denS, denSs, fin_nx, fin_rt, Res.bind_ok, Res.bind_exc, truth, partD, getV, setV, setAll, storeT, wipeV, binD_add, binD_sub, binD_mul, binD_fdiv, binD_mod, cmp_lt, cmp_le, cmp_gt, cmp_ge, cmp_eqi, cmp_nei, cmp_eqb, cmp_neb, cmp_eqs, cmp_nes, cmp_is, cmp_isNot, isn_int, isn_non, isn_tup, isn_lst, isn_str, isTy, isFn, ix0, ix1, ix2, ix3, ix4, ix5, ixm1, blt_lenc, blt_lent, blt_lenl, blt_lens, blt_abs, blt_inti, blt_intb, blt_tupt, blt_tupl, blt_lstt, blt_lstl, blt_max, blt_min, slice_tup, slice_lst, List.length_cons, List.length_nil, Nat.reduceAdd, Nat.reduceLeDiff, ↓reduceIte, reduceCtorEq, Bool.false_eq_true, Bool.not_true, Bool.not_false, Bool.not_eq_true, decide_eq_true_eq, decide_not, Bool.not_eq_eq_eq_not, maxl_num, Int.reduceEq, Int.reduceLT, Int.reduceLE, Int.reduceNeg, Int.reduceToNat, decide_true, decide_false, Bool.true_and, Bool.false_and, Bool.and_true, Bool.and_false, Bool.not_true, Bool.not_false, not_true_eq_false, not_false_eq_true, Nat.reduceEqDiff, nc0, nc1, nc2, nc3, nc4, nc5, nc6, nc7, nc8, nc9, nc10, nc11, nc12, g0, g1, g2, g3, g4, callAt, callLow, CLk, told_ok, told_x0, told_x1, told_x2, told_x3, told_x4, decide_true]
      show Res.ok (D.bl _) = Res.ok (D.bl (decide (Numb 0 b)))
      rw [isNumb_zero]
    · simp (disch := first | omega | assumption | (simp only [List.length_cons, List.length_nil, List.length_append, List.length_replicate, List.length_take, List.length_drop]; omega)) only [den, dens, deno, denc, deni, denS, denSs, fin_nx, fin_rt, Res.bind_ok, Res.bind_exc, truth, partD, getV, setV, setAll, storeT, wipeV, binD_add, binD_sub, binD_mul, binD_fdiv, binD_mod, cmp_lt, cmp_le, cmp_gt, cmp_ge, cmp_eqi, cmp_nei, cmp_eqb, cmp_neb, cmp_eqs, cmp_nes, cmp_is, cmp_isNot, isn_int, isn_non, isn_tup, isn_lst, isn_str, isTy, isFn, ix0, ix1, ix2, ix3, ix4, ix5, ixm1, blt_lenc, blt_lent, blt_lenl, blt_lens, blt_abs, blt_inti, blt_intb, blt_tupt, blt_tupl, blt_lstt, blt_lstl, blt_max, blt_min, slice_tup, slice_lst, List.length_cons, List.length_nil, Nat.reduceAdd, Nat.reduceLeDiff, ↓reduceIte, reduceCtorEq, Bool.false_eq_true, Bool.not_true, Bool.not_false, Bool.not_eq_true, decide_eq_true_eq, decide_not, Bool.not_eq_eq_eq_not, maxl_num, Int.reduceEq, Int.reduceLT, Int.reduceLE, Int.reduceNeg, Int.reduceToNat, decide_true, decide_false, Bool.true_and, Bool.false_and, Bool.and_true, Bool.and_false, Bool.not_true, Bool.not_false, not_true_eq_false, not_false_eq_true, Nat.reduceEqDiff, nc0, nc1, nc2, nc3, nc4, nc5, nc6, nc7, nc8, nc9, nc10, nc11, nc12, g0, g1, g2, g3, g4, callAt, callLow, CLk, told_ok, told_x0, told_x1, told_x2, told_x3, told_x4, ha, decide_false]
      show _ = Res.ok (D.bl (decide (Numb a b)))
      rw [isNumb_eq ha]
      by_cases h1 : (if a < 0 then -a else a) < 100000000
      · by_cases h2 : a % 10 = 0
        · simp (disch := first | omega | assumption | (simp only [List.length_cons, List.length_nil, List.length_append, List.length_replicate, List.length_take, List.length_drop]; omega)) only [den, dens, deno, denc, deni, denS, denSs, fin_nx, fin_rt, Res.bind_ok, Res.bind_exc, truth, partD, getV, setV, setAll, storeT, wipeV, binD_add, binD_sub, binD_mul, binD_fdiv, binD_mod, cmp_lt, cmp_le, cmp_gt, cmp_ge, cmp_eqi, cmp_nei, cmp_eqb, cmp_neb, cmp_eqs, cmp_nes, cmp_is, cmp_isNot, isn_int, isn_non, isn_tup, isn_lst, isn_str, isTy, isFn, ix0, ix1, ix2, ix3, ix4, ix5, ixm1, blt_lenc, blt_lent, blt_lenl, blt_lens, blt_abs, blt_inti, blt_intb, blt_tupt, blt_tupl, blt_lstt, blt_lstl, blt_max, blt_min, slice_tup, slice_lst, List.length_cons, List.length_nil, Nat.reduceAdd, Nat.reduceLeDiff, ↓reduceIte, reduceCtorEq, Bool.false_eq_true, Bool.not_true, Bool.not_false, Bool.not_eq_true, decide_eq_true_eq, decide_not, Bool.not_eq_eq_eq_not, maxl_num, Int.reduceEq, Int.reduceLT, Int.reduceLE, Int.reduceNeg, Int.reduceToNat, decide_true, decide_false, Bool.true_and, Bool.false_and, Bool.and_true, Bool.and_false, Bool.not_true, Bool.not_false, not_true_eq_false, not_false_eq_true, Nat.reduceEqDiff, nc0, nc1, nc2, nc3, nc4, nc5, nc6, nc7, nc8, nc9, nc10, nc11, nc12, g0, g1, g2, g3, g4, callAt, callLow, CLk, told_ok, told_x0, told_x1, told_x2, told_x3, told_x4, h1, h2, decide_true, decide_false, Bool.true_and, Bool.false_and]
        · by_cases h3 : -40 ≤ b + fig a - 1
          · simp (disch := first | omega | assumption | (simp only [List.length_cons, List.length_nil, List.length_append, List.length_replicate, List.length_take, List.length_drop]; omega)) only [den, dens, deno, denc, deni, denS, denSs, fin_nx, fin_rt, Res.bind_ok, Res.bind_exc, truth, partD, getV, setV, setAll, storeT, wipeV, binD_add, binD_sub, binD_mul, binD_fdiv, binD_mod, cmp_lt, cmp_le, cmp_gt, cmp_ge, cmp_eqi, cmp_nei, cmp_eqb, cmp_neb, cmp_eqs, cmp_nes, cmp_is, cmp_isNot, isn_int, isn_non, isn_tup, isn_lst, isn_str, isTy, isFn, ix0, ix1, ix2, ix3, ix4, ix5, ixm1, blt_lenc, blt_lent, blt_lenl, blt_lens, blt_abs, blt_inti, blt_intb, blt_tupt, blt_tupl, blt_lstt, blt_lstl, blt_max, blt_min, slice_tup, slice_lst, List.length_cons, List.length_nil, Nat.reduceAdd, Nat.reduceLeDiff, ↓reduceIte, reduceCtorEq, Bool.false_eq_true, Bool.not_true, Bool.not_false, Bool.not_eq_true, decide_eq_true_eq, decide_not, Bool.not_eq_eq_eq_not, maxl_num, Int.reduceEq, Int.reduceLT, Int.reduceLE, Int.reduceNeg, Int.reduceToNat, decide_true, decide_false, Bool.true_and, Bool.false_and, Bool.and_true, Bool.and_false, Bool.not_true, Bool.not_false, not_true_eq_false, not_false_eq_true, Nat.reduceEqDiff, nc0, nc1, nc2, nc3, nc4, nc5, nc6, nc7, nc8, nc9, nc10, nc11, nc12, g0, g1, g2, g3, g4, callAt, callLow, CLk, told_ok, told_x0, told_x1, told_x2, told_x3, told_x4, h1, h2, h3, hh, decide_true, decide_false, Bool.true_and, Bool.false_and]
          · simp (disch := first | omega | assumption | (simp only [List.length_cons, List.length_nil, List.length_append, List.length_replicate, List.length_take, List.length_drop]; omega)) only [den, dens, deno, denc, deni, denS, denSs, fin_nx, fin_rt, Res.bind_ok, Res.bind_exc, truth, partD, getV, setV, setAll, storeT, wipeV, binD_add, binD_sub, binD_mul, binD_fdiv, binD_mod, cmp_lt, cmp_le, cmp_gt, cmp_ge, cmp_eqi, cmp_nei, cmp_eqb, cmp_neb, cmp_eqs, cmp_nes, cmp_is, cmp_isNot, isn_int, isn_non, isn_tup, isn_lst, isn_str, isTy, isFn, ix0, ix1, ix2, ix3, ix4, ix5, ixm1, blt_lenc, blt_lent, blt_lenl, blt_lens, blt_abs, blt_inti, blt_intb, blt_tupt, blt_tupl, blt_lstt, blt_lstl, blt_max, blt_min, slice_tup, slice_lst, List.length_cons, List.length_nil, Nat.reduceAdd, Nat.reduceLeDiff, ↓reduceIte, reduceCtorEq, Bool.false_eq_true, Bool.not_true, Bool.not_false, Bool.not_eq_true, decide_eq_true_eq, decide_not, Bool.not_eq_eq_eq_not, maxl_num, Int.reduceEq, Int.reduceLT, Int.reduceLE, Int.reduceNeg, Int.reduceToNat, decide_true, decide_false, Bool.true_and, Bool.false_and, Bool.and_true, Bool.and_false, Bool.not_true, Bool.not_false, not_true_eq_false, not_false_eq_true, Nat.reduceEqDiff, nc0, nc1, nc2, nc3, nc4, nc5, nc6, nc7, nc8, nc9, nc10, nc11, nc12, g0, g1, g2, g3, g4, callAt, callLow, CLk, told_ok, told_x0, told_x1, told_x2, told_x3, told_x4, h1, h2, h3, hh, decide_true, decide_false, Bool.true_and, Bool.false_and]
      · simp (disch := first | omega | assumption | (simp only [List.length_cons, List.length_nil, List.length_append, List.length_replicate, List.length_take, List.length_drop]; omega)) only [den, dens, deno, denc, deni, denS, denSs, fin_nx, fin_rt, Res.bind_ok, Res.bind_exc, truth, partD, getV, setV, setAll, storeT, wipeV, binD_add, binD_sub, binD_mul, binD_fdiv, binD_mod, cmp_lt, cmp_le, cmp_gt, cmp_ge, cmp_eqi, cmp_nei, cmp_eqb, cmp_neb, cmp_eqs, cmp_nes, cmp_is, cmp_isNot, isn_int, isn_non, isn_tup, isn_lst, isn_str, isTy, isFn, ix0, ix1, ix2, ix3, ix4, ix5, ixm1, blt_lenc, blt_lent, blt_lenl, blt_lens, blt_abs, blt_inti, blt_intb, blt_tupt, blt_tupl, blt_lstt, blt_lstl, blt_max, blt_min, slice_tup, slice_lst, List.length_cons, List.length_nil, Nat.reduceAdd, Nat.reduceLeDiff, ↓reduceIte, reduceCtorEq, Bool.false_eq_true, Bool.not_true, Bool.not_false, Bool.not_eq_true, decide_eq_true_eq, decide_not, Bool.not_eq_eq_eq_not, maxl_num, Int.reduceEq, Int.reduceLT, Int.reduceLE, Int.reduceNeg, Int.reduceToNat, decide_true, decide_false, Bool.true_and, Bool.false_and, Bool.and_true, Bool.and_false, Bool.not_true, Bool.not_false, not_true_eq_false, not_false_eq_true, Nat.reduceEqDiff, nc0, nc1, nc2, nc3, nc4, nc5, nc6, nc7, nc8, nc9, nc10, nc11, nc12, g0, g1, g2, g3, g4, callAt, callLow, CLk, told_ok, told_x0, told_x1, told_x2, told_x3, told_x4, h1, decide_true, decide_false, Bool.true_and, Bool.false_and]
  | .non, _ | .bl _, _ | .int _, _ | .str _, _ | .lst _, _ => simp (disch := first | omega | assumption | (simp only [List.length_cons, List.length_nil, List.length_append, List.length_replicate, List.length_take, List.length_drop]; omega)) only [den, dens, deno, denc, deni, denS, denSs, fin_nx, fin_rt, Res.bind_ok, Res.bind_exc, truth, partD, getV, setV, setAll, storeT, wipeV, binD_add, binD_sub, binD_mul, binD_fdiv, binD_mod, cmp_lt, cmp_le, cmp_gt, cmp_ge, cmp_eqi, cmp_nei, cmp_eqb, cmp_neb, cmp_eqs, cmp_nes, cmp_is, cmp_isNot, isn_int, isn_non, isn_tup, isn_lst, isn_str, isTy, isFn, ix0, ix1, ix2, ix3, ix4, ix5, ixm1, blt_lenc, blt_lent, blt_lenl, blt_lens, blt_abs, blt_inti, blt_intb, blt_tupt, blt_tupl, blt_lstt, blt_lstl, blt_max, blt_min, slice_tup, slice_lst, List.length_cons, List.length_nil, Nat.reduceAdd, Nat.reduceLeDiff, ↓reduceIte, reduceCtorEq, Bool.false_eq_true, Bool.not_true, Bool.not_false, Bool.not_eq_true, decide_eq_true_eq, decide_not, Bool.not_eq_eq_eq_not, maxl_num, Int.reduceEq, Int.reduceLT, Int.reduceLE, Int.reduceNeg, Int.reduceToNat, decide_true, decide_false, Bool.true_and, Bool.false_and, Bool.and_true, Bool.and_false, Bool.not_true, Bool.not_false, not_true_eq_false, not_false_eq_true, Nat.reduceEqDiff, nc0, nc1, nc2, nc3, nc4, nc5, nc6, nc7, nc8, nc9, nc10, nc11, nc12, g0, g1, g2, g3, g4, callAt, callLow, CLk, told_ok, told_x0, told_x1, told_x2, told_x3, told_x4]; rfl
/-! the law's own reading -/
theorem split_at : ∀ {l : List Nat} {c : Nat}, c ∈ l → ∃ a b, l = a ++ c :: b ∧ c ∉ a
  | [], c, h => absurd h List.not_mem_nil
  | x :: l, c, h => by
    by_cases e : x = c
    · subst e
      exact ⟨[], l, rfl, List.not_mem_nil⟩
    · have h : c ∈ l := by
        rcases List.mem_cons.mp h with z | z
        · exact absurd z.symm e
        · exact z
      obtain ⟨a, b, rfl, n⟩ := split_at h
      exact ⟨x :: a, b, rfl, fun z => by
        rcases List.mem_cons.mp z with z | z
        · exact e z.symm
        · exact n z⟩
theorem erase_at {a b : List Nat} {c : Nat} (h : c ∉ a) : (a ++ c :: b).erase c = a ++ b := by
  rw [List.erase_append_right _ h, List.erase_cons_head]
open PySem.Builtin.Str PySem.StrLaws in
theorem rep1_erase (l : List Nat) (c : Nat) : (rep1 (mkS l) (mkS [c]) (mkS [])).cps.toList = l.erase c := by
  unfold rep1
  have hl : (mkS l).length = l.length := rfl
  rw [hl]
  by_cases h : c ∈ l
  · obtain ⟨a, b, rfl, n⟩ := split_at h
    rw [occ_first n, erase_at n, if_neg (by simp [Str.length])]
    have e : partsBetween (mkS (a ++ c :: b)) [a.length] (mkS [c]).length = [strSub (mkS (a ++ c :: b)) 0 a.length, strSub (mkS (a ++ c :: b)) (a.length + 1) (a ++ c :: b).length] := rfl
    rw [e, glued_list]
    show (strSub (mkS (a ++ c :: b)) 0 a.length).cps.toList ++ ([] ++ ((strSub (mkS (a ++ c :: b)) (a.length + 1) (a ++ c :: b).length).cps.toList ++ [])) = _
    rw [sub_take, sub_drop, List.nil_append, List.append_nil, List.take_left]
    congr 1
    rw [show a.length + 1 = (a ++ [c]).length by simp, show a ++ c :: b = (a ++ [c]) ++ b by simp, List.drop_left]
  · rw [occ_none h, List.erase_of_not_mem h]
    rfl
theorem rep1_D {l : List Nat} (c : Nat) (hl : l.length ≤ 1000000) : mthD .replace (.str l) [.str [c], .str [], .int 1] = .ok (.str (l.erase c)) := by
  have e : mthD .replace (.str l) [.str [c], .str [], .int 1] = (if (1 : Int) = 1 ∧ [c] ≠ [] ∧ l.length + (l.length + 1) * ([] : List Nat).length ≤ MAXL then Res.ok (D.str (rep1 (mkS l) (mkS [c]) (mkS [])).cps.toList) else .bad) := rfl
  rw [e, if_pos ⟨rfl, by simp, by rw [maxl_num]; simp; omega⟩, rep1_erase]
/-- the first place of a sign, or -1 -/
def fnd (l : List Nat) (c : Nat) : Int := Txt.find (mkS l) (mkS [c])
theorem fnd_at {a b : List Nat} {c : Nat} (h : c ∉ a) : fnd (a ++ c :: b) c = a.length := by
  unfold fnd Txt.find
  have hl : (mkS (a ++ c :: b)).length = (a ++ c :: b).length := rfl
  rw [hl, occ_first h]
theorem fnd_no {l : List Nat} {c : Nat} (h : c ∉ l) : fnd l c = -1 := by
  unfold fnd Txt.find
  rw [occ_none h]
theorem fnd_bd (l : List Nat) (c : Nat) : -1 ≤ fnd l c ∧ fnd l c ≤ l.length := by
  by_cases h : c ∈ l
  · obtain ⟨a, b, rfl, n⟩ := split_at h
    rw [fnd_at n]
    simp
    omega
  · rw [fnd_no h]
    omega
theorem find_D (l : List Nat) (c : Nat) : mthD .find (.str l) [.str [c]] = .ok (.int (fnd l c)) := rfl
theorem mthTy_find (s : List Nat) : mthTy .find (.str s) = true := rfl
def optN (o : Option (Int × Int)) : D := match o with
  | some v => nD v
  | none => .non
theorem tidyE {k : Nat} (hk : 1 ≤ k) (w p : Int) : C k 15 [.int w, .int p] = .ok (nD (tidyV w p)) := by
  unfold tidyV
  by_cases z : w = 0
  · subst z
    exact tidyZ hk p
  · rw [if_neg z]
    exact tidyS hk w p z
theorem dueFin {k : Nat} (hk : 3 ≤ k) (t : List Nat) (p f h x y : SV) {dg pw : Int} (b : -100000000000000000000 < dg ∧ dg < 100000000000000000000) (hp : -1000 ≤ pw ∧ pw ≤ 1000) :
    (denSs (CL k) (glOf GS) (match B21 with | .cons _ (.cons _ (.cons _ (.cons _ (.cons _ (.cons _ (.cons _ (.cons _ (.cons _ r)))))))) => r | _ => .nil) [.pu (.str t), p, f, h, .pu (.int pw), .pu (.int dg), x, y]).bind fin = .ok (optN (filt t (some (tidyV dg pw)))) := by
  have td := tidyE (k := k) (by omega) dg pw
  have bd := tidyV_bd b hp
  generalize tidyV dg pw = g at *
  obtain ⟨b1, b2, b3, b4⟩ := bd
  have bb := b20
  have isn := lisnumber (k := k) (by omega) (d := nD g) (by
    unfold nD
    simp only [Fine, FineI, List.forall_mem_cons, List.not_mem_nil, false_imp_iff, implies_true, and_true]
    omega)
  have nb : numB (nD g) = decide (Numb g.1 g.2) := rfl
  rw [nb] at isn
  have wr := ltext (k := k) (by omega) (a := g.1) (b := g.2) ⟨by omega, by omega⟩ ⟨by omega, by omega⟩
  have wr : C k 18 [nD g] = .ok (.str (textT g.1 g.2)) := wr
  unfold B21
  have ef : optN (filt t (some g)) = if Numb g.1 g.2 ∧ textT g.1 g.2 = t then nD g else .non := by
    show optN (if Numb g.1 g.2 ∧ textT g.1 g.2 = t then some g else none) = _
    split <;> rfl
  rw [ef]
  generalize nD g = d at *
  refine st_ (by simp (disch := first | omega | assumption | (simp only [List.length_cons, List.length_nil, List.length_append, List.length_replicate, List.length_take, List.length_drop]; omega)) only [den, dens, deno, denc, deni, denS, denSs, fin_nx, fin_rt, Res.bind_ok, Res.bind_exc, truth, partD, getV, setV, setAll, storeT, wipeV, binD_add, binD_sub, binD_mul, binD_fdiv, binD_mod, cmp_lt, cmp_le, cmp_gt, cmp_ge, cmp_eqi, cmp_nei, cmp_eqb, cmp_neb, cmp_eqs, cmp_nes, cmp_is, cmp_isNot, isn_int, isn_non, isn_tup, isn_lst, isn_str, isTy, isFn, ix0, ix1, ix2, ix3, ix4, ix5, ixm1, blt_lenc, blt_lent, blt_lenl, blt_lens, blt_abs, blt_inti, blt_intb, blt_tupt, blt_tupl, blt_lstt, blt_lstl, blt_max, blt_min, slice_tup, slice_lst, List.length_cons, List.length_nil, Nat.reduceAdd, Nat.reduceLeDiff, ↓reduceIte, reduceCtorEq, Bool.false_eq_true, Bool.not_true, Bool.not_false, Bool.not_eq_true, decide_eq_true_eq, decide_not, Bool.not_eq_eq_eq_not, maxl_num, Int.reduceEq, Int.reduceLT, Int.reduceLE, Int.reduceNeg, Int.reduceToNat, decide_true, decide_false, Bool.true_and, Bool.false_and, Bool.and_true, Bool.and_false, Bool.not_true, Bool.not_false, not_true_eq_false, not_false_eq_true, Nat.reduceEqDiff, nc0, nc1, nc2, nc3, nc4, nc5, nc6, nc7, nc8, nc9, nc10, nc11, nc12, g0, g1, g2, g3, g4, callAt, callLow, CLk, told_ok, told_x0, told_x1, told_x2, told_x3, told_x4, td] <;> rfl) ?_
  by_cases c1 : Numb g.1 g.2
  · rw [decide_eq_true c1] at isn
    by_cases c2 : textT g.1 g.2 = t
    · rw [if_pos ⟨c1, c2⟩]
      exact sif_ (den_orF (by simp (disch := first | omega | assumption | (simp only [List.length_cons, List.length_nil, List.length_append, List.length_replicate, List.length_take, List.length_drop]; omega)) only [den, dens, deno, denc, deni, denS, denSs, fin_nx, fin_rt, Res.bind_ok, Res.bind_exc, truth, partD, getV, setV, setAll, storeT, wipeV, binD_add, binD_sub, binD_mul, binD_fdiv, binD_mod, cmp_lt, cmp_le, cmp_gt, cmp_ge, cmp_eqi, cmp_nei, cmp_eqb, cmp_neb, cmp_eqs, cmp_nes, cmp_is, cmp_isNot, isn_int, isn_non, isn_tup, isn_lst, isn_str, isTy, isFn, ix0, ix1, ix2, ix3, ix4, ix5, ixm1, blt_lenc, blt_lent, blt_lenl, blt_lens, blt_abs, blt_inti, blt_intb, blt_tupt, blt_tupl, blt_lstt, blt_lstl, blt_max, blt_min, slice_tup, slice_lst, List.length_cons, List.length_nil, Nat.reduceAdd, Nat.reduceLeDiff, ↓reduceIte, reduceCtorEq, Bool.false_eq_true, Bool.not_true, Bool.not_false, Bool.not_eq_true, decide_eq_true_eq, decide_not, Bool.not_eq_eq_eq_not, maxl_num, Int.reduceEq, Int.reduceLT, Int.reduceLE, Int.reduceNeg, Int.reduceToNat, decide_true, decide_false, Bool.true_and, Bool.false_and, Bool.and_true, Bool.and_false, Bool.not_true, Bool.not_false, not_true_eq_false, not_false_eq_true, Nat.reduceEqDiff, nc0, nc1, nc2, nc3, nc4, nc5, nc6, nc7, nc8, nc9, nc10, nc11, nc12, g0, g1, g2, g3, g4, callAt, callLow, CLk, told_ok, told_x0, told_x1, told_x2, told_x3, told_x4, isn]) (by simp (disch := first | omega | assumption | (simp only [List.length_cons, List.length_nil, List.length_append, List.length_replicate, List.length_take, List.length_drop]; omega)) only [den, dens, deno, denc, deni, denS, denSs, fin_nx, fin_rt, Res.bind_ok, Res.bind_exc, truth, partD, getV, setV, setAll, storeT, wipeV, binD_add, binD_sub, binD_mul, binD_fdiv, binD_mod, cmp_lt, cmp_le, cmp_gt, cmp_ge, cmp_eqi, cmp_nei, cmp_eqb, cmp_neb, cmp_eqs, cmp_nes, cmp_is, cmp_isNot, isn_int, isn_non, isn_tup, isn_lst, isn_str, isTy, isFn, ix0, ix1, ix2, ix3, ix4, ix5, ixm1, blt_lenc, blt_lent, blt_lenl, blt_lens, blt_abs, blt_inti, blt_intb, blt_tupt, blt_tupl, blt_lstt, blt_lstl, blt_max, blt_min, slice_tup, slice_lst, List.length_cons, List.length_nil, Nat.reduceAdd, Nat.reduceLeDiff, ↓reduceIte, reduceCtorEq, Bool.false_eq_true, Bool.not_true, Bool.not_false, Bool.not_eq_true, decide_eq_true_eq, decide_not, Bool.not_eq_eq_eq_not, maxl_num, Int.reduceEq, Int.reduceLT, Int.reduceLE, Int.reduceNeg, Int.reduceToNat, decide_true, decide_false, Bool.true_and, Bool.false_and, Bool.and_true, Bool.and_false, Bool.not_true, Bool.not_false, not_true_eq_false, not_false_eq_true, Nat.reduceEqDiff, nc0, nc1, nc2, nc3, nc4, nc5, nc6, nc7, nc8, nc9, nc10, nc11, nc12, g0, g1, g2, g3, g4, callAt, callLow, CLk, told_ok, told_x0, told_x1, told_x2, told_x3, told_x4, wr, c2, decide_true])) (sr_ (by simp (disch := first | omega | assumption | (simp only [List.length_cons, List.length_nil, List.length_append, List.length_replicate, List.length_take, List.length_drop]; omega)) only [den, dens, deno, denc, deni, denS, denSs, fin_nx, fin_rt, Res.bind_ok, Res.bind_exc, truth, partD, getV, setV, setAll, storeT, wipeV, binD_add, binD_sub, binD_mul, binD_fdiv, binD_mod, cmp_lt, cmp_le, cmp_gt, cmp_ge, cmp_eqi, cmp_nei, cmp_eqb, cmp_neb, cmp_eqs, cmp_nes, cmp_is, cmp_isNot, isn_int, isn_non, isn_tup, isn_lst, isn_str, isTy, isFn, ix0, ix1, ix2, ix3, ix4, ix5, ixm1, blt_lenc, blt_lent, blt_lenl, blt_lens, blt_abs, blt_inti, blt_intb, blt_tupt, blt_tupl, blt_lstt, blt_lstl, blt_max, blt_min, slice_tup, slice_lst, List.length_cons, List.length_nil, Nat.reduceAdd, Nat.reduceLeDiff, ↓reduceIte, reduceCtorEq, Bool.false_eq_true, Bool.not_true, Bool.not_false, Bool.not_eq_true, decide_eq_true_eq, decide_not, Bool.not_eq_eq_eq_not, maxl_num, Int.reduceEq, Int.reduceLT, Int.reduceLE, Int.reduceNeg, Int.reduceToNat, decide_true, decide_false, Bool.true_and, Bool.false_and, Bool.and_true, Bool.and_false, Bool.not_true, Bool.not_false, not_true_eq_false, not_false_eq_true, Nat.reduceEqDiff, nc0, nc1, nc2, nc3, nc4, nc5, nc6, nc7, nc8, nc9, nc10, nc11, nc12, g0, g1, g2, g3, g4, callAt, callLow, CLk, told_ok, told_x0, told_x1, told_x2, told_x3, told_x4] <;> rfl))
    · rw [if_neg (fun z => c2 z.2)]
      exact sr_ (oit_ (den_orF (by simp (disch := first | omega | assumption | (simp only [List.length_cons, List.length_nil, List.length_append, List.length_replicate, List.length_take, List.length_drop]; omega)) only [den, dens, deno, denc, deni, denS, denSs, fin_nx, fin_rt, Res.bind_ok, Res.bind_exc, truth, partD, getV, setV, setAll, storeT, wipeV, binD_add, binD_sub, binD_mul, binD_fdiv, binD_mod, cmp_lt, cmp_le, cmp_gt, cmp_ge, cmp_eqi, cmp_nei, cmp_eqb, cmp_neb, cmp_eqs, cmp_nes, cmp_is, cmp_isNot, isn_int, isn_non, isn_tup, isn_lst, isn_str, isTy, isFn, ix0, ix1, ix2, ix3, ix4, ix5, ixm1, blt_lenc, blt_lent, blt_lenl, blt_lens, blt_abs, blt_inti, blt_intb, blt_tupt, blt_tupl, blt_lstt, blt_lstl, blt_max, blt_min, slice_tup, slice_lst, List.length_cons, List.length_nil, Nat.reduceAdd, Nat.reduceLeDiff, ↓reduceIte, reduceCtorEq, Bool.false_eq_true, Bool.not_true, Bool.not_false, Bool.not_eq_true, decide_eq_true_eq, decide_not, Bool.not_eq_eq_eq_not, maxl_num, Int.reduceEq, Int.reduceLT, Int.reduceLE, Int.reduceNeg, Int.reduceToNat, decide_true, decide_false, Bool.true_and, Bool.false_and, Bool.and_true, Bool.and_false, Bool.not_true, Bool.not_false, not_true_eq_false, not_false_eq_true, Nat.reduceEqDiff, nc0, nc1, nc2, nc3, nc4, nc5, nc6, nc7, nc8, nc9, nc10, nc11, nc12, g0, g1, g2, g3, g4, callAt, callLow, CLk, told_ok, told_x0, told_x1, told_x2, told_x3, told_x4, isn]) (by simp (disch := first | omega | assumption | (simp only [List.length_cons, List.length_nil, List.length_append, List.length_replicate, List.length_take, List.length_drop]; omega)) only [den, dens, deno, denc, deni, denS, denSs, fin_nx, fin_rt, Res.bind_ok, Res.bind_exc, truth, partD, getV, setV, setAll, storeT, wipeV, binD_add, binD_sub, binD_mul, binD_fdiv, binD_mod, cmp_lt, cmp_le, cmp_gt, cmp_ge, cmp_eqi, cmp_nei, cmp_eqb, cmp_neb, cmp_eqs, cmp_nes, cmp_is, cmp_isNot, isn_int, isn_non, isn_tup, isn_lst, isn_str, isTy, isFn, ix0, ix1, ix2, ix3, ix4, ix5, ixm1, blt_lenc, blt_lent, blt_lenl, blt_lens, blt_abs, blt_inti, blt_intb, blt_tupt, blt_tupl, blt_lstt, blt_lstl, blt_max, blt_min, slice_tup, slice_lst, List.length_cons, List.length_nil, Nat.reduceAdd, Nat.reduceLeDiff, ↓reduceIte, reduceCtorEq, Bool.false_eq_true, Bool.not_true, Bool.not_false, Bool.not_eq_true, decide_eq_true_eq, decide_not, Bool.not_eq_eq_eq_not, maxl_num, Int.reduceEq, Int.reduceLT, Int.reduceLE, Int.reduceNeg, Int.reduceToNat, decide_true, decide_false, Bool.true_and, Bool.false_and, Bool.and_true, Bool.and_false, Bool.not_true, Bool.not_false, not_true_eq_false, not_false_eq_true, Nat.reduceEqDiff, nc0, nc1, nc2, nc3, nc4, nc5, nc6, nc7, nc8, nc9, nc10, nc11, nc12, g0, g1, g2, g3, g4, callAt, callLow, CLk, told_ok, told_x0, told_x1, told_x2, told_x3, told_x4, wr, c2])) (or_ (by simp (disch := first | omega | assumption | (simp only [List.length_cons, List.length_nil, List.length_append, List.length_replicate, List.length_take, List.length_drop]; omega)) only [den, dens, deno, denc, deni, denS, denSs, fin_nx, fin_rt, Res.bind_ok, Res.bind_exc, truth, partD, getV, setV, setAll, storeT, wipeV, binD_add, binD_sub, binD_mul, binD_fdiv, binD_mod, cmp_lt, cmp_le, cmp_gt, cmp_ge, cmp_eqi, cmp_nei, cmp_eqb, cmp_neb, cmp_eqs, cmp_nes, cmp_is, cmp_isNot, isn_int, isn_non, isn_tup, isn_lst, isn_str, isTy, isFn, ix0, ix1, ix2, ix3, ix4, ix5, ixm1, blt_lenc, blt_lent, blt_lenl, blt_lens, blt_abs, blt_inti, blt_intb, blt_tupt, blt_tupl, blt_lstt, blt_lstl, blt_max, blt_min, slice_tup, slice_lst, List.length_cons, List.length_nil, Nat.reduceAdd, Nat.reduceLeDiff, ↓reduceIte, reduceCtorEq, Bool.false_eq_true, Bool.not_true, Bool.not_false, Bool.not_eq_true, decide_eq_true_eq, decide_not, Bool.not_eq_eq_eq_not, maxl_num, Int.reduceEq, Int.reduceLT, Int.reduceLE, Int.reduceNeg, Int.reduceToNat, decide_true, decide_false, Bool.true_and, Bool.false_and, Bool.and_true, Bool.and_false, Bool.not_true, Bool.not_false, not_true_eq_false, not_false_eq_true, Nat.reduceEqDiff, nc0, nc1, nc2, nc3, nc4, nc5, nc6, nc7, nc8, nc9, nc10, nc11, nc12, g0, g1, g2, g3, g4, callAt, callLow, CLk, told_ok, told_x0, told_x1, told_x2, told_x3, told_x4] <;> rfl)))
  · rw [decide_eq_false c1] at isn
    rw [if_neg (fun z => c1 z.1)]
    exact sr_ (oit_ (den_orT (by simp (disch := first | omega | assumption | (simp only [List.length_cons, List.length_nil, List.length_append, List.length_replicate, List.length_take, List.length_drop]; omega)) only [den, dens, deno, denc, deni, denS, denSs, fin_nx, fin_rt, Res.bind_ok, Res.bind_exc, truth, partD, getV, setV, setAll, storeT, wipeV, binD_add, binD_sub, binD_mul, binD_fdiv, binD_mod, cmp_lt, cmp_le, cmp_gt, cmp_ge, cmp_eqi, cmp_nei, cmp_eqb, cmp_neb, cmp_eqs, cmp_nes, cmp_is, cmp_isNot, isn_int, isn_non, isn_tup, isn_lst, isn_str, isTy, isFn, ix0, ix1, ix2, ix3, ix4, ix5, ixm1, blt_lenc, blt_lent, blt_lenl, blt_lens, blt_abs, blt_inti, blt_intb, blt_tupt, blt_tupl, blt_lstt, blt_lstl, blt_max, blt_min, slice_tup, slice_lst, List.length_cons, List.length_nil, Nat.reduceAdd, Nat.reduceLeDiff, ↓reduceIte, reduceCtorEq, Bool.false_eq_true, Bool.not_true, Bool.not_false, Bool.not_eq_true, decide_eq_true_eq, decide_not, Bool.not_eq_eq_eq_not, maxl_num, Int.reduceEq, Int.reduceLT, Int.reduceLE, Int.reduceNeg, Int.reduceToNat, decide_true, decide_false, Bool.true_and, Bool.false_and, Bool.and_true, Bool.and_false, Bool.not_true, Bool.not_false, not_true_eq_false, not_false_eq_true, Nat.reduceEqDiff, nc0, nc1, nc2, nc3, nc4, nc5, nc6, nc7, nc8, nc9, nc10, nc11, nc12, g0, g1, g2, g3, g4, callAt, callLow, CLk, told_ok, told_x0, told_x1, told_x2, told_x3, told_x4, isn])) (or_ (by simp (disch := first | omega | assumption | (simp only [List.length_cons, List.length_nil, List.length_append, List.length_replicate, List.length_take, List.length_drop]; omega)) only [den, dens, deno, denc, deni, denS, denSs, fin_nx, fin_rt, Res.bind_ok, Res.bind_exc, truth, partD, getV, setV, setAll, storeT, wipeV, binD_add, binD_sub, binD_mul, binD_fdiv, binD_mod, cmp_lt, cmp_le, cmp_gt, cmp_ge, cmp_eqi, cmp_nei, cmp_eqb, cmp_neb, cmp_eqs, cmp_nes, cmp_is, cmp_isNot, isn_int, isn_non, isn_tup, isn_lst, isn_str, isTy, isFn, ix0, ix1, ix2, ix3, ix4, ix5, ixm1, blt_lenc, blt_lent, blt_lenl, blt_lens, blt_abs, blt_inti, blt_intb, blt_tupt, blt_tupl, blt_lstt, blt_lstl, blt_max, blt_min, slice_tup, slice_lst, List.length_cons, List.length_nil, Nat.reduceAdd, Nat.reduceLeDiff, ↓reduceIte, reduceCtorEq, Bool.false_eq_true, Bool.not_true, Bool.not_false, Bool.not_eq_true, decide_eq_true_eq, decide_not, Bool.not_eq_eq_eq_not, maxl_num, Int.reduceEq, Int.reduceLT, Int.reduceLE, Int.reduceNeg, Int.reduceToNat, decide_true, decide_false, Bool.true_and, Bool.false_and, Bool.and_true, Bool.and_false, Bool.not_true, Bool.not_false, not_true_eq_false, not_false_eq_true, Nat.reduceEqDiff, nc0, nc1, nc2, nc3, nc4, nc5, nc6, nc7, nc8, nc9, nc10, nc11, nc12, g0, g1, g2, g3, g4, callAt, callLow, CLk, told_ok, told_x0, told_x1, told_x2, told_x3, told_x4] <;> rfl)))
def nonF (d : D) : Option D := match d with
  | .str [c] => if c ∈ FIGS then none else some d
  | _ => some d
theorem nonF_all : ∀ {l : List Nat}, (l.all fun c => decide (c ∈ FIGS)) = true → (signs l).filterMap nonF = []
  | [], _ => rfl
  | c :: l, h => by
    simp only [List.all_cons, Bool.and_eq_true, decide_eq_true_eq] at h
    have ih := nonF_all h.2
    show List.filterMap nonF (D.str [c] :: signs l) = []
    have e : nonF (D.str [c]) = none := if_pos h.1
    rw [List.filterMap_cons, e]
    exact ih
theorem nonF_some : ∀ {l : List Nat}, (l.all fun c => decide (c ∈ FIGS)) = false → ∃ x xs, (signs l).filterMap nonF = x :: xs
  | [], h => by cases h
  | c :: l, h => by
    by_cases q : c ∈ FIGS
    · have h2 : (l.all fun c => decide (c ∈ FIGS)) = false := by
        simpa only [List.all_cons, decide_eq_true q, Bool.true_and] using h
      obtain ⟨x, xs, e⟩ := nonF_some h2
      refine ⟨x, xs, ?_⟩
      show List.filterMap nonF (D.str [c] :: signs l) = _
      have e2 : nonF (D.str [c]) = none := if_pos q
      rw [List.filterMap_cons, e2]
      exact e
    · refine ⟨.str [c], (signs l).filterMap nonF, ?_⟩
      show List.filterMap nonF (D.str [c] :: signs l) = _
      have e2 : nonF (D.str [c]) = some (.str [c]) := if_neg q
      rw [List.filterMap_cons, e2]
theorem pl_lst {n : Nat} {l : List D} (h : ∀ y ∈ l, pl n y = true) : pl (n + 1) (.lst l) = true := by
  simp only [pl, List.all_eq_true]
  exact h
theorem okS_mem {s : List Nat} (h : okS s = true) {c : Nat} (hc : c ∈ s) : c < 1114112 := of_decide_eq_true (List.all_eq_true.mp h c hc)
/-- whether some sign is no figure -/
theorem anyNon {k : Nat} {F H : List Nat} (hl : (F ++ H).length ≤ 1000) (ho : okS (F ++ H) = true) (t p x y z : SV) :
    den (CL k) (glOf GS) (.cmp .ne (.comp [7] (.name 7) (.of (.bin .add (.var 2) (.var 3))) (.yes (.cmp .notIn (.var 7) (.lit (.str [48, 49, 50, 51, 52, 53, 54, 55, 56, 57])))) (.var 7)) (.lst .nil)) [t, p, .pu (.str F), .pu (.str H), x, y, z, .un] = .ok (.bl (!((F ++ H).all fun c => decide (c ∈ FIGS)))) := by
  have ba : binD .add (.str F) (.str H) = .ok (.str (F ++ H)) := binD_str (by rw [List.length_append] at hl; omega)
  generalize F ++ H = W at *
  have c := comp_filt (call := CL k) (gl := glOf GS) (own := [7]) (t := .name 7) (it := .of (.bin .add (.var 2) (.var 3))) (c := .yes (.cmp .notIn (.var 7) (.lit (.str [48, 49, 50, 51, 52, 53, 54, 55, 56, 57])))) (e := .var 7) (ρ := [t, p, .pu (.str F), .pu (.str H), x, y, z, .un]) (ds := signs W) nonF (by simp (disch := first | omega | assumption | (simp only [List.length_cons, List.length_nil, List.length_append, List.length_replicate, List.length_take, List.length_drop]; omega)) only [den, dens, deno, denc, deni, denS, denSs, fin_nx, fin_rt, Res.bind_ok, Res.bind_exc, truth, partD, getV, setV, setAll, storeT, wipeV, binD_add, binD_sub, binD_mul, binD_fdiv, binD_mod, cmp_lt, cmp_le, cmp_gt, cmp_ge, cmp_eqi, cmp_nei, cmp_eqb, cmp_neb, cmp_eqs, cmp_nes, cmp_is, cmp_isNot, isn_int, isn_non, isn_tup, isn_lst, isn_str, isTy, isFn, ix0, ix1, ix2, ix3, ix4, ix5, ixm1, blt_lenc, blt_lent, blt_lenl, blt_lens, blt_abs, blt_inti, blt_intb, blt_tupt, blt_tupl, blt_lstt, blt_lstl, blt_max, blt_min, slice_tup, slice_lst, List.length_cons, List.length_nil, Nat.reduceAdd, Nat.reduceLeDiff, ↓reduceIte, reduceCtorEq, Bool.false_eq_true, Bool.not_true, Bool.not_false, Bool.not_eq_true, decide_eq_true_eq, decide_not, Bool.not_eq_eq_eq_not, maxl_num, Int.reduceEq, Int.reduceLT, Int.reduceLE, Int.reduceNeg, Int.reduceToNat, decide_true, decide_false, Bool.true_and, Bool.false_and, Bool.and_true, Bool.and_false, Bool.not_true, Bool.not_false, not_true_eq_false, not_false_eq_true, Nat.reduceEqDiff, nc0, nc1, nc2, nc3, nc4, nc5, nc6, nc7, nc8, nc9, nc10, nc11, nc12, g0, g1, g2, g3, g4, callAt, callLow, CLk, told_ok, told_x0, told_x1, told_x2, told_x3, told_x4, ba] <;> rfl) (by unfold signs; rw [List.length_map]; omega) fun d hd => by
    unfold signs at hd
    obtain ⟨g, _, rfl⟩ := List.mem_map.mp hd
    have i : cmpD .notIn (.str [g]) (.str [48, 49, 50, 51, 52, 53, 54, 55, 56, 57]) = .ok (.bl (!decide (g ∈ FIGS))) := by
      show Res.ok (D.bl (!inS [g] FIGS)) = _
      rw [inS_one]
    refine ⟨_, by simp (disch := first | omega | assumption | (simp only [List.length_cons, List.length_nil, List.length_append, List.length_replicate, List.length_take, List.length_drop]; omega)) only [den, dens, deno, denc, deni, denS, denSs, fin_nx, fin_rt, Res.bind_ok, Res.bind_exc, truth, partD, getV, setV, setAll, storeT, wipeV, binD_add, binD_sub, binD_mul, binD_fdiv, binD_mod, cmp_lt, cmp_le, cmp_gt, cmp_ge, cmp_eqi, cmp_nei, cmp_eqb, cmp_neb, cmp_eqs, cmp_nes, cmp_is, cmp_isNot, isn_int, isn_non, isn_tup, isn_lst, isn_str, isTy, isFn, ix0, ix1, ix2, ix3, ix4, ix5, ixm1, blt_lenc, blt_lent, blt_lenl, blt_lens, blt_abs, blt_inti, blt_intb, blt_tupt, blt_tupl, blt_lstt, blt_lstl, blt_max, blt_min, slice_tup, slice_lst, List.length_cons, List.length_nil, Nat.reduceAdd, Nat.reduceLeDiff, ↓reduceIte, reduceCtorEq, Bool.false_eq_true, Bool.not_true, Bool.not_false, Bool.not_eq_true, decide_eq_true_eq, decide_not, Bool.not_eq_eq_eq_not, maxl_num, Int.reduceEq, Int.reduceLT, Int.reduceLE, Int.reduceNeg, Int.reduceToNat, decide_true, decide_false, Bool.true_and, Bool.false_and, Bool.and_true, Bool.and_false, Bool.not_true, Bool.not_false, not_true_eq_false, not_false_eq_true, Nat.reduceEqDiff, nc0, nc1, nc2, nc3, nc4, nc5, nc6, nc7, nc8, nc9, nc10, nc11, nc12, g0, g1, g2, g3, g4, callAt, callLow, CLk, told_ok, told_x0, told_x1, told_x2, told_x3, told_x4] <;> rfl, ?_⟩
    by_cases q : g ∈ FIGS
    · rw [decide_eq_true q] at i
      exact .inr ⟨by simp (disch := first | omega | assumption | (simp only [List.length_cons, List.length_nil, List.length_append, List.length_replicate, List.length_take, List.length_drop]; omega)) only [den, dens, deno, denc, deni, denS, denSs, fin_nx, fin_rt, Res.bind_ok, Res.bind_exc, truth, partD, getV, setV, setAll, storeT, wipeV, binD_add, binD_sub, binD_mul, binD_fdiv, binD_mod, cmp_lt, cmp_le, cmp_gt, cmp_ge, cmp_eqi, cmp_nei, cmp_eqb, cmp_neb, cmp_eqs, cmp_nes, cmp_is, cmp_isNot, isn_int, isn_non, isn_tup, isn_lst, isn_str, isTy, isFn, ix0, ix1, ix2, ix3, ix4, ix5, ixm1, blt_lenc, blt_lent, blt_lenl, blt_lens, blt_abs, blt_inti, blt_intb, blt_tupt, blt_tupl, blt_lstt, blt_lstl, blt_max, blt_min, slice_tup, slice_lst, List.length_cons, List.length_nil, Nat.reduceAdd, Nat.reduceLeDiff, ↓reduceIte, reduceCtorEq, Bool.false_eq_true, Bool.not_true, Bool.not_false, Bool.not_eq_true, decide_eq_true_eq, decide_not, Bool.not_eq_eq_eq_not, maxl_num, Int.reduceEq, Int.reduceLT, Int.reduceLE, Int.reduceNeg, Int.reduceToNat, decide_true, decide_false, Bool.true_and, Bool.false_and, Bool.and_true, Bool.and_false, Bool.not_true, Bool.not_false, not_true_eq_false, not_false_eq_true, Nat.reduceEqDiff, nc0, nc1, nc2, nc3, nc4, nc5, nc6, nc7, nc8, nc9, nc10, nc11, nc12, g0, g1, g2, g3, g4, callAt, callLow, CLk, told_ok, told_x0, told_x1, told_x2, told_x3, told_x4, i], if_pos q⟩
    · rw [decide_eq_false q] at i
      exact .inl ⟨_, by simp (disch := first | omega | assumption | (simp only [List.length_cons, List.length_nil, List.length_append, List.length_replicate, List.length_take, List.length_drop]; omega)) only [den, dens, deno, denc, deni, denS, denSs, fin_nx, fin_rt, Res.bind_ok, Res.bind_exc, truth, partD, getV, setV, setAll, storeT, wipeV, binD_add, binD_sub, binD_mul, binD_fdiv, binD_mod, cmp_lt, cmp_le, cmp_gt, cmp_ge, cmp_eqi, cmp_nei, cmp_eqb, cmp_neb, cmp_eqs, cmp_nes, cmp_is, cmp_isNot, isn_int, isn_non, isn_tup, isn_lst, isn_str, isTy, isFn, ix0, ix1, ix2, ix3, ix4, ix5, ixm1, blt_lenc, blt_lent, blt_lenl, blt_lens, blt_abs, blt_inti, blt_intb, blt_tupt, blt_tupl, blt_lstt, blt_lstl, blt_max, blt_min, slice_tup, slice_lst, List.length_cons, List.length_nil, Nat.reduceAdd, Nat.reduceLeDiff, ↓reduceIte, reduceCtorEq, Bool.false_eq_true, Bool.not_true, Bool.not_false, Bool.not_eq_true, decide_eq_true_eq, decide_not, Bool.not_eq_eq_eq_not, maxl_num, Int.reduceEq, Int.reduceLT, Int.reduceLE, Int.reduceNeg, Int.reduceToNat, decide_true, decide_false, Bool.true_and, Bool.false_and, Bool.and_true, Bool.and_false, Bool.not_true, Bool.not_false, not_true_eq_false, not_false_eq_true, Nat.reduceEqDiff, nc0, nc1, nc2, nc3, nc4, nc5, nc6, nc7, nc8, nc9, nc10, nc11, nc12, g0, g1, g2, g3, g4, callAt, callLow, CLk, told_ok, told_x0, told_x1, told_x2, told_x3, told_x4, i], by simp (disch := first | omega | assumption | (simp only [List.length_cons, List.length_nil, List.length_append, List.length_replicate, List.length_take, List.length_drop]; omega)) only [den, dens, deno, denc, deni, denS, denSs, fin_nx, fin_rt, Res.bind_ok, Res.bind_exc, truth, partD, getV, setV, setAll, storeT, wipeV, binD_add, binD_sub, binD_mul, binD_fdiv, binD_mod, cmp_lt, cmp_le, cmp_gt, cmp_ge, cmp_eqi, cmp_nei, cmp_eqb, cmp_neb, cmp_eqs, cmp_nes, cmp_is, cmp_isNot, isn_int, isn_non, isn_tup, isn_lst, isn_str, isTy, isFn, ix0, ix1, ix2, ix3, ix4, ix5, ixm1, blt_lenc, blt_lent, blt_lenl, blt_lens, blt_abs, blt_inti, blt_intb, blt_tupt, blt_tupl, blt_lstt, blt_lstl, blt_max, blt_min, slice_tup, slice_lst, List.length_cons, List.length_nil, Nat.reduceAdd, Nat.reduceLeDiff, ↓reduceIte, reduceCtorEq, Bool.false_eq_true, Bool.not_true, Bool.not_false, Bool.not_eq_true, decide_eq_true_eq, decide_not, Bool.not_eq_eq_eq_not, maxl_num, Int.reduceEq, Int.reduceLT, Int.reduceLE, Int.reduceNeg, Int.reduceToNat, decide_true, decide_false, Bool.true_and, Bool.false_and, Bool.and_true, Bool.and_false, Bool.not_true, Bool.not_false, not_true_eq_false, not_false_eq_true, Nat.reduceEqDiff, nc0, nc1, nc2, nc3, nc4, nc5, nc6, nc7, nc8, nc9, nc10, nc11, nc12, g0, g1, g2, g3, g4, callAt, callLow, CLk, told_ok, told_x0, told_x1, told_x2, told_x3, told_x4] <;> rfl, if_neg q⟩
  have e : den (CL k) (glOf GS) (.lst .nil) [t, p, .pu (.str F), .pu (.str H), x, y, z, .un] = .ok (.lst []) := rfl
  rw [den_cmp c e]
  cases h : W.all fun c => decide (c ∈ FIGS) with
  | true =>
    rw [nonF_all h]
    exact cmp_nself rfl
  | false =>
    obtain ⟨a, as, ea⟩ := nonF_some h
    have pa : pl 60 (.lst (a :: as)) = true := pl_lst (n := 59) fun y hy => by
      rw [← ea] at hy
      obtain ⟨d, hd, e2⟩ := List.mem_filterMap.mp hy
      unfold signs at hd
      obtain ⟨g, hg, rfl⟩ := List.mem_map.mp hd
      unfold nonF at e2
      dsimp only at e2
      split at e2
      · cases e2
      · injection e2 with e2
        subst e2
        show okS [g] = true
        unfold okS
        simp only [List.all_cons, List.all_nil, Bool.and_true, decide_eq_true_eq]
        exact okS_mem ho hg
    rw [ea, cmp_ned pa rfl]
    rfl
def dueV (t p h : List Nat) (e : Bool) : Option (Int × Int) :=
  let F := (p.erase 45).erase 46
  let H := h.erase 45
  if F = [] ∨ 20 < F.length ∨ ((F ++ H).all fun c => decide (c ∈ FIGS)) = false then none
  else if 0 < fnd p 45 ∨ 2 < H.length ∨ (e = true ∧ H = []) ∨ 45 ∈ h.drop 1 then none
  else filt t (some (tidyV (((NumText.digitsVal F : Nat) : Int) * (if p.head? = some 45 then -1 else 1)) ((if 0 ≤ fnd p 46 then fnd p 46 + 1 - p.length else 0) + (if e = true then ((NumText.digitsVal H : Nat) : Int) * (if h.head? = some 45 then -1 else 1) else 0))))
theorem dueW {k : Nat} (hk : 5 ≤ k) {t p h : List Nat} {e : Bool} (he : (e = true ∧ t = p ++ 101 :: h) ∨ (e = false ∧ t = p ∧ h = [])) (hp : 101 ∉ p) (hl : t.length ≤ 400) (ho : okS t = true) : C k 21 [.str t] = .ok (optN (dueV t p h e)) := by
  obtain ⟨k, rfl⟩ : ∃ j, k = j + 1 := ⟨k - 1, by omega⟩
  have lp : p.length ≤ 400 ∧ h.length ≤ 400 ∧ (e = true → p.length + 1 + h.length = t.length) := by
    rcases he with ⟨rfl, rfl⟩ | ⟨rfl, rfl, rfl⟩
    · simp only [List.length_append, List.length_cons] at hl ⊢
      refine ⟨by omega, by omega, fun _ => by omega⟩
    · refine ⟨hl, by simp, fun z => by cases z⟩
  obtain ⟨lp1, lp2, lp3⟩ := lp
  obtain ⟨l, s1, s0⟩ : ∃ l, mthD .split (.str t) [.str [101]] = .ok (.lst l) ∧ idxD (.lst l) (.int 0) = .ok (.str p) := by
    refine ⟨_, split_one (by omega) (by omega), ?_⟩
    rcases he with ⟨_, rfl⟩ | ⟨_, rfl, _⟩
    · rw [spl_one _ _ _ hp, List.nil_append, List.map_cons]; exact (idx_lst (by omega) (by simp)).trans rfl
    · rw [spl_non _ _ hp, List.nil_append]; rfl
  have ms := mthTy_split t
  have f2 : cutD t (some ((p.length : Int) + 1)) none = h := by
    rw [show (p.length : Int) + 1 = ((p.length + 1 : Nat) : Int) by omega, cut_drop]
    rcases he with ⟨_, rfl⟩ | ⟨_, rfl, rfl⟩
    · rw [show p.length + 1 = (p ++ [101]).length by simp, show p ++ 101 :: h = (p ++ [101]) ++ h by simp, List.drop_left]
    · exact List.drop_eq_nil_of_le (by omega)
  have f3 : cutD t (some ((p.length : Int) + 2)) none = h.drop 1 := by
    rw [show (p.length : Int) + 2 = ((p.length + 2 : Nat) : Int) by omega, cut_drop]
    rcases he with ⟨_, rfl⟩ | ⟨_, rfl, rfl⟩
    · rw [show p.length + 2 = (p ++ [101]).length + 1 by simp, show p ++ 101 :: h = (p ++ [101]) ++ h by simp, ← List.drop_drop, List.drop_left]
    · rw [List.drop_eq_nil_of_le (by omega)]; rfl
  have f4 : (e = true → ¬p = t) ∧ (e = false → p = t) := by
    rcases he with ⟨rfl, rfl⟩ | ⟨rfl, rfl, _⟩
    · exact ⟨fun _ z => (by have := congrArg List.length z; simp at this), fun z => (by cases z)⟩
    · exact ⟨fun z => (by cases z), fun _ => rfl⟩
  have r1 := rep1_D (l := p) 45 (by omega)
  have lF := List.length_erase_le (a := (45 : Nat)) (l := p)
  have lF2 := List.length_erase_le (a := (46 : Nat)) (l := p.erase 45)
  have lH := List.length_erase_le (a := (45 : Nat)) (l := h)
  have r2 := rep1_D (l := p.erase 45) 46 (by omega)
  have r3 := rep1_D (l := h) 45 (by omega)
  have m1 := mthTy_replace p
  have m2 := mthTy_replace (p.erase 45)
  have m3 := mthTy_replace h
  have mf := mthTy_find p
  have d1 := find_D p 45
  have d2 := find_D p 46
  have b1 := fnd_bd p 45
  have b2 := fnd_bd p 46
  have oP : okS p = true ∧ okS h = true := by
    unfold okS at ho ⊢
    rcases he with ⟨_, rfl⟩ | ⟨_, rfl, rfl⟩
    · rw [List.all_append, List.all_cons] at ho
      simp only [Bool.and_eq_true] at ho
      exact ⟨ho.1, ho.2.2⟩
    · exact ⟨ho, rfl⟩
  have oFH : okS ((p.erase 45).erase 46 ++ h.erase 45) = true := by
    unfold okS
    refine List.all_eq_true.mpr fun c hc => decide_eq_true ?_
    rcases List.mem_append.mp hc with z | z
    · exact okS_mem oP.1 (List.mem_of_mem_erase (List.mem_of_mem_erase z))
    · exact okS_mem oP.2 (List.mem_of_mem_erase z)
  have i4 : cmpD .in_ (.str [45]) (.str (h.drop 1)) = .ok (.bl (decide (45 ∈ h.drop 1))) := by
    show Res.ok (D.bl (inS [45] _)) = _
    rw [inS_one]
  have hF : (p.erase 45).erase 46 = [] ∨ p ≠ [] := by
    by_cases q : p = []
    · left; rw [q]; rfl
    · exact .inr q
  have hH : h.erase 45 = [] ∨ h ≠ [] := by
    by_cases q : h = []
    · left; rw [q]; rfl
    · exact .inr q
  rw [c21]
  unfold dueV
  dsimp only
  generalize eF : (p.erase 45).erase 46 = F at *
  generalize eH : h.erase 45 = H at *
  have an := anyNon (k := k) (F := F) (H := H) (by rw [List.length_append]; omega) oFH
  have fin := fun dg pw b hp => dueFin (k := k) (by omega) t (.pu (.str p)) (.pu (.str F)) (.pu (.str H)) .un .un (dg := dg) (pw := pw) b hp
  unfold B21 at fin ⊢
  refine st_ (by simp (disch := first | omega | assumption | (simp only [List.length_cons, List.length_nil, List.length_append, List.length_replicate, List.length_take, List.length_drop]; omega)) only [den, dens, deno, denc, deni, denS, denSs, fin_nx, fin_rt, Res.bind_ok, Res.bind_exc, truth, partD, getV, setV, setAll, storeT, wipeV, binD_add, binD_sub, binD_mul, binD_fdiv, binD_mod, cmp_lt, cmp_le, cmp_gt, cmp_ge, cmp_eqi, cmp_nei, cmp_eqb, cmp_neb, cmp_eqs, cmp_nes, cmp_is, cmp_isNot, isn_int, isn_non, isn_tup, isn_lst, isn_str, isTy, isFn, ix0, ix1, ix2, ix3, ix4, ix5, ixm1, blt_lenc, blt_lent, blt_lenl, blt_lens, blt_abs, blt_inti, blt_intb, blt_tupt, blt_tupl, blt_lstt, blt_lstl, blt_max, blt_min, slice_tup, slice_lst, List.length_cons, List.length_nil, Nat.reduceAdd, Nat.reduceLeDiff, ↓reduceIte, reduceCtorEq, Bool.false_eq_true, Bool.not_true, Bool.not_false, Bool.not_eq_true, decide_eq_true_eq, decide_not, Bool.not_eq_eq_eq_not, maxl_num, Int.reduceEq, Int.reduceLT, Int.reduceLE, Int.reduceNeg, Int.reduceToNat, decide_true, decide_false, Bool.true_and, Bool.false_and, Bool.and_true, Bool.and_false, Bool.not_true, Bool.not_false, not_true_eq_false, not_false_eq_true, Nat.reduceEqDiff, nc0, nc1, nc2, nc3, nc4, nc5, nc6, nc7, nc8, nc9, nc10, nc11, nc12, g0, g1, g2, g3, g4, callAt, callLow, CLk, told_ok, told_x0, told_x1, told_x2, told_x3, told_x4, ms, s1, s0] <;> rfl) (st_ (by simp (disch := first | omega | assumption | (simp only [List.length_cons, List.length_nil, List.length_append, List.length_replicate, List.length_take, List.length_drop]; omega)) only [den, dens, deno, denc, deni, denS, denSs, fin_nx, fin_rt, Res.bind_ok, Res.bind_exc, truth, partD, getV, setV, setAll, storeT, wipeV, binD_add, binD_sub, binD_mul, binD_fdiv, binD_mod, cmp_lt, cmp_le, cmp_gt, cmp_ge, cmp_eqi, cmp_nei, cmp_eqb, cmp_neb, cmp_eqs, cmp_nes, cmp_is, cmp_isNot, isn_int, isn_non, isn_tup, isn_lst, isn_str, isTy, isFn, ix0, ix1, ix2, ix3, ix4, ix5, ixm1, blt_lenc, blt_lent, blt_lenl, blt_lens, blt_abs, blt_inti, blt_intb, blt_tupt, blt_tupl, blt_lstt, blt_lstl, blt_max, blt_min, slice_tup, slice_lst, List.length_cons, List.length_nil, Nat.reduceAdd, Nat.reduceLeDiff, ↓reduceIte, reduceCtorEq, Bool.false_eq_true, Bool.not_true, Bool.not_false, Bool.not_eq_true, decide_eq_true_eq, decide_not, Bool.not_eq_eq_eq_not, maxl_num, Int.reduceEq, Int.reduceLT, Int.reduceLE, Int.reduceNeg, Int.reduceToNat, decide_true, decide_false, Bool.true_and, Bool.false_and, Bool.and_true, Bool.and_false, Bool.not_true, Bool.not_false, not_true_eq_false, not_false_eq_true, Nat.reduceEqDiff, nc0, nc1, nc2, nc3, nc4, nc5, nc6, nc7, nc8, nc9, nc10, nc11, nc12, g0, g1, g2, g3, g4, callAt, callLow, CLk, told_ok, told_x0, told_x1, told_x2, told_x3, told_x4, m1, r1, m2, r2] <;> rfl) (st_ (by simp (disch := first | omega | assumption | (simp only [List.length_cons, List.length_nil, List.length_append, List.length_replicate, List.length_take, List.length_drop]; omega)) only [den, dens, deno, denc, deni, denS, denSs, fin_nx, fin_rt, Res.bind_ok, Res.bind_exc, truth, partD, getV, setV, setAll, storeT, wipeV, binD_add, binD_sub, binD_mul, binD_fdiv, binD_mod, cmp_lt, cmp_le, cmp_gt, cmp_ge, cmp_eqi, cmp_nei, cmp_eqb, cmp_neb, cmp_eqs, cmp_nes, cmp_is, cmp_isNot, isn_int, isn_non, isn_tup, isn_lst, isn_str, isTy, isFn, ix0, ix1, ix2, ix3, ix4, ix5, ixm1, blt_lenc, blt_lent, blt_lenl, blt_lens, blt_abs, blt_inti, blt_intb, blt_tupt, blt_tupl, blt_lstt, blt_lstl, blt_max, blt_min, slice_tup, slice_lst, List.length_cons, List.length_nil, Nat.reduceAdd, Nat.reduceLeDiff, ↓reduceIte, reduceCtorEq, Bool.false_eq_true, Bool.not_true, Bool.not_false, Bool.not_eq_true, decide_eq_true_eq, decide_not, Bool.not_eq_eq_eq_not, maxl_num, Int.reduceEq, Int.reduceLT, Int.reduceLE, Int.reduceNeg, Int.reduceToNat, decide_true, decide_false, Bool.true_and, Bool.false_and, Bool.and_true, Bool.and_false, Bool.not_true, Bool.not_false, not_true_eq_false, not_false_eq_true, Nat.reduceEqDiff, nc0, nc1, nc2, nc3, nc4, nc5, nc6, nc7, nc8, nc9, nc10, nc11, nc12, g0, g1, g2, g3, g4, callAt, callLow, CLk, told_ok, told_x0, told_x1, told_x2, told_x3, told_x4, slice_str, f2, m3, r3] <;> rfl) ?_))
  by_cases hA : F = [] ∨ 20 < F.length ∨ ((F ++ H).all fun c => decide (c ∈ FIGS)) = false
  · rw [if_pos hA]
    refine sr_ (oit_ ?_ (or_ (by simp (disch := first | omega | assumption | (simp only [List.length_cons, List.length_nil, List.length_append, List.length_replicate, List.length_take, List.length_drop]; omega)) only [den, dens, deno, denc, deni, denS, denSs, fin_nx, fin_rt, Res.bind_ok, Res.bind_exc, truth, partD, getV, setV, setAll, storeT, wipeV, binD_add, binD_sub, binD_mul, binD_fdiv, binD_mod, cmp_lt, cmp_le, cmp_gt, cmp_ge, cmp_eqi, cmp_nei, cmp_eqb, cmp_neb, cmp_eqs, cmp_nes, cmp_is, cmp_isNot, isn_int, isn_non, isn_tup, isn_lst, isn_str, isTy, isFn, ix0, ix1, ix2, ix3, ix4, ix5, ixm1, blt_lenc, blt_lent, blt_lenl, blt_lens, blt_abs, blt_inti, blt_intb, blt_tupt, blt_tupl, blt_lstt, blt_lstl, blt_max, blt_min, slice_tup, slice_lst, List.length_cons, List.length_nil, Nat.reduceAdd, Nat.reduceLeDiff, ↓reduceIte, reduceCtorEq, Bool.false_eq_true, Bool.not_true, Bool.not_false, Bool.not_eq_true, decide_eq_true_eq, decide_not, Bool.not_eq_eq_eq_not, maxl_num, Int.reduceEq, Int.reduceLT, Int.reduceLE, Int.reduceNeg, Int.reduceToNat, decide_true, decide_false, Bool.true_and, Bool.false_and, Bool.and_true, Bool.and_false, Bool.not_true, Bool.not_false, not_true_eq_false, not_false_eq_true, Nat.reduceEqDiff, nc0, nc1, nc2, nc3, nc4, nc5, nc6, nc7, nc8, nc9, nc10, nc11, nc12, g0, g1, g2, g3, g4, callAt, callLow, CLk, told_ok, told_x0, told_x1, told_x2, told_x3, told_x4] <;> rfl)))
    by_cases a1 : F = []
    · exact den_orT (by simp (disch := first | omega | assumption | (simp only [List.length_cons, List.length_nil, List.length_append, List.length_replicate, List.length_take, List.length_drop]; omega)) only [den, dens, deno, denc, deni, denS, denSs, fin_nx, fin_rt, Res.bind_ok, Res.bind_exc, truth, partD, getV, setV, setAll, storeT, wipeV, binD_add, binD_sub, binD_mul, binD_fdiv, binD_mod, cmp_lt, cmp_le, cmp_gt, cmp_ge, cmp_eqi, cmp_nei, cmp_eqb, cmp_neb, cmp_eqs, cmp_nes, cmp_is, cmp_isNot, isn_int, isn_non, isn_tup, isn_lst, isn_str, isTy, isFn, ix0, ix1, ix2, ix3, ix4, ix5, ixm1, blt_lenc, blt_lent, blt_lenl, blt_lens, blt_abs, blt_inti, blt_intb, blt_tupt, blt_tupl, blt_lstt, blt_lstl, blt_max, blt_min, slice_tup, slice_lst, List.length_cons, List.length_nil, Nat.reduceAdd, Nat.reduceLeDiff, ↓reduceIte, reduceCtorEq, Bool.false_eq_true, Bool.not_true, Bool.not_false, Bool.not_eq_true, decide_eq_true_eq, decide_not, Bool.not_eq_eq_eq_not, maxl_num, Int.reduceEq, Int.reduceLT, Int.reduceLE, Int.reduceNeg, Int.reduceToNat, decide_true, decide_false, Bool.true_and, Bool.false_and, Bool.and_true, Bool.and_false, Bool.not_true, Bool.not_false, not_true_eq_false, not_false_eq_true, Nat.reduceEqDiff, nc0, nc1, nc2, nc3, nc4, nc5, nc6, nc7, nc8, nc9, nc10, nc11, nc12, g0, g1, g2, g3, g4, callAt, callLow, CLk, told_ok, told_x0, told_x1, told_x2, told_x3, told_x4, a1, decide_true])
    · refine den_orF (by simp (disch := first | omega | assumption | (simp only [List.length_cons, List.length_nil, List.length_append, List.length_replicate, List.length_take, List.length_drop]; omega)) only [den, dens, deno, denc, deni, denS, denSs, fin_nx, fin_rt, Res.bind_ok, Res.bind_exc, truth, partD, getV, setV, setAll, storeT, wipeV, binD_add, binD_sub, binD_mul, binD_fdiv, binD_mod, cmp_lt, cmp_le, cmp_gt, cmp_ge, cmp_eqi, cmp_nei, cmp_eqb, cmp_neb, cmp_eqs, cmp_nes, cmp_is, cmp_isNot, isn_int, isn_non, isn_tup, isn_lst, isn_str, isTy, isFn, ix0, ix1, ix2, ix3, ix4, ix5, ixm1, blt_lenc, blt_lent, blt_lenl, blt_lens, blt_abs, blt_inti, blt_intb, blt_tupt, blt_tupl, blt_lstt, blt_lstl, blt_max, blt_min, slice_tup, slice_lst, List.length_cons, List.length_nil, Nat.reduceAdd, Nat.reduceLeDiff, ↓reduceIte, reduceCtorEq, Bool.false_eq_true, Bool.not_true, Bool.not_false, Bool.not_eq_true, decide_eq_true_eq, decide_not, Bool.not_eq_eq_eq_not, maxl_num, Int.reduceEq, Int.reduceLT, Int.reduceLE, Int.reduceNeg, Int.reduceToNat, decide_true, decide_false, Bool.true_and, Bool.false_and, Bool.and_true, Bool.and_false, Bool.not_true, Bool.not_false, not_true_eq_false, not_false_eq_true, Nat.reduceEqDiff, nc0, nc1, nc2, nc3, nc4, nc5, nc6, nc7, nc8, nc9, nc10, nc11, nc12, g0, g1, g2, g3, g4, callAt, callLow, CLk, told_ok, told_x0, told_x1, told_x2, told_x3, told_x4, a1]) ?_
      by_cases a2 : (20 : Int) < F.length
      · exact den_orT (by simp (disch := first | omega | assumption | (simp only [List.length_cons, List.length_nil, List.length_append, List.length_replicate, List.length_take, List.length_drop]; omega)) only [den, dens, deno, denc, deni, denS, denSs, fin_nx, fin_rt, Res.bind_ok, Res.bind_exc, truth, partD, getV, setV, setAll, storeT, wipeV, binD_add, binD_sub, binD_mul, binD_fdiv, binD_mod, cmp_lt, cmp_le, cmp_gt, cmp_ge, cmp_eqi, cmp_nei, cmp_eqb, cmp_neb, cmp_eqs, cmp_nes, cmp_is, cmp_isNot, isn_int, isn_non, isn_tup, isn_lst, isn_str, isTy, isFn, ix0, ix1, ix2, ix3, ix4, ix5, ixm1, blt_lenc, blt_lent, blt_lenl, blt_lens, blt_abs, blt_inti, blt_intb, blt_tupt, blt_tupl, blt_lstt, blt_lstl, blt_max, blt_min, slice_tup, slice_lst, List.length_cons, List.length_nil, Nat.reduceAdd, Nat.reduceLeDiff, ↓reduceIte, reduceCtorEq, Bool.false_eq_true, Bool.not_true, Bool.not_false, Bool.not_eq_true, decide_eq_true_eq, decide_not, Bool.not_eq_eq_eq_not, maxl_num, Int.reduceEq, Int.reduceLT, Int.reduceLE, Int.reduceNeg, Int.reduceToNat, decide_true, decide_false, Bool.true_and, Bool.false_and, Bool.and_true, Bool.and_false, Bool.not_true, Bool.not_false, not_true_eq_false, not_false_eq_true, Nat.reduceEqDiff, nc0, nc1, nc2, nc3, nc4, nc5, nc6, nc7, nc8, nc9, nc10, nc11, nc12, g0, g1, g2, g3, g4, callAt, callLow, CLk, told_ok, told_x0, told_x1, told_x2, told_x3, told_x4, a2])
      · refine den_orF (by simp (disch := first | omega | assumption | (simp only [List.length_cons, List.length_nil, List.length_append, List.length_replicate, List.length_take, List.length_drop]; omega)) only [den, dens, deno, denc, deni, denS, denSs, fin_nx, fin_rt, Res.bind_ok, Res.bind_exc, truth, partD, getV, setV, setAll, storeT, wipeV, binD_add, binD_sub, binD_mul, binD_fdiv, binD_mod, cmp_lt, cmp_le, cmp_gt, cmp_ge, cmp_eqi, cmp_nei, cmp_eqb, cmp_neb, cmp_eqs, cmp_nes, cmp_is, cmp_isNot, isn_int, isn_non, isn_tup, isn_lst, isn_str, isTy, isFn, ix0, ix1, ix2, ix3, ix4, ix5, ixm1, blt_lenc, blt_lent, blt_lenl, blt_lens, blt_abs, blt_inti, blt_intb, blt_tupt, blt_tupl, blt_lstt, blt_lstl, blt_max, blt_min, slice_tup, slice_lst, List.length_cons, List.length_nil, Nat.reduceAdd, Nat.reduceLeDiff, ↓reduceIte, reduceCtorEq, Bool.false_eq_true, Bool.not_true, Bool.not_false, Bool.not_eq_true, decide_eq_true_eq, decide_not, Bool.not_eq_eq_eq_not, maxl_num, Int.reduceEq, Int.reduceLT, Int.reduceLE, Int.reduceNeg, Int.reduceToNat, decide_true, decide_false, Bool.true_and, Bool.false_and, Bool.and_true, Bool.and_false, Bool.not_true, Bool.not_false, not_true_eq_false, not_false_eq_true, Nat.reduceEqDiff, nc0, nc1, nc2, nc3, nc4, nc5, nc6, nc7, nc8, nc9, nc10, nc11, nc12, g0, g1, g2, g3, g4, callAt, callLow, CLk, told_ok, told_x0, told_x1, told_x2, told_x3, told_x4, a2]) ?_
        have a3 : ((F ++ H).all fun c => decide (c ∈ FIGS)) = false := by
          rcases hA with z | z | z
          · exact absurd z a1
          · omega
          · exact z
        rw [an, a3]
        rfl
  · rw [if_neg hA]
    have a1 : ¬F = [] := fun z => hA (.inl z)
    have a2 : ¬(20 : Int) < F.length := fun z => hA (.inr (.inl (by omega)))
    have a3 : ((F ++ H).all fun c => decide (c ∈ FIGS)) = true := by
      cases q : (F ++ H).all fun c => decide (c ∈ FIGS) with
      | true => rfl
      | false => exact absurd (.inr (.inr q)) hA
    refine sif_ (den_orF (by simp (disch := first | omega | assumption | (simp only [List.length_cons, List.length_nil, List.length_append, List.length_replicate, List.length_take, List.length_drop]; omega)) only [den, dens, deno, denc, deni, denS, denSs, fin_nx, fin_rt, Res.bind_ok, Res.bind_exc, truth, partD, getV, setV, setAll, storeT, wipeV, binD_add, binD_sub, binD_mul, binD_fdiv, binD_mod, cmp_lt, cmp_le, cmp_gt, cmp_ge, cmp_eqi, cmp_nei, cmp_eqb, cmp_neb, cmp_eqs, cmp_nes, cmp_is, cmp_isNot, isn_int, isn_non, isn_tup, isn_lst, isn_str, isTy, isFn, ix0, ix1, ix2, ix3, ix4, ix5, ixm1, blt_lenc, blt_lent, blt_lenl, blt_lens, blt_abs, blt_inti, blt_intb, blt_tupt, blt_tupl, blt_lstt, blt_lstl, blt_max, blt_min, slice_tup, slice_lst, List.length_cons, List.length_nil, Nat.reduceAdd, Nat.reduceLeDiff, ↓reduceIte, reduceCtorEq, Bool.false_eq_true, Bool.not_true, Bool.not_false, Bool.not_eq_true, decide_eq_true_eq, decide_not, Bool.not_eq_eq_eq_not, maxl_num, Int.reduceEq, Int.reduceLT, Int.reduceLE, Int.reduceNeg, Int.reduceToNat, decide_true, decide_false, Bool.true_and, Bool.false_and, Bool.and_true, Bool.and_false, Bool.not_true, Bool.not_false, not_true_eq_false, not_false_eq_true, Nat.reduceEqDiff, nc0, nc1, nc2, nc3, nc4, nc5, nc6, nc7, nc8, nc9, nc10, nc11, nc12, g0, g1, g2, g3, g4, callAt, callLow, CLk, told_ok, told_x0, told_x1, told_x2, told_x3, told_x4, a1]) (den_orF (by simp (disch := first | omega | assumption | (simp only [List.length_cons, List.length_nil, List.length_append, List.length_replicate, List.length_take, List.length_drop]; omega)) only [den, dens, deno, denc, deni, denS, denSs, fin_nx, fin_rt, Res.bind_ok, Res.bind_exc, truth, partD, getV, setV, setAll, storeT, wipeV, binD_add, binD_sub, binD_mul, binD_fdiv, binD_mod, cmp_lt, cmp_le, cmp_gt, cmp_ge, cmp_eqi, cmp_nei, cmp_eqb, cmp_neb, cmp_eqs, cmp_nes, cmp_is, cmp_isNot, isn_int, isn_non, isn_tup, isn_lst, isn_str, isTy, isFn, ix0, ix1, ix2, ix3, ix4, ix5, ixm1, blt_lenc, blt_lent, blt_lenl, blt_lens, blt_abs, blt_inti, blt_intb, blt_tupt, blt_tupl, blt_lstt, blt_lstl, blt_max, blt_min, slice_tup, slice_lst, List.length_cons, List.length_nil, Nat.reduceAdd, Nat.reduceLeDiff, ↓reduceIte, reduceCtorEq, Bool.false_eq_true, Bool.not_true, Bool.not_false, Bool.not_eq_true, decide_eq_true_eq, decide_not, Bool.not_eq_eq_eq_not, maxl_num, Int.reduceEq, Int.reduceLT, Int.reduceLE, Int.reduceNeg, Int.reduceToNat, decide_true, decide_false, Bool.true_and, Bool.false_and, Bool.and_true, Bool.and_false, Bool.not_true, Bool.not_false, not_true_eq_false, not_false_eq_true, Nat.reduceEqDiff, nc0, nc1, nc2, nc3, nc4, nc5, nc6, nc7, nc8, nc9, nc10, nc11, nc12, g0, g1, g2, g3, g4, callAt, callLow, CLk, told_ok, told_x0, told_x1, told_x2, told_x3, told_x4, a2]) (by rw [an, a3]; rfl))) ?_
    by_cases hB : 0 < fnd p 45 ∨ 2 < H.length ∨ (e = true ∧ H = []) ∨ 45 ∈ h.drop 1
    · rw [if_pos hB]
      refine sr_ (oit_ ?_ (or_ (by simp (disch := first | omega | assumption | (simp only [List.length_cons, List.length_nil, List.length_append, List.length_replicate, List.length_take, List.length_drop]; omega)) only [den, dens, deno, denc, deni, denS, denSs, fin_nx, fin_rt, Res.bind_ok, Res.bind_exc, truth, partD, getV, setV, setAll, storeT, wipeV, binD_add, binD_sub, binD_mul, binD_fdiv, binD_mod, cmp_lt, cmp_le, cmp_gt, cmp_ge, cmp_eqi, cmp_nei, cmp_eqb, cmp_neb, cmp_eqs, cmp_nes, cmp_is, cmp_isNot, isn_int, isn_non, isn_tup, isn_lst, isn_str, isTy, isFn, ix0, ix1, ix2, ix3, ix4, ix5, ixm1, blt_lenc, blt_lent, blt_lenl, blt_lens, blt_abs, blt_inti, blt_intb, blt_tupt, blt_tupl, blt_lstt, blt_lstl, blt_max, blt_min, slice_tup, slice_lst, List.length_cons, List.length_nil, Nat.reduceAdd, Nat.reduceLeDiff, ↓reduceIte, reduceCtorEq, Bool.false_eq_true, Bool.not_true, Bool.not_false, Bool.not_eq_true, decide_eq_true_eq, decide_not, Bool.not_eq_eq_eq_not, maxl_num, Int.reduceEq, Int.reduceLT, Int.reduceLE, Int.reduceNeg, Int.reduceToNat, decide_true, decide_false, Bool.true_and, Bool.false_and, Bool.and_true, Bool.and_false, Bool.not_true, Bool.not_false, not_true_eq_false, not_false_eq_true, Nat.reduceEqDiff, nc0, nc1, nc2, nc3, nc4, nc5, nc6, nc7, nc8, nc9, nc10, nc11, nc12, g0, g1, g2, g3, g4, callAt, callLow, CLk, told_ok, told_x0, told_x1, told_x2, told_x3, told_x4] <;> rfl)))
      by_cases c1 : (0 : Int) < fnd p 45
      · exact den_orT (by simp (disch := first | omega | assumption | (simp only [List.length_cons, List.length_nil, List.length_append, List.length_replicate, List.length_take, List.length_drop]; omega)) only [den, dens, deno, denc, deni, denS, denSs, fin_nx, fin_rt, Res.bind_ok, Res.bind_exc, truth, partD, getV, setV, setAll, storeT, wipeV, binD_add, binD_sub, binD_mul, binD_fdiv, binD_mod, cmp_lt, cmp_le, cmp_gt, cmp_ge, cmp_eqi, cmp_nei, cmp_eqb, cmp_neb, cmp_eqs, cmp_nes, cmp_is, cmp_isNot, isn_int, isn_non, isn_tup, isn_lst, isn_str, isTy, isFn, ix0, ix1, ix2, ix3, ix4, ix5, ixm1, blt_lenc, blt_lent, blt_lenl, blt_lens, blt_abs, blt_inti, blt_intb, blt_tupt, blt_tupl, blt_lstt, blt_lstl, blt_max, blt_min, slice_tup, slice_lst, List.length_cons, List.length_nil, Nat.reduceAdd, Nat.reduceLeDiff, ↓reduceIte, reduceCtorEq, Bool.false_eq_true, Bool.not_true, Bool.not_false, Bool.not_eq_true, decide_eq_true_eq, decide_not, Bool.not_eq_eq_eq_not, maxl_num, Int.reduceEq, Int.reduceLT, Int.reduceLE, Int.reduceNeg, Int.reduceToNat, decide_true, decide_false, Bool.true_and, Bool.false_and, Bool.and_true, Bool.and_false, Bool.not_true, Bool.not_false, not_true_eq_false, not_false_eq_true, Nat.reduceEqDiff, nc0, nc1, nc2, nc3, nc4, nc5, nc6, nc7, nc8, nc9, nc10, nc11, nc12, g0, g1, g2, g3, g4, callAt, callLow, CLk, told_ok, told_x0, told_x1, told_x2, told_x3, told_x4, mf, d1, c1])
      · refine den_orF (by simp (disch := first | omega | assumption | (simp only [List.length_cons, List.length_nil, List.length_append, List.length_replicate, List.length_take, List.length_drop]; omega)) only [den, dens, deno, denc, deni, denS, denSs, fin_nx, fin_rt, Res.bind_ok, Res.bind_exc, truth, partD, getV, setV, setAll, storeT, wipeV, binD_add, binD_sub, binD_mul, binD_fdiv, binD_mod, cmp_lt, cmp_le, cmp_gt, cmp_ge, cmp_eqi, cmp_nei, cmp_eqb, cmp_neb, cmp_eqs, cmp_nes, cmp_is, cmp_isNot, isn_int, isn_non, isn_tup, isn_lst, isn_str, isTy, isFn, ix0, ix1, ix2, ix3, ix4, ix5, ixm1, blt_lenc, blt_lent, blt_lenl, blt_lens, blt_abs, blt_inti, blt_intb, blt_tupt, blt_tupl, blt_lstt, blt_lstl, blt_max, blt_min, slice_tup, slice_lst, List.length_cons, List.length_nil, Nat.reduceAdd, Nat.reduceLeDiff, ↓reduceIte, reduceCtorEq, Bool.false_eq_true, Bool.not_true, Bool.not_false, Bool.not_eq_true, decide_eq_true_eq, decide_not, Bool.not_eq_eq_eq_not, maxl_num, Int.reduceEq, Int.reduceLT, Int.reduceLE, Int.reduceNeg, Int.reduceToNat, decide_true, decide_false, Bool.true_and, Bool.false_and, Bool.and_true, Bool.and_false, Bool.not_true, Bool.not_false, not_true_eq_false, not_false_eq_true, Nat.reduceEqDiff, nc0, nc1, nc2, nc3, nc4, nc5, nc6, nc7, nc8, nc9, nc10, nc11, nc12, g0, g1, g2, g3, g4, callAt, callLow, CLk, told_ok, told_x0, told_x1, told_x2, told_x3, told_x4, mf, d1, c1]) ?_
        by_cases c2 : (2 : Int) < H.length
        · exact den_orT (by simp (disch := first | omega | assumption | (simp only [List.length_cons, List.length_nil, List.length_append, List.length_replicate, List.length_take, List.length_drop]; omega)) only [den, dens, deno, denc, deni, denS, denSs, fin_nx, fin_rt, Res.bind_ok, Res.bind_exc, truth, partD, getV, setV, setAll, storeT, wipeV, binD_add, binD_sub, binD_mul, binD_fdiv, binD_mod, cmp_lt, cmp_le, cmp_gt, cmp_ge, cmp_eqi, cmp_nei, cmp_eqb, cmp_neb, cmp_eqs, cmp_nes, cmp_is, cmp_isNot, isn_int, isn_non, isn_tup, isn_lst, isn_str, isTy, isFn, ix0, ix1, ix2, ix3, ix4, ix5, ixm1, blt_lenc, blt_lent, blt_lenl, blt_lens, blt_abs, blt_inti, blt_intb, blt_tupt, blt_tupl, blt_lstt, blt_lstl, blt_max, blt_min, slice_tup, slice_lst, List.length_cons, List.length_nil, Nat.reduceAdd, Nat.reduceLeDiff, ↓reduceIte, reduceCtorEq, Bool.false_eq_true, Bool.not_true, Bool.not_false, Bool.not_eq_true, decide_eq_true_eq, decide_not, Bool.not_eq_eq_eq_not, maxl_num, Int.reduceEq, Int.reduceLT, Int.reduceLE, Int.reduceNeg, Int.reduceToNat, decide_true, decide_false, Bool.true_and, Bool.false_and, Bool.and_true, Bool.and_false, Bool.not_true, Bool.not_false, not_true_eq_false, not_false_eq_true, Nat.reduceEqDiff, nc0, nc1, nc2, nc3, nc4, nc5, nc6, nc7, nc8, nc9, nc10, nc11, nc12, g0, g1, g2, g3, g4, callAt, callLow, CLk, told_ok, told_x0, told_x1, told_x2, told_x3, told_x4, c2])
        · refine den_orF (by simp (disch := first | omega | assumption | (simp only [List.length_cons, List.length_nil, List.length_append, List.length_replicate, List.length_take, List.length_drop]; omega)) only [den, dens, deno, denc, deni, denS, denSs, fin_nx, fin_rt, Res.bind_ok, Res.bind_exc, truth, partD, getV, setV, setAll, storeT, wipeV, binD_add, binD_sub, binD_mul, binD_fdiv, binD_mod, cmp_lt, cmp_le, cmp_gt, cmp_ge, cmp_eqi, cmp_nei, cmp_eqb, cmp_neb, cmp_eqs, cmp_nes, cmp_is, cmp_isNot, isn_int, isn_non, isn_tup, isn_lst, isn_str, isTy, isFn, ix0, ix1, ix2, ix3, ix4, ix5, ixm1, blt_lenc, blt_lent, blt_lenl, blt_lens, blt_abs, blt_inti, blt_intb, blt_tupt, blt_tupl, blt_lstt, blt_lstl, blt_max, blt_min, slice_tup, slice_lst, List.length_cons, List.length_nil, Nat.reduceAdd, Nat.reduceLeDiff, ↓reduceIte, reduceCtorEq, Bool.false_eq_true, Bool.not_true, Bool.not_false, Bool.not_eq_true, decide_eq_true_eq, decide_not, Bool.not_eq_eq_eq_not, maxl_num, Int.reduceEq, Int.reduceLT, Int.reduceLE, Int.reduceNeg, Int.reduceToNat, decide_true, decide_false, Bool.true_and, Bool.false_and, Bool.and_true, Bool.and_false, Bool.not_true, Bool.not_false, not_true_eq_false, not_false_eq_true, Nat.reduceEqDiff, nc0, nc1, nc2, nc3, nc4, nc5, nc6, nc7, nc8, nc9, nc10, nc11, nc12, g0, g1, g2, g3, g4, callAt, callLow, CLk, told_ok, told_x0, told_x1, told_x2, told_x3, told_x4, c2]) ?_
          by_cases c3 : e = true ∧ H = []
          · have n := f4.1 c3.1
            have hn := c3.2
            exact den_orT (den_andT (by simp (disch := first | omega | assumption | (simp only [List.length_cons, List.length_nil, List.length_append, List.length_replicate, List.length_take, List.length_drop]; omega)) only [den, dens, deno, denc, deni, denS, denSs, fin_nx, fin_rt, Res.bind_ok, Res.bind_exc, truth, partD, getV, setV, setAll, storeT, wipeV, binD_add, binD_sub, binD_mul, binD_fdiv, binD_mod, cmp_lt, cmp_le, cmp_gt, cmp_ge, cmp_eqi, cmp_nei, cmp_eqb, cmp_neb, cmp_eqs, cmp_nes, cmp_is, cmp_isNot, isn_int, isn_non, isn_tup, isn_lst, isn_str, isTy, isFn, ix0, ix1, ix2, ix3, ix4, ix5, ixm1, blt_lenc, blt_lent, blt_lenl, blt_lens, blt_abs, blt_inti, blt_intb, blt_tupt, blt_tupl, blt_lstt, blt_lstl, blt_max, blt_min, slice_tup, slice_lst, List.length_cons, List.length_nil, Nat.reduceAdd, Nat.reduceLeDiff, ↓reduceIte, reduceCtorEq, Bool.false_eq_true, Bool.not_true, Bool.not_false, Bool.not_eq_true, decide_eq_true_eq, decide_not, Bool.not_eq_eq_eq_not, maxl_num, Int.reduceEq, Int.reduceLT, Int.reduceLE, Int.reduceNeg, Int.reduceToNat, decide_true, decide_false, Bool.true_and, Bool.false_and, Bool.and_true, Bool.and_false, Bool.not_true, Bool.not_false, not_true_eq_false, not_false_eq_true, Nat.reduceEqDiff, nc0, nc1, nc2, nc3, nc4, nc5, nc6, nc7, nc8, nc9, nc10, nc11, nc12, g0, g1, g2, g3, g4, callAt, callLow, CLk, told_ok, told_x0, told_x1, told_x2, told_x3, told_x4, n]) (by simp (disch := first | omega | assumption | (simp only [List.length_cons, List.length_nil, List.length_append, List.length_replicate, List.length_take, List.length_drop]; omega)) only [den, dens, deno, denc, deni, denS, denSs, fin_nx, fin_rt, Res.bind_ok, Res.bind_exc, truth, partD, getV, setV, setAll, storeT, wipeV, binD_add, binD_sub, binD_mul, binD_fdiv, binD_mod, cmp_lt, cmp_le, cmp_gt, cmp_ge, cmp_eqi, cmp_nei, cmp_eqb, cmp_neb, cmp_eqs, cmp_nes, cmp_is, cmp_isNot, isn_int, isn_non, isn_tup, isn_lst, isn_str, isTy, isFn, ix0, ix1, ix2, ix3, ix4, ix5, ixm1, blt_lenc, blt_lent, blt_lenl, blt_lens, blt_abs, blt_inti, blt_intb, blt_tupt, blt_tupl, blt_lstt, blt_lstl, blt_max, blt_min, slice_tup, slice_lst, List.length_cons, List.length_nil, Nat.reduceAdd, Nat.reduceLeDiff, ↓reduceIte, reduceCtorEq, Bool.false_eq_true, Bool.not_true, Bool.not_false, Bool.not_eq_true, decide_eq_true_eq, decide_not, Bool.not_eq_eq_eq_not, maxl_num, Int.reduceEq, Int.reduceLT, Int.reduceLE, Int.reduceNeg, Int.reduceToNat, decide_true, decide_false, Bool.true_and, Bool.false_and, Bool.and_true, Bool.and_false, Bool.not_true, Bool.not_false, not_true_eq_false, not_false_eq_true, Nat.reduceEqDiff, nc0, nc1, nc2, nc3, nc4, nc5, nc6, nc7, nc8, nc9, nc10, nc11, nc12, g0, g1, g2, g3, g4, callAt, callLow, CLk, told_ok, told_x0, told_x1, told_x2, told_x3, told_x4, hn, decide_true]))
          · have c4 : 45 ∈ h.drop 1 := by
              rcases hB with z | z | z | z
              · exact absurd z c1
              · omega
              · exact absurd z c3
              · exact z
            rw [decide_eq_true c4] at i4
            refine den_orF ?_ (by simp (disch := first | omega | assumption | (simp only [List.length_cons, List.length_nil, List.length_append, List.length_replicate, List.length_take, List.length_drop]; omega)) only [den, dens, deno, denc, deni, denS, denSs, fin_nx, fin_rt, Res.bind_ok, Res.bind_exc, truth, partD, getV, setV, setAll, storeT, wipeV, binD_add, binD_sub, binD_mul, binD_fdiv, binD_mod, cmp_lt, cmp_le, cmp_gt, cmp_ge, cmp_eqi, cmp_nei, cmp_eqb, cmp_neb, cmp_eqs, cmp_nes, cmp_is, cmp_isNot, isn_int, isn_non, isn_tup, isn_lst, isn_str, isTy, isFn, ix0, ix1, ix2, ix3, ix4, ix5, ixm1, blt_lenc, blt_lent, blt_lenl, blt_lens, blt_abs, blt_inti, blt_intb, blt_tupt, blt_tupl, blt_lstt, blt_lstl, blt_max, blt_min, slice_tup, slice_lst, List.length_cons, List.length_nil, Nat.reduceAdd, Nat.reduceLeDiff, ↓reduceIte, reduceCtorEq, Bool.false_eq_true, Bool.not_true, Bool.not_false, Bool.not_eq_true, decide_eq_true_eq, decide_not, Bool.not_eq_eq_eq_not, maxl_num, Int.reduceEq, Int.reduceLT, Int.reduceLE, Int.reduceNeg, Int.reduceToNat, decide_true, decide_false, Bool.true_and, Bool.false_and, Bool.and_true, Bool.and_false, Bool.not_true, Bool.not_false, not_true_eq_false, not_false_eq_true, Nat.reduceEqDiff, nc0, nc1, nc2, nc3, nc4, nc5, nc6, nc7, nc8, nc9, nc10, nc11, nc12, g0, g1, g2, g3, g4, callAt, callLow, CLk, told_ok, told_x0, told_x1, told_x2, told_x3, told_x4, slice_str, f3, i4])
            cases e with
            | true =>
              have n := f4.1 rfl
              have hn : ¬H = [] := fun z => c3 ⟨rfl, z⟩
              exact den_andT (by simp (disch := first | omega | assumption | (simp only [List.length_cons, List.length_nil, List.length_append, List.length_replicate, List.length_take, List.length_drop]; omega)) only [den, dens, deno, denc, deni, denS, denSs, fin_nx, fin_rt, Res.bind_ok, Res.bind_exc, truth, partD, getV, setV, setAll, storeT, wipeV, binD_add, binD_sub, binD_mul, binD_fdiv, binD_mod, cmp_lt, cmp_le, cmp_gt, cmp_ge, cmp_eqi, cmp_nei, cmp_eqb, cmp_neb, cmp_eqs, cmp_nes, cmp_is, cmp_isNot, isn_int, isn_non, isn_tup, isn_lst, isn_str, isTy, isFn, ix0, ix1, ix2, ix3, ix4, ix5, ixm1, blt_lenc, blt_lent, blt_lenl, blt_lens, blt_abs, blt_inti, blt_intb, blt_tupt, blt_tupl, blt_lstt, blt_lstl, blt_max, blt_min, slice_tup, slice_lst, List.length_cons, List.length_nil, Nat.reduceAdd, Nat.reduceLeDiff, ↓reduceIte, reduceCtorEq, Bool.false_eq_true, Bool.not_true, Bool.not_false, Bool.not_eq_true, decide_eq_true_eq, decide_not, Bool.not_eq_eq_eq_not, maxl_num, Int.reduceEq, Int.reduceLT, Int.reduceLE, Int.reduceNeg, Int.reduceToNat, decide_true, decide_false, Bool.true_and, Bool.false_and, Bool.and_true, Bool.and_false, Bool.not_true, Bool.not_false, not_true_eq_false, not_false_eq_true, Nat.reduceEqDiff, nc0, nc1, nc2, nc3, nc4, nc5, nc6, nc7, nc8, nc9, nc10, nc11, nc12, g0, g1, g2, g3, g4, callAt, callLow, CLk, told_ok, told_x0, told_x1, told_x2, told_x3, told_x4, n]) (by simp (disch := first | omega | assumption | (simp only [List.length_cons, List.length_nil, List.length_append, List.length_replicate, List.length_take, List.length_drop]; omega)) only [den, dens, deno, denc, deni, denS, denSs, fin_nx, fin_rt, Res.bind_ok, Res.bind_exc, truth, partD, getV, setV, setAll, storeT, wipeV, binD_add, binD_sub, binD_mul, binD_fdiv, binD_mod, cmp_lt, cmp_le, cmp_gt, cmp_ge, cmp_eqi, cmp_nei, cmp_eqb, cmp_neb, cmp_eqs, cmp_nes, cmp_is, cmp_isNot, isn_int, isn_non, isn_tup, isn_lst, isn_str, isTy, isFn, ix0, ix1, ix2, ix3, ix4, ix5, ixm1, blt_lenc, blt_lent, blt_lenl, blt_lens, blt_abs, blt_inti, blt_intb, blt_tupt, blt_tupl, blt_lstt, blt_lstl, blt_max, blt_min, slice_tup, slice_lst, List.length_cons, List.length_nil, Nat.reduceAdd, Nat.reduceLeDiff, ↓reduceIte, reduceCtorEq, Bool.false_eq_true, Bool.not_true, Bool.not_false, Bool.not_eq_true, decide_eq_true_eq, decide_not, Bool.not_eq_eq_eq_not, maxl_num, Int.reduceEq, Int.reduceLT, Int.reduceLE, Int.reduceNeg, Int.reduceToNat, decide_true, decide_false, Bool.true_and, Bool.false_and, Bool.and_true, Bool.and_false, Bool.not_true, Bool.not_false, not_true_eq_false, not_false_eq_true, Nat.reduceEqDiff, nc0, nc1, nc2, nc3, nc4, nc5, nc6, nc7, nc8, nc9, nc10, nc11, nc12, g0, g1, g2, g3, g4, callAt, callLow, CLk, told_ok, told_x0, told_x1, told_x2, told_x3, told_x4, hn])
            | false =>
              have n := f4.2 rfl
              exact den_andF (by simp (disch := first | omega | assumption | (simp only [List.length_cons, List.length_nil, List.length_append, List.length_replicate, List.length_take, List.length_drop]; omega)) only [den, dens, deno, denc, deni, denS, denSs, fin_nx, fin_rt, Res.bind_ok, Res.bind_exc, truth, partD, getV, setV, setAll, storeT, wipeV, binD_add, binD_sub, binD_mul, binD_fdiv, binD_mod, cmp_lt, cmp_le, cmp_gt, cmp_ge, cmp_eqi, cmp_nei, cmp_eqb, cmp_neb, cmp_eqs, cmp_nes, cmp_is, cmp_isNot, isn_int, isn_non, isn_tup, isn_lst, isn_str, isTy, isFn, ix0, ix1, ix2, ix3, ix4, ix5, ixm1, blt_lenc, blt_lent, blt_lenl, blt_lens, blt_abs, blt_inti, blt_intb, blt_tupt, blt_tupl, blt_lstt, blt_lstl, blt_max, blt_min, slice_tup, slice_lst, List.length_cons, List.length_nil, Nat.reduceAdd, Nat.reduceLeDiff, ↓reduceIte, reduceCtorEq, Bool.false_eq_true, Bool.not_true, Bool.not_false, Bool.not_eq_true, decide_eq_true_eq, decide_not, Bool.not_eq_eq_eq_not, maxl_num, Int.reduceEq, Int.reduceLT, Int.reduceLE, Int.reduceNeg, Int.reduceToNat, decide_true, decide_false, Bool.true_and, Bool.false_and, Bool.and_true, Bool.and_false, Bool.not_true, Bool.not_false, not_true_eq_false, not_false_eq_true, Nat.reduceEqDiff, nc0, nc1, nc2, nc3, nc4, nc5, nc6, nc7, nc8, nc9, nc10, nc11, nc12, g0, g1, g2, g3, g4, callAt, callLow, CLk, told_ok, told_x0, told_x1, told_x2, told_x3, told_x4, n, decide_true])
    · rw [if_neg hB]
      have c1 : ¬(0 : Int) < fnd p 45 := fun z => hB (.inl z)
      have c2 : ¬(2 : Int) < H.length := fun z => hB (.inr (.inl (by omega)))
      have c3 : e = true → ¬H = [] := fun z q => hB (.inr (.inr (.inl ⟨z, q⟩)))
      have c4 : ¬45 ∈ h.drop 1 := fun z => hB (.inr (.inr (.inr z)))
      rw [decide_eq_false c4] at i4
      refine sif_ (den_orF (by simp (disch := first | omega | assumption | (simp only [List.length_cons, List.length_nil, List.length_append, List.length_replicate, List.length_take, List.length_drop]; omega)) only [den, dens, deno, denc, deni, denS, denSs, fin_nx, fin_rt, Res.bind_ok, Res.bind_exc, truth, partD, getV, setV, setAll, storeT, wipeV, binD_add, binD_sub, binD_mul, binD_fdiv, binD_mod, cmp_lt, cmp_le, cmp_gt, cmp_ge, cmp_eqi, cmp_nei, cmp_eqb, cmp_neb, cmp_eqs, cmp_nes, cmp_is, cmp_isNot, isn_int, isn_non, isn_tup, isn_lst, isn_str, isTy, isFn, ix0, ix1, ix2, ix3, ix4, ix5, ixm1, blt_lenc, blt_lent, blt_lenl, blt_lens, blt_abs, blt_inti, blt_intb, blt_tupt, blt_tupl, blt_lstt, blt_lstl, blt_max, blt_min, slice_tup, slice_lst, List.length_cons, List.length_nil, Nat.reduceAdd, Nat.reduceLeDiff, ↓reduceIte, reduceCtorEq, Bool.false_eq_true, Bool.not_true, Bool.not_false, Bool.not_eq_true, decide_eq_true_eq, decide_not, Bool.not_eq_eq_eq_not, maxl_num, Int.reduceEq, Int.reduceLT, Int.reduceLE, Int.reduceNeg, Int.reduceToNat, decide_true, decide_false, Bool.true_and, Bool.false_and, Bool.and_true, Bool.and_false, Bool.not_true, Bool.not_false, not_true_eq_false, not_false_eq_true, Nat.reduceEqDiff, nc0, nc1, nc2, nc3, nc4, nc5, nc6, nc7, nc8, nc9, nc10, nc11, nc12, g0, g1, g2, g3, g4, callAt, callLow, CLk, told_ok, told_x0, told_x1, told_x2, told_x3, told_x4, mf, d1, c1]) (den_orF (by simp (disch := first | omega | assumption | (simp only [List.length_cons, List.length_nil, List.length_append, List.length_replicate, List.length_take, List.length_drop]; omega)) only [den, dens, deno, denc, deni, denS, denSs, fin_nx, fin_rt, Res.bind_ok, Res.bind_exc, truth, partD, getV, setV, setAll, storeT, wipeV, binD_add, binD_sub, binD_mul, binD_fdiv, binD_mod, cmp_lt, cmp_le, cmp_gt, cmp_ge, cmp_eqi, cmp_nei, cmp_eqb, cmp_neb, cmp_eqs, cmp_nes, cmp_is, cmp_isNot, isn_int, isn_non, isn_tup, isn_lst, isn_str, isTy, isFn, ix0, ix1, ix2, ix3, ix4, ix5, ixm1, blt_lenc, blt_lent, blt_lenl, blt_lens, blt_abs, blt_inti, blt_intb, blt_tupt, blt_tupl, blt_lstt, blt_lstl, blt_max, blt_min, slice_tup, slice_lst, List.length_cons, List.length_nil, Nat.reduceAdd, Nat.reduceLeDiff, ↓reduceIte, reduceCtorEq, Bool.false_eq_true, Bool.not_true, Bool.not_false, Bool.not_eq_true, decide_eq_true_eq, decide_not, Bool.not_eq_eq_eq_not, maxl_num, Int.reduceEq, Int.reduceLT, Int.reduceLE, Int.reduceNeg, Int.reduceToNat, decide_true, decide_false, Bool.true_and, Bool.false_and, Bool.and_true, Bool.and_false, Bool.not_true, Bool.not_false, not_true_eq_false, not_false_eq_true, Nat.reduceEqDiff, nc0, nc1, nc2, nc3, nc4, nc5, nc6, nc7, nc8, nc9, nc10, nc11, nc12, g0, g1, g2, g3, g4, callAt, callLow, CLk, told_ok, told_x0, told_x1, told_x2, told_x3, told_x4, c2]) (den_orF ?_ (by simp (disch := first | omega | assumption | (simp only [List.length_cons, List.length_nil, List.length_append, List.length_replicate, List.length_take, List.length_drop]; omega)) only [den, dens, deno, denc, deni, denS, denSs, fin_nx, fin_rt, Res.bind_ok, Res.bind_exc, truth, partD, getV, setV, setAll, storeT, wipeV, binD_add, binD_sub, binD_mul, binD_fdiv, binD_mod, cmp_lt, cmp_le, cmp_gt, cmp_ge, cmp_eqi, cmp_nei, cmp_eqb, cmp_neb, cmp_eqs, cmp_nes, cmp_is, cmp_isNot, isn_int, isn_non, isn_tup, isn_lst, isn_str, isTy, isFn, ix0, ix1, ix2, ix3, ix4, ix5, ixm1, blt_lenc, blt_lent, blt_lenl, blt_lens, blt_abs, blt_inti, blt_intb, blt_tupt, blt_tupl, blt_lstt, blt_lstl, blt_max, blt_min, slice_tup, slice_lst, List.length_cons, List.length_nil, Nat.reduceAdd, Nat.reduceLeDiff, ↓reduceIte, reduceCtorEq, Bool.false_eq_true, Bool.not_true, Bool.not_false, Bool.not_eq_true, decide_eq_true_eq, decide_not, Bool.not_eq_eq_eq_not, maxl_num, Int.reduceEq, Int.reduceLT, Int.reduceLE, Int.reduceNeg, Int.reduceToNat, decide_true, decide_false, Bool.true_and, Bool.false_and, Bool.and_true, Bool.and_false, Bool.not_true, Bool.not_false, not_true_eq_false, not_false_eq_true, Nat.reduceEqDiff, nc0, nc1, nc2, nc3, nc4, nc5, nc6, nc7, nc8, nc9, nc10, nc11, nc12, g0, g1, g2, g3, g4, callAt, callLow, CLk, told_ok, told_x0, told_x1, told_x2, told_x3, told_x4, slice_str, f3, i4])))) ?_
      · cases e with
        | true =>
          have n := f4.1 rfl
          have hn := c3 rfl
          exact den_andT (by simp (disch := first | omega | assumption | (simp only [List.length_cons, List.length_nil, List.length_append, List.length_replicate, List.length_take, List.length_drop]; omega)) only [den, dens, deno, denc, deni, denS, denSs, fin_nx, fin_rt, Res.bind_ok, Res.bind_exc, truth, partD, getV, setV, setAll, storeT, wipeV, binD_add, binD_sub, binD_mul, binD_fdiv, binD_mod, cmp_lt, cmp_le, cmp_gt, cmp_ge, cmp_eqi, cmp_nei, cmp_eqb, cmp_neb, cmp_eqs, cmp_nes, cmp_is, cmp_isNot, isn_int, isn_non, isn_tup, isn_lst, isn_str, isTy, isFn, ix0, ix1, ix2, ix3, ix4, ix5, ixm1, blt_lenc, blt_lent, blt_lenl, blt_lens, blt_abs, blt_inti, blt_intb, blt_tupt, blt_tupl, blt_lstt, blt_lstl, blt_max, blt_min, slice_tup, slice_lst, List.length_cons, List.length_nil, Nat.reduceAdd, Nat.reduceLeDiff, ↓reduceIte, reduceCtorEq, Bool.false_eq_true, Bool.not_true, Bool.not_false, Bool.not_eq_true, decide_eq_true_eq, decide_not, Bool.not_eq_eq_eq_not, maxl_num, Int.reduceEq, Int.reduceLT, Int.reduceLE, Int.reduceNeg, Int.reduceToNat, decide_true, decide_false, Bool.true_and, Bool.false_and, Bool.and_true, Bool.and_false, Bool.not_true, Bool.not_false, not_true_eq_false, not_false_eq_true, Nat.reduceEqDiff, nc0, nc1, nc2, nc3, nc4, nc5, nc6, nc7, nc8, nc9, nc10, nc11, nc12, g0, g1, g2, g3, g4, callAt, callLow, CLk, told_ok, told_x0, told_x1, told_x2, told_x3, told_x4, n]) (by simp (disch := first | omega | assumption | (simp only [List.length_cons, List.length_nil, List.length_append, List.length_replicate, List.length_take, List.length_drop]; omega)) only [den, dens, deno, denc, deni, denS, denSs, fin_nx, fin_rt, Res.bind_ok, Res.bind_exc, truth, partD, getV, setV, setAll, storeT, wipeV, binD_add, binD_sub, binD_mul, binD_fdiv, binD_mod, cmp_lt, cmp_le, cmp_gt, cmp_ge, cmp_eqi, cmp_nei, cmp_eqb, cmp_neb, cmp_eqs, cmp_nes, cmp_is, cmp_isNot, isn_int, isn_non, isn_tup, isn_lst, isn_str, isTy, isFn, ix0, ix1, ix2, ix3, ix4, ix5, ixm1, blt_lenc, blt_lent, blt_lenl, blt_lens, blt_abs, blt_inti, blt_intb, blt_tupt, blt_tupl, blt_lstt, blt_lstl, blt_max, blt_min, slice_tup, slice_lst, List.length_cons, List.length_nil, Nat.reduceAdd, Nat.reduceLeDiff, ↓reduceIte, reduceCtorEq, Bool.false_eq_true, Bool.not_true, Bool.not_false, Bool.not_eq_true, decide_eq_true_eq, decide_not, Bool.not_eq_eq_eq_not, maxl_num, Int.reduceEq, Int.reduceLT, Int.reduceLE, Int.reduceNeg, Int.reduceToNat, decide_true, decide_false, Bool.true_and, Bool.false_and, Bool.and_true, Bool.and_false, Bool.not_true, Bool.not_false, not_true_eq_false, not_false_eq_true, Nat.reduceEqDiff, nc0, nc1, nc2, nc3, nc4, nc5, nc6, nc7, nc8, nc9, nc10, nc11, nc12, g0, g1, g2, g3, g4, callAt, callLow, CLk, told_ok, told_x0, told_x1, told_x2, told_x3, told_x4, hn])
        | false =>
          have n := f4.2 rfl
          exact den_andF (by simp (disch := first | omega | assumption | (simp only [List.length_cons, List.length_nil, List.length_append, List.length_replicate, List.length_take, List.length_drop]; omega)) only [den, dens, deno, denc, deni, denS, denSs, fin_nx, fin_rt, Res.bind_ok, Res.bind_exc, truth, partD, getV, setV, setAll, storeT, wipeV, binD_add, binD_sub, binD_mul, binD_fdiv, binD_mod, cmp_lt, cmp_le, cmp_gt, cmp_ge, cmp_eqi, cmp_nei, cmp_eqb, cmp_neb, cmp_eqs, cmp_nes, cmp_is, cmp_isNot, isn_int, isn_non, isn_tup, isn_lst, isn_str, isTy, isFn, ix0, ix1, ix2, ix3, ix4, ix5, ixm1, blt_lenc, blt_lent, blt_lenl, blt_lens, blt_abs, blt_inti, blt_intb, blt_tupt, blt_tupl, blt_lstt, blt_lstl, blt_max, blt_min, slice_tup, slice_lst, List.length_cons, List.length_nil, Nat.reduceAdd, Nat.reduceLeDiff, ↓reduceIte, reduceCtorEq, Bool.false_eq_true, Bool.not_true, Bool.not_false, Bool.not_eq_true, decide_eq_true_eq, decide_not, Bool.not_eq_eq_eq_not, maxl_num, Int.reduceEq, Int.reduceLT, Int.reduceLE, Int.reduceNeg, Int.reduceToNat, decide_true, decide_false, Bool.true_and, Bool.false_and, Bool.and_true, Bool.and_false, Bool.not_true, Bool.not_false, not_true_eq_false, not_false_eq_true, Nat.reduceEqDiff, nc0, nc1, nc2, nc3, nc4, nc5, nc6, nc7, nc8, nc9, nc10, nc11, nc12, g0, g1, g2, g3, g4, callAt, callLow, CLk, told_ok, told_x0, told_x1, told_x2, told_x3, told_x4, n, decide_true])
      have dF : NumText.AllDigits F := fun c hc => all_dig a3 c (List.mem_append_left _ hc)
      have dH : NumText.AllDigits H := fun c hc => all_dig a3 c (List.mem_append_right _ hc)
      have iF : bltD .int [.str F] = .ok (.int (NumText.digitsVal F : Nat)) := int_text dF a1 (by omega)
      have vF := dv_lt F.length F rfl dF
      have vF2 : 10 ^ F.length ≤ 10 ^ 20 := Nat.pow_le_pow_right (by omega) (by omega)
      have vF3 : (10 : Nat) ^ 20 = 100000000000000000000 := rfl
      have vH := dv_lt H.length H rfl dH
      have vH2 : 10 ^ H.length ≤ 10 ^ 2 := Nat.pow_le_pow_right (by omega) (by omega)
      obtain ⟨p0, pr, ep⟩ : ∃ p0 pr, p = p0 :: pr := by
        rcases hF with z | z
        · exact absurd z a1
        · exact List.exists_cons_of_ne_nil z
      have ixp : idxD (.str p) (.int 0) = .ok (.str [p0]) := by rw [idx_str (by omega) (by rw [ep]; simp) (by omega), ep]; rfl
      have hp0 : p.head? = some p0 := by rw [ep]; rfl
      obtain ⟨W, hW⟩ : ∃ W : Int, ((NumText.digitsVal F : Nat) : Int) = W := ⟨_, rfl⟩
      obtain ⟨V, hV⟩ : ∃ V : Int, ((NumText.digitsVal H : Nat) : Int) = V := ⟨_, rfl⟩
      have W1 : 0 ≤ W ∧ W < 100000000000000000000 := by omega
      have V1 : 0 ≤ V ∧ V < 100 := by omega
      rw [hW] at iF
      have bb := b20
      have mW : binD .mul (.int W) (.int (1 - 2 * 1)) = .ok (.int (W * (1 - 2 * 1))) := binD_mulB ⟨by omega, by omega⟩ ⟨by omega, by omega⟩
      have mW2 : binD .mul (.int W) (.int (1 - 2 * 0)) = .ok (.int (W * (1 - 2 * 0))) := binD_mulB ⟨by omega, by omega⟩ ⟨by omega, by omega⟩
      have mV : binD .mul (.int V) (.int (1 - 2 * 1)) = .ok (.int (V * (1 - 2 * 1))) := binD_mulB ⟨by omega, by omega⟩ ⟨by omega, by omega⟩
      have mV2 : binD .mul (.int V) (.int (1 - 2 * 0)) = .ok (.int (V * (1 - 2 * 0))) := binD_mulB ⟨by omega, by omega⟩ ⟨by omega, by omega⟩
      have t1 : binD .mul (.int 2) (.int 1) = .ok (.int (2 * 1)) := rfl
      have t0 : binD .mul (.int 2) (.int 0) = .ok (.int (2 * 0)) := rfl
      rw [hW, hV]
      obtain ⟨pw, hpw⟩ : ∃ pw : Int, (if 0 ≤ fnd p 46 then fnd p 46 + 1 - p.length else 0) = pw := ⟨_, rfl⟩
      have pw1 : -1000 ≤ pw - 100 ∧ pw + 100 ≤ 1000 := by rw [← hpw]; split <;> omega
      rw [hpw]
      obtain ⟨dg, hdg, ddg⟩ : ∃ dg : Int, W * (if p.head? = some 45 then -1 else 1) = dg ∧ (p0 = 45 ∧ dg = W * (1 - 2 * 1) ∨ ¬p0 = 45 ∧ dg = W * (1 - 2 * 0)) := by
        refine ⟨_, rfl, ?_⟩
        rw [hp0]
        by_cases q : p0 = 45
        · rw [if_pos (by rw [q])]
          exact .inl ⟨q, by omega⟩
        · rw [if_neg (fun z => q (Option.some.inj z))]
          exact .inr ⟨q, by omega⟩
      rw [hdg]
      have dgb : -100000000000000000000 < dg ∧ dg < 100000000000000000000 := by rcases ddg with ⟨_, z⟩ | ⟨_, z⟩ <;> omega
      refine st_ (by simp (disch := first | omega | assumption | (simp only [List.length_cons, List.length_nil, List.length_append, List.length_replicate, List.length_take, List.length_drop]; omega)) only [den, dens, deno, denc, deni, denS, denSs, fin_nx, fin_rt, Res.bind_ok, Res.bind_exc, truth, partD, getV, setV, setAll, storeT, wipeV, binD_add, binD_sub, binD_mul, binD_fdiv, binD_mod, cmp_lt, cmp_le, cmp_gt, cmp_ge, cmp_eqi, cmp_nei, cmp_eqb, cmp_neb, cmp_eqs, cmp_nes, cmp_is, cmp_isNot, isn_int, isn_non, isn_tup, isn_lst, isn_str, isTy, isFn, ix0, ix1, ix2, ix3, ix4, ix5, ixm1, blt_lenc, blt_lent, blt_lenl, blt_lens, blt_abs, blt_inti, blt_intb, blt_tupt, blt_tupl, blt_lstt, blt_lstl, blt_max, blt_min, slice_tup, slice_lst, List.length_cons, List.length_nil, Nat.reduceAdd, Nat.reduceLeDiff, ↓reduceIte, reduceCtorEq, Bool.false_eq_true, Bool.not_true, Bool.not_false, Bool.not_eq_true, decide_eq_true_eq, decide_not, Bool.not_eq_eq_eq_not, maxl_num, Int.reduceEq, Int.reduceLT, Int.reduceLE, Int.reduceNeg, Int.reduceToNat, decide_true, decide_false, Bool.true_and, Bool.false_and, Bool.and_true, Bool.and_false, Bool.not_true, Bool.not_false, not_true_eq_false, not_false_eq_true, Nat.reduceEqDiff, nc0, nc1, nc2, nc3, nc4, nc5, nc6, nc7, nc8, nc9, nc10, nc11, nc12, g0, g1, g2, g3, g4, callAt, callLow, CLk, told_ok, told_x0, told_x1, told_x2, told_x3, told_x4] <;> rfl) (st_ (ρ' := [.pu (.str t), .pu (.str p), .pu (.str F), .pu (.str H), .pu (.int pw), .un, .un, .un]) ?_ (st_ (ρ' := [.pu (.str t), .pu (.str p), .pu (.str F), .pu (.str H), .pu (.int pw), .pu (.int dg), .un, .un]) ?_ ?_))
      · by_cases q : (0 : Int) ≤ fnd p 46
        · rw [if_pos q] at hpw
          rw [← hpw]
          exact oit_ (by simp (disch := first | omega | assumption | (simp only [List.length_cons, List.length_nil, List.length_append, List.length_replicate, List.length_take, List.length_drop]; omega)) only [den, dens, deno, denc, deni, denS, denSs, fin_nx, fin_rt, Res.bind_ok, Res.bind_exc, truth, partD, getV, setV, setAll, storeT, wipeV, binD_add, binD_sub, binD_mul, binD_fdiv, binD_mod, cmp_lt, cmp_le, cmp_gt, cmp_ge, cmp_eqi, cmp_nei, cmp_eqb, cmp_neb, cmp_eqs, cmp_nes, cmp_is, cmp_isNot, isn_int, isn_non, isn_tup, isn_lst, isn_str, isTy, isFn, ix0, ix1, ix2, ix3, ix4, ix5, ixm1, blt_lenc, blt_lent, blt_lenl, blt_lens, blt_abs, blt_inti, blt_intb, blt_tupt, blt_tupl, blt_lstt, blt_lstl, blt_max, blt_min, slice_tup, slice_lst, List.length_cons, List.length_nil, Nat.reduceAdd, Nat.reduceLeDiff, ↓reduceIte, reduceCtorEq, Bool.false_eq_true, Bool.not_true, Bool.not_false, Bool.not_eq_true, decide_eq_true_eq, decide_not, Bool.not_eq_eq_eq_not, maxl_num, Int.reduceEq, Int.reduceLT, Int.reduceLE, Int.reduceNeg, Int.reduceToNat, decide_true, decide_false, Bool.true_and, Bool.false_and, Bool.and_true, Bool.and_false, Bool.not_true, Bool.not_false, not_true_eq_false, not_false_eq_true, Nat.reduceEqDiff, nc0, nc1, nc2, nc3, nc4, nc5, nc6, nc7, nc8, nc9, nc10, nc11, nc12, g0, g1, g2, g3, g4, callAt, callLow, CLk, told_ok, told_x0, told_x1, told_x2, told_x3, told_x4, mf, d2, ge_iff_le, q]) (ot_ (by simp (disch := first | omega | assumption | (simp only [List.length_cons, List.length_nil, List.length_append, List.length_replicate, List.length_take, List.length_drop]; omega)) only [den, dens, deno, denc, deni, denS, denSs, fin_nx, fin_rt, Res.bind_ok, Res.bind_exc, truth, partD, getV, setV, setAll, storeT, wipeV, binD_add, binD_sub, binD_mul, binD_fdiv, binD_mod, cmp_lt, cmp_le, cmp_gt, cmp_ge, cmp_eqi, cmp_nei, cmp_eqb, cmp_neb, cmp_eqs, cmp_nes, cmp_is, cmp_isNot, isn_int, isn_non, isn_tup, isn_lst, isn_str, isTy, isFn, ix0, ix1, ix2, ix3, ix4, ix5, ixm1, blt_lenc, blt_lent, blt_lenl, blt_lens, blt_abs, blt_inti, blt_intb, blt_tupt, blt_tupl, blt_lstt, blt_lstl, blt_max, blt_min, slice_tup, slice_lst, List.length_cons, List.length_nil, Nat.reduceAdd, Nat.reduceLeDiff, ↓reduceIte, reduceCtorEq, Bool.false_eq_true, Bool.not_true, Bool.not_false, Bool.not_eq_true, decide_eq_true_eq, decide_not, Bool.not_eq_eq_eq_not, maxl_num, Int.reduceEq, Int.reduceLT, Int.reduceLE, Int.reduceNeg, Int.reduceToNat, decide_true, decide_false, Bool.true_and, Bool.false_and, Bool.and_true, Bool.and_false, Bool.not_true, Bool.not_false, not_true_eq_false, not_false_eq_true, Nat.reduceEqDiff, nc0, nc1, nc2, nc3, nc4, nc5, nc6, nc7, nc8, nc9, nc10, nc11, nc12, g0, g1, g2, g3, g4, callAt, callLow, CLk, told_ok, told_x0, told_x1, told_x2, told_x3, told_x4, mf, d2] <;> rfl) on_)
        · rw [if_neg q] at hpw
          rw [← hpw]
          exact oif_ (by simp (disch := first | omega | assumption | (simp only [List.length_cons, List.length_nil, List.length_append, List.length_replicate, List.length_take, List.length_drop]; omega)) only [den, dens, deno, denc, deni, denS, denSs, fin_nx, fin_rt, Res.bind_ok, Res.bind_exc, truth, partD, getV, setV, setAll, storeT, wipeV, binD_add, binD_sub, binD_mul, binD_fdiv, binD_mod, cmp_lt, cmp_le, cmp_gt, cmp_ge, cmp_eqi, cmp_nei, cmp_eqb, cmp_neb, cmp_eqs, cmp_nes, cmp_is, cmp_isNot, isn_int, isn_non, isn_tup, isn_lst, isn_str, isTy, isFn, ix0, ix1, ix2, ix3, ix4, ix5, ixm1, blt_lenc, blt_lent, blt_lenl, blt_lens, blt_abs, blt_inti, blt_intb, blt_tupt, blt_tupl, blt_lstt, blt_lstl, blt_max, blt_min, slice_tup, slice_lst, List.length_cons, List.length_nil, Nat.reduceAdd, Nat.reduceLeDiff, ↓reduceIte, reduceCtorEq, Bool.false_eq_true, Bool.not_true, Bool.not_false, Bool.not_eq_true, decide_eq_true_eq, decide_not, Bool.not_eq_eq_eq_not, maxl_num, Int.reduceEq, Int.reduceLT, Int.reduceLE, Int.reduceNeg, Int.reduceToNat, decide_true, decide_false, Bool.true_and, Bool.false_and, Bool.and_true, Bool.and_false, Bool.not_true, Bool.not_false, not_true_eq_false, not_false_eq_true, Nat.reduceEqDiff, nc0, nc1, nc2, nc3, nc4, nc5, nc6, nc7, nc8, nc9, nc10, nc11, nc12, g0, g1, g2, g3, g4, callAt, callLow, CLk, told_ok, told_x0, told_x1, told_x2, told_x3, told_x4, mf, d2, ge_iff_le, q]) on_
      · rcases ddg with ⟨q, z⟩ | ⟨q, z⟩
        · have q2 : ([p0] : List Nat) = [45] := by rw [q]
          rw [z]
          simp (disch := first | omega | assumption | (simp only [List.length_cons, List.length_nil, List.length_append, List.length_replicate, List.length_take, List.length_drop]; omega)) only [den, dens, deno, denc, deni, denS, denSs, fin_nx, fin_rt, Res.bind_ok, Res.bind_exc, truth, partD, getV, setV, setAll, storeT, wipeV, binD_add, binD_sub, binD_mul, binD_fdiv, binD_mod, cmp_lt, cmp_le, cmp_gt, cmp_ge, cmp_eqi, cmp_nei, cmp_eqb, cmp_neb, cmp_eqs, cmp_nes, cmp_is, cmp_isNot, isn_int, isn_non, isn_tup, isn_lst, isn_str, isTy, isFn, ix0, ix1, ix2, ix3, ix4, ix5, ixm1, blt_lenc, blt_lent, blt_lenl, blt_lens, blt_abs, blt_inti, blt_intb, blt_tupt, blt_tupl, blt_lstt, blt_lstl, blt_max, blt_min, slice_tup, slice_lst, List.length_cons, List.length_nil, Nat.reduceAdd, Nat.reduceLeDiff, ↓reduceIte, reduceCtorEq, Bool.false_eq_true, Bool.not_true, Bool.not_false, Bool.not_eq_true, decide_eq_true_eq, decide_not, Bool.not_eq_eq_eq_not, maxl_num, Int.reduceEq, Int.reduceLT, Int.reduceLE, Int.reduceNeg, Int.reduceToNat, decide_true, decide_false, Bool.true_and, Bool.false_and, Bool.and_true, Bool.and_false, Bool.not_true, Bool.not_false, not_true_eq_false, not_false_eq_true, Nat.reduceEqDiff, nc0, nc1, nc2, nc3, nc4, nc5, nc6, nc7, nc8, nc9, nc10, nc11, nc12, g0, g1, g2, g3, g4, callAt, callLow, CLk, told_ok, told_x0, told_x1, told_x2, told_x3, told_x4, ixp, q2, iF, t1, mW] <;> rfl
        · have q2 : ¬([p0] : List Nat) = [45] := fun w => q (List.cons.inj w).1
          rw [z]
          simp (disch := first | omega | assumption | (simp only [List.length_cons, List.length_nil, List.length_append, List.length_replicate, List.length_take, List.length_drop]; omega)) only [den, dens, deno, denc, deni, denS, denSs, fin_nx, fin_rt, Res.bind_ok, Res.bind_exc, truth, partD, getV, setV, setAll, storeT, wipeV, binD_add, binD_sub, binD_mul, binD_fdiv, binD_mod, cmp_lt, cmp_le, cmp_gt, cmp_ge, cmp_eqi, cmp_nei, cmp_eqb, cmp_neb, cmp_eqs, cmp_nes, cmp_is, cmp_isNot, isn_int, isn_non, isn_tup, isn_lst, isn_str, isTy, isFn, ix0, ix1, ix2, ix3, ix4, ix5, ixm1, blt_lenc, blt_lent, blt_lenl, blt_lens, blt_abs, blt_inti, blt_intb, blt_tupt, blt_tupl, blt_lstt, blt_lstl, blt_max, blt_min, slice_tup, slice_lst, List.length_cons, List.length_nil, Nat.reduceAdd, Nat.reduceLeDiff, ↓reduceIte, reduceCtorEq, Bool.false_eq_true, Bool.not_true, Bool.not_false, Bool.not_eq_true, decide_eq_true_eq, decide_not, Bool.not_eq_eq_eq_not, maxl_num, Int.reduceEq, Int.reduceLT, Int.reduceLE, Int.reduceNeg, Int.reduceToNat, decide_true, decide_false, Bool.true_and, Bool.false_and, Bool.and_true, Bool.and_false, Bool.not_true, Bool.not_false, not_true_eq_false, not_false_eq_true, Nat.reduceEqDiff, nc0, nc1, nc2, nc3, nc4, nc5, nc6, nc7, nc8, nc9, nc10, nc11, nc12, g0, g1, g2, g3, g4, callAt, callLow, CLk, told_ok, told_x0, told_x1, told_x2, told_x3, told_x4, ixp, q2, iF, t0, mW2] <;> rfl
      · cases e with
        | false =>
          have n := f4.2 rfl
          rw [if_neg (by decide), Int.add_zero]
          exact st_ (oif_ (by simp (disch := first | omega | assumption | (simp only [List.length_cons, List.length_nil, List.length_append, List.length_replicate, List.length_take, List.length_drop]; omega)) only [den, dens, deno, denc, deni, denS, denSs, fin_nx, fin_rt, Res.bind_ok, Res.bind_exc, truth, partD, getV, setV, setAll, storeT, wipeV, binD_add, binD_sub, binD_mul, binD_fdiv, binD_mod, cmp_lt, cmp_le, cmp_gt, cmp_ge, cmp_eqi, cmp_nei, cmp_eqb, cmp_neb, cmp_eqs, cmp_nes, cmp_is, cmp_isNot, isn_int, isn_non, isn_tup, isn_lst, isn_str, isTy, isFn, ix0, ix1, ix2, ix3, ix4, ix5, ixm1, blt_lenc, blt_lent, blt_lenl, blt_lens, blt_abs, blt_inti, blt_intb, blt_tupt, blt_tupl, blt_lstt, blt_lstl, blt_max, blt_min, slice_tup, slice_lst, List.length_cons, List.length_nil, Nat.reduceAdd, Nat.reduceLeDiff, ↓reduceIte, reduceCtorEq, Bool.false_eq_true, Bool.not_true, Bool.not_false, Bool.not_eq_true, decide_eq_true_eq, decide_not, Bool.not_eq_eq_eq_not, maxl_num, Int.reduceEq, Int.reduceLT, Int.reduceLE, Int.reduceNeg, Int.reduceToNat, decide_true, decide_false, Bool.true_and, Bool.false_and, Bool.and_true, Bool.and_false, Bool.not_true, Bool.not_false, not_true_eq_false, not_false_eq_true, Nat.reduceEqDiff, nc0, nc1, nc2, nc3, nc4, nc5, nc6, nc7, nc8, nc9, nc10, nc11, nc12, g0, g1, g2, g3, g4, callAt, callLow, CLk, told_ok, told_x0, told_x1, told_x2, told_x3, told_x4, n, decide_true]) on_) (fin dg pw dgb (by omega))
        | true =>
          have n := f4.1 rfl
          have hn := c3 rfl
          rw [if_pos rfl]
          have iH : bltD .int [.str H] = .ok (.int V) := by rw [int_text dH hn (by omega), hV]
          obtain ⟨h0, hr, eh⟩ : ∃ h0 hr, h = h0 :: hr := by
            rcases hH with z | z
            · exact absurd z hn
            · exact List.exists_cons_of_ne_nil z
          have tt : t = p ++ 101 :: h0 :: hr := by
            rcases he with ⟨_, z⟩ | ⟨z, _⟩
            · rw [z, eh]
            · cases z
          have ixt : idxD (.str t) (.int ((p.length : Int) + 1)) = .ok (.str [h0]) := by
            rw [idx_str (by omega) (by rw [tt]; simp; omega) (by omega), show ((p.length : Int) + 1).toNat = p.length + 1 by omega, tt]
            simp
          have hh0 : h.head? = some h0 := by rw [eh]; rfl
          obtain ⟨x, hx, dx⟩ : ∃ x : Int, V * (if h.head? = some 45 then -1 else 1) = x ∧ (h0 = 45 ∧ x = V * (1 - 2 * 1) ∨ ¬h0 = 45 ∧ x = V * (1 - 2 * 0)) := by
            refine ⟨_, rfl, ?_⟩
            rw [hh0]
            by_cases q : h0 = 45
            · rw [if_pos (by rw [q])]
              exact .inl ⟨q, by omega⟩
            · rw [if_neg (fun z => q (Option.some.inj z))]
              exact .inr ⟨q, by omega⟩
          rw [hx]
          refine st_ (ρ' := [.pu (.str t), .pu (.str p), .pu (.str F), .pu (.str H), .pu (.int (pw + x)), .pu (.int dg), .un, .un]) (oit_ (by simp (disch := first | omega | assumption | (simp only [List.length_cons, List.length_nil, List.length_append, List.length_replicate, List.length_take, List.length_drop]; omega)) only [den, dens, deno, denc, deni, denS, denSs, fin_nx, fin_rt, Res.bind_ok, Res.bind_exc, truth, partD, getV, setV, setAll, storeT, wipeV, binD_add, binD_sub, binD_mul, binD_fdiv, binD_mod, cmp_lt, cmp_le, cmp_gt, cmp_ge, cmp_eqi, cmp_nei, cmp_eqb, cmp_neb, cmp_eqs, cmp_nes, cmp_is, cmp_isNot, isn_int, isn_non, isn_tup, isn_lst, isn_str, isTy, isFn, ix0, ix1, ix2, ix3, ix4, ix5, ixm1, blt_lenc, blt_lent, blt_lenl, blt_lens, blt_abs, blt_inti, blt_intb, blt_tupt, blt_tupl, blt_lstt, blt_lstl, blt_max, blt_min, slice_tup, slice_lst, List.length_cons, List.length_nil, Nat.reduceAdd, Nat.reduceLeDiff, ↓reduceIte, reduceCtorEq, Bool.false_eq_true, Bool.not_true, Bool.not_false, Bool.not_eq_true, decide_eq_true_eq, decide_not, Bool.not_eq_eq_eq_not, maxl_num, Int.reduceEq, Int.reduceLT, Int.reduceLE, Int.reduceNeg, Int.reduceToNat, decide_true, decide_false, Bool.true_and, Bool.false_and, Bool.and_true, Bool.and_false, Bool.not_true, Bool.not_false, not_true_eq_false, not_false_eq_true, Nat.reduceEqDiff, nc0, nc1, nc2, nc3, nc4, nc5, nc6, nc7, nc8, nc9, nc10, nc11, nc12, g0, g1, g2, g3, g4, callAt, callLow, CLk, told_ok, told_x0, told_x1, told_x2, told_x3, told_x4, n]) (ot_ ?_ on_)) (fin dg (pw + x) dgb (by rcases dx with ⟨_, z⟩ | ⟨_, z⟩ <;> omega))
          rcases dx with ⟨q, z⟩ | ⟨q, z⟩
          · have q2 : ([h0] : List Nat) = [45] := by rw [q]
            rw [z]
            simp (disch := first | omega | assumption | (simp only [List.length_cons, List.length_nil, List.length_append, List.length_replicate, List.length_take, List.length_drop]; omega)) only [den, dens, deno, denc, deni, denS, denSs, fin_nx, fin_rt, Res.bind_ok, Res.bind_exc, truth, partD, getV, setV, setAll, storeT, wipeV, binD_add, binD_sub, binD_mul, binD_fdiv, binD_mod, cmp_lt, cmp_le, cmp_gt, cmp_ge, cmp_eqi, cmp_nei, cmp_eqb, cmp_neb, cmp_eqs, cmp_nes, cmp_is, cmp_isNot, isn_int, isn_non, isn_tup, isn_lst, isn_str, isTy, isFn, ix0, ix1, ix2, ix3, ix4, ix5, ixm1, blt_lenc, blt_lent, blt_lenl, blt_lens, blt_abs, blt_inti, blt_intb, blt_tupt, blt_tupl, blt_lstt, blt_lstl, blt_max, blt_min, slice_tup, slice_lst, List.length_cons, List.length_nil, Nat.reduceAdd, Nat.reduceLeDiff, ↓reduceIte, reduceCtorEq, Bool.false_eq_true, Bool.not_true, Bool.not_false, Bool.not_eq_true, decide_eq_true_eq, decide_not, Bool.not_eq_eq_eq_not, maxl_num, Int.reduceEq, Int.reduceLT, Int.reduceLE, Int.reduceNeg, Int.reduceToNat, decide_true, decide_false, Bool.true_and, Bool.false_and, Bool.and_true, Bool.and_false, Bool.not_true, Bool.not_false, not_true_eq_false, not_false_eq_true, Nat.reduceEqDiff, nc0, nc1, nc2, nc3, nc4, nc5, nc6, nc7, nc8, nc9, nc10, nc11, nc12, g0, g1, g2, g3, g4, callAt, callLow, CLk, told_ok, told_x0, told_x1, told_x2, told_x3, told_x4, ixt, q2, iH, t1, mV] <;> rfl
          · have q2 : ¬([h0] : List Nat) = [45] := fun w => q (List.cons.inj w).1
            rw [z]
            simp (disch := first | omega | assumption | (simp only [List.length_cons, List.length_nil, List.length_append, List.length_replicate, List.length_take, List.length_drop]; omega)) only [den, dens, deno, denc, deni, denS, denSs, fin_nx, fin_rt, Res.bind_ok, Res.bind_exc, truth, partD, getV, setV, setAll, storeT, wipeV, binD_add, binD_sub, binD_mul, binD_fdiv, binD_mod, cmp_lt, cmp_le, cmp_gt, cmp_ge, cmp_eqi, cmp_nei, cmp_eqb, cmp_neb, cmp_eqs, cmp_nes, cmp_is, cmp_isNot, isn_int, isn_non, isn_tup, isn_lst, isn_str, isTy, isFn, ix0, ix1, ix2, ix3, ix4, ix5, ixm1, blt_lenc, blt_lent, blt_lenl, blt_lens, blt_abs, blt_inti, blt_intb, blt_tupt, blt_tupl, blt_lstt, blt_lstl, blt_max, blt_min, slice_tup, slice_lst, List.length_cons, List.length_nil, Nat.reduceAdd, Nat.reduceLeDiff, ↓reduceIte, reduceCtorEq, Bool.false_eq_true, Bool.not_true, Bool.not_false, Bool.not_eq_true, decide_eq_true_eq, decide_not, Bool.not_eq_eq_eq_not, maxl_num, Int.reduceEq, Int.reduceLT, Int.reduceLE, Int.reduceNeg, Int.reduceToNat, decide_true, decide_false, Bool.true_and, Bool.false_and, Bool.and_true, Bool.and_false, Bool.not_true, Bool.not_false, not_true_eq_false, not_false_eq_true, Nat.reduceEqDiff, nc0, nc1, nc2, nc3, nc4, nc5, nc6, nc7, nc8, nc9, nc10, nc11, nc12, g0, g1, g2, g3, g4, callAt, callLow, CLk, told_ok, told_x0, told_x1, told_x2, told_x3, told_x4, ixt, q2, iH, t0, mV2] <;> rfl
/-! the signs of a whole number -/
theorem digit_char : ∀ n : Nat, n < 10 → (Nat.digitChar n).toNat = n + 48 := by decide
theorem numS_nat (n : Nat) : numS (n : Int) = (Nat.toDigits 10 n).map fun c => c.toNat := by
  show (Str.ofString (Nat.repr n)).cps.toList = _
  rw [signs_ofString]
  unfold Nat.repr
  simp
theorem toDigits_ok : ∀ (m n : Nat), n ≤ m → NumText.AllDigits ((Nat.toDigits 10 n).map fun c => c.toNat) ∧ NumText.digitsVal ((Nat.toDigits 10 n).map fun c => c.toNat) = n
  | m, n, h => by
    by_cases c : n < 10
    · rw [Nat.toDigits_of_lt_base c, List.map_singleton, digit_char n c]
      refine ⟨fun d hd => by simp at hd; omega, ?_⟩
      show 0 * 10 + (n + 48 - 48) = n
      omega
    · match m, h with
      | 0, h => omega
      | m + 1, h =>
        obtain ⟨a, b⟩ := toDigits_ok m (n / 10) (by omega)
        rw [Nat.toDigits_eq_if (by omega), if_neg c, List.map_append, List.map_singleton, digit_char _ (Nat.mod_lt _ (by omega))]
        refine ⟨allD_app a fun d hd => by simp at hd; omega, ?_⟩
        rw [NumText.digitsVal_snoc, b]
        omega
theorem figS_dig {a : Int} : NumText.AllDigits (figS a) ∧ (NumText.digitsVal (figS a) : Int) = absI a := by
  have e : (if a < 0 then -a else a) = ((if a < 0 then -a else a).toNat : Int) := by split <;> omega
  unfold figS
  rw [e, numS_nat]
  obtain ⟨h1, h2⟩ := toDigits_ok _ _ (Nat.le_refl (if a < 0 then -a else a).toNat)
  refine ⟨h1, ?_⟩
  rw [h2, ← e]
  rfl
theorem dv_app (a : List Nat) : ∀ b : List Nat, NumText.digitsVal (a ++ b) = NumText.digitsVal a * 10 ^ b.length + NumText.digitsVal b := by
  intro b
  induction h : b.length generalizing b with
  | zero =>
    obtain rfl := List.length_eq_zero_iff.mp h
    rw [List.append_nil, Nat.pow_zero, Nat.mul_one]
    rfl
  | succ n ih =>
    rcases List.eq_nil_or_concat b with rfl | ⟨w, c, rfl⟩
    · cases h
    · rw [List.concat_eq_append] at *
      have hw : w.length = n := by simp at h; exact h
      rw [← List.append_assoc, NumText.digitsVal_snoc, NumText.digitsVal_snoc, ih w hw, Nat.pow_succ, Nat.add_mul, Nat.mul_assoc]
      omega
theorem dv_zeros : ∀ k : Nat, NumText.digitsVal (List.replicate k 48) = 0
  | 0 => rfl
  | k + 1 => by
    rw [List.replicate_succ', NumText.digitsVal_snoc, dv_zeros k]
theorem zeros_dig (k : Nat) : NumText.AllDigits (List.replicate k 48) := fun c hc => by
  have := List.eq_of_mem_replicate hc
  omega
/-- a number that is tidy, as it is told -/
theorem tidy_self {a b : Int} (h : a % 10 ≠ 0) (k : Nat) (hb : -BIG < a * T k ∧ a * T k < BIG) : tidyV (a * T k) (b - k) = (a, b) := by
  have ha : a ≠ 0 := by omega
  have tk := T_pos k
  have hz : a * T k ≠ 0 := Int.mul_ne_zero ha (by omega)
  have key : ∀ (k n : Nat) (b W : Int), W = a * T k → W.natAbs ≤ n → stripN n W (b - k) = (a, b) := by
    intro k
    induction k with
    | zero =>
      intro n b W e hn
      have e : W = a := by rw [e]; show a * 1 = a; omega
      subst e
      cases n with
      | zero => omega
      | succ n =>
        unfold stripN
        rw [if_neg h]
        congr 1
        omega
    | succ k ih =>
      intro n b W e hn
      have e : W = 10 * (a * T k) := by
        rw [e, show ((k + 1 : Nat) : Int) = (k : Int) + 1 by omega, T_succ (by omega)]
        grind
      have hne : a * T k ≠ 0 := Int.mul_ne_zero ha (by have := T_pos k; omega)
      cases n with
      | zero => omega
      | succ n =>
        unfold stripN
        rw [if_pos (by omega), show b - ((k + 1 : Nat) : Int) + 1 = b - k by omega]
        exact ih n b (W / 10) (by omega) (by omega)
  unfold tidyV strip
  rw [if_neg hz]
  exact key k _ b _ rfl (Nat.le_refl _)

/-! both readings, in plain Lean -/
open PySem.NumText
def sgT (n : Bool) : List Nat := if n = true then [45] else []
def sgV (n : Bool) (v : Nat) : Int := if n = true then -(v : Int) else v
theorem wholeV_sg {n : Bool} {X : List Nat} {most : Nat} (hX : AllDigits X) (h1 : 1 ≤ X.length) (h2 : X.length ≤ most) : wholeV (sgT n ++ X) most = some (sgV n (digitsVal X)) := by
  unfold wholeV
  cases n with
  | true =>
    have e : (sgT true ++ X).head? = some 45 := rfl
    have d : (sgT true ++ X).drop 1 = X := rfl
    rw [if_pos e, d, if_pos ⟨⟨h1, h2⟩, dig_all hX⟩]
    rfl
  | false =>
    rw [show sgT false ++ X = X from rfl, if_neg, if_pos ⟨⟨h1, h2⟩, dig_all hX⟩]
    · rfl
    intro z
    cases X with
    | nil => cases z
    | cons c r =>
      cases z
      have := hX 45 List.mem_cons_self
      omega
def fromV (p : List Nat) : Option (Int × Int) :=
  if 46 ∈ p then (if (p.dropWhile fun c => !decide (c = 46)).drop 1 = [] then none else (wholeV ((p.takeWhile fun c => !decide (c = 46)) ++ (p.dropWhile fun c => !decide (c = 46)).drop 1) 20).map fun w => tidyV w (-((((p.dropWhile fun c => !decide (c = 46)).drop 1).length : Nat) : Int)))
  else (wholeV p 20).map fun w => tidyV w 0
theorem tw_at {a b : List Nat} {c : Nat} (h : c ∉ a) : ((a ++ c :: b).takeWhile fun x => !decide (x = c)) = a ∧ ((a ++ c :: b).dropWhile fun x => !decide (x = c)) = c :: b := by
  induction a with
  | nil => simp
  | cons x a ih =>
    have hx : x ≠ c := fun z => h (by rw [z]; exact List.mem_cons_self)
    have ih := ih fun z => h (List.mem_cons_of_mem _ z)
    simp only [List.cons_append, List.takeWhile_cons, List.dropWhile_cons, decide_eq_false hx, Bool.not_false, ↓reduceIte, ih.1, ih.2, and_self]
theorem fromV_at {a b : List Nat} (h : 46 ∉ a) : fromV (a ++ 46 :: b) = if b = [] then none else (wholeV (a ++ b) 20).map fun w => tidyV w (-(b.length : Int)) := by
  unfold fromV
  rw [if_pos (by simp), (tw_at h).1, (tw_at h).2]
  rfl
theorem fromV_no {p : List Nat} (h : 46 ∉ p) : fromV p = (wholeV p 20).map fun w => tidyV w 0 := if_neg h
theorem fromW {k : Nat} (hk : 2 ≤ k) {p : List Nat} (hl : p.length ≤ 500) : C k 8 [.str p] = optP (fromV p) := by
  by_cases h : 46 ∈ p
  · obtain ⟨a, b, rfl, n⟩ := split_at h
    rw [fromP_at hk n hl, fromV_at n]
    split <;> rfl
  · rw [fromP_no hk h hl, fromV_no h]
theorem fromV_bd {p : List Nat} (hl : p.length ≤ 500) : ∀ f, fromV p = some f → -100000000000000000000 < f.1 ∧ f.1 < 100000000000000000000 ∧ -1500 < f.2 ∧ f.2 < 2000 := by
  intro f hf
  by_cases h : 46 ∈ p
  · obtain ⟨a, b, rfl, n⟩ := split_at h
    rw [fromV_at n] at hf
    split at hf
    · cases hf
    · cases hw : wholeV (a ++ b) 20 with
      | none => rw [hw] at hf; cases hf
      | some w =>
        rw [hw] at hf
        cases hf
        simp only [List.length_append, List.length_cons] at hl
        exact tidyV_bd (wholeV_bd (by omega) hw) (by omega)
  · rw [fromV_no h] at hf
    cases hw : wholeV p 20 with
    | none => rw [hw] at hf; cases hf
    | some w =>
      rw [hw] at hf
      cases hf
      exact tidyV_bd (wholeV_bd (by omega) hw) (by omega)
/-- a text with figures and a point is read alike -/
structure FP (P : List Nat) (w q : Int) : Prop where
  fv : fromV P = some (tidyV w q)
  f1 : (P.erase 45).erase 46 ≠ []
  f2 : ((P.erase 45).erase 46).length ≤ 20
  f3 : AllDigits ((P.erase 45).erase 46)
  f4 : ¬0 < fnd P 45
  f5 : ((digitsVal ((P.erase 45).erase 46) : Nat) : Int) * (if P.head? = some 45 then -1 else 1) = w
  f6 : (if 0 ≤ fnd P 46 then fnd P 46 + 1 - P.length else 0) = q
  f7 : 101 ∉ P
  fl : P.length ≤ 30
  fc : ∀ c ∈ P, c < 1000
theorem sg_erase (n : Bool) {X : List Nat} (h : 45 ∉ X) : (sgT n ++ X).erase 45 = X := by
  unfold sgT
  cases n with
  | true => exact List.erase_cons_head ..
  | false => exact List.erase_of_not_mem h
theorem sg_fnd (n : Bool) {X : List Nat} (h : 45 ∉ X) : ¬0 < fnd (sgT n ++ X) 45 := by
  unfold sgT
  cases n with
  | true =>
    have := fnd_at (a := []) (b := X) (c := 45) List.not_mem_nil
    rw [if_pos rfl]
    show ¬0 < fnd ([] ++ 45 :: X) 45
    rw [this]
    simp
  | false =>
    rw [if_neg (by decide), List.nil_append, fnd_no h]
    omega
theorem sg_head (n : Bool) {X : List Nat} (h : 45 ∉ X) (v : Nat) : (v : Int) * (if (sgT n ++ X).head? = some 45 then -1 else 1) = sgV n v := by
  cases n with
  | true =>
    have e : (sgT true ++ X).head? = some 45 := rfl
    rw [if_pos e]
    show (v : Int) * -1 = -(v : Int)
    omega
  | false =>
    rw [show sgT false ++ X = X from rfl, if_neg]
    · show (v : Int) * 1 = v
      omega
    · intro z
      cases X with
      | nil => cases z
      | cons c r => cases z; exact h List.mem_cons_self
theorem sg_len (n : Bool) : (sgT n).length ≤ 1 := by cases n <;> decide
theorem sg_lt (n : Bool) : ∀ c ∈ sgT n, c < 1000 := by cases n <;> decide
theorem dig_lt {l : List Nat} (h : AllDigits l) : ∀ c ∈ l, c < 1000 := fun c hc => by have := h c hc; omega
theorem sg_no (n : Bool) {X : List Nat} {c : Nat} (hc : c ≠ 45) (h : c ∉ X) : c ∉ sgT n ++ X := by
  unfold sgT
  cases n with
  | true => simp [hc, h]
  | false => simpa using h
theorem fp_no (n : Bool) {X : List Nat} (hX : AllDigits X) (h1 : 1 ≤ X.length) (h2 : X.length ≤ 20) : FP (sgT n ++ X) (sgV n (digitsVal X)) 0 := by
  have n45 := dig_not hX (c := 45) (by omega)
  have n46 := dig_not hX (c := 46) (by omega)
  have n101 := dig_not hX (c := 101) (by omega)
  have e : ((sgT n ++ X).erase 45).erase 46 = X := by rw [sg_erase n n45, List.erase_of_not_mem n46]
  have m46 := sg_no n (c := 46) (by omega) n46
  refine ⟨?_, ?_, ?_, ?_, sg_fnd n n45, ?_, ?_, sg_no n (by omega) n101, by rw [List.length_append]; have := sg_len n; omega, fun c hc => (List.mem_append.mp hc).elim (sg_lt n c) (dig_lt hX c)⟩
  · rw [fromV_no m46, wholeV_sg hX h1 h2]
    rfl
  · rw [e]
    intro z
    rw [z] at h1
    simp at h1
  · rw [e]; exact h2
  · rw [e]; exact hX
  · rw [e]; exact sg_head n n45 _
  · rw [fnd_no m46]
    rfl
theorem fp_at (n : Bool) {X B : List Nat} (hX : AllDigits X) (hB : AllDigits B) (h1 : 1 ≤ X.length) (hb : 1 ≤ B.length) (h2 : X.length + B.length ≤ 20) : FP (sgT n ++ (X ++ 46 :: B)) (sgV n (digitsVal (X ++ B))) (-(B.length : Int)) := by
  have n45 := dig_not hX (c := 45) (by omega)
  have n46 := dig_not hX (c := 46) (by omega)
  have n101 := dig_not hX (c := 101) (by omega)
  have k45 := dig_not hB (c := 45) (by omega)
  have k46 := dig_not hB (c := 46) (by omega)
  have k101 := dig_not hB (c := 101) (by omega)
  have m45 : 45 ∉ X ++ 46 :: B := by simp [n45, k45]
  have m101 : 101 ∉ X ++ 46 :: B := by simp [n101, k101]
  have e : ((sgT n ++ (X ++ 46 :: B)).erase 45).erase 46 = X ++ B := by rw [sg_erase n m45, erase_at n46]
  have as : sgT n ++ (X ++ 46 :: B) = (sgT n ++ X) ++ 46 :: B := by rw [List.append_assoc]
  have m46 := sg_no n (c := 46) (by omega) n46
  have hXB := allD_app hX hB
  refine ⟨?_, ?_, ?_, ?_, sg_fnd n m45, ?_, ?_, sg_no n (by omega) m101, by rw [List.length_append, List.length_append, List.length_cons]; have := sg_len n; omega, fun c hc => ?_⟩
  · rw [as, fromV_at m46, if_neg (fun z => by rw [z] at hb; simp at hb), List.append_assoc, wholeV_sg hXB (by simp; omega) (by simp; omega)]
    rfl
  · rw [e]
    intro z
    rw [List.append_eq_nil_iff] at z
    rw [z.1] at h1
    simp at h1
  · rw [e, List.length_append]; exact h2
  · rw [e]; exact hXB
  · rw [e]; exact sg_head n m45 _
  · rw [as, fnd_at m46, if_pos (by omega)]
    simp
    omega
  · rcases List.mem_append.mp hc with z | z
    · exact sg_lt n c z
    · rcases List.mem_append.mp z with z | z
      · exact dig_lt hX c z
      · rcases List.mem_cons.mp z with z | z
        · omega
        · exact dig_lt hB c z
open PySem.NumText
/-- a slice from behind -/
theorem cut_takeN {α : Type} (l : List α) {p : Int} (h : p < 0) : cutD l none (some p) = l.take (p + l.length).toNat := by
  unfold cutD cutIx
  simp only [if_pos h]
  rw [List.drop_zero, Nat.sub_zero]
theorem cut_dropN {α : Type} (l : List α) {p : Int} (h : p < 0) : cutD l (some p) none = l.drop (p + l.length).toNat := by
  unfold cutD cutIx
  simp only [if_pos h]
  rw [List.take_of_length_le (by rw [List.length_drop]; omega)]
theorem numS_sg (z : Int) : numS z = sgT (decide (z < 0)) ++ figS z := by
  cases z with
  | ofNat n =>
    have h : ¬((Int.ofNat n) < 0) := by simp
    unfold figS
    rw [if_neg h, decide_eq_false h]
    rfl
  | negSucc n =>
    have h : (Int.negSucc n) < 0 := Int.negSucc_lt_zero n
    unfold figS
    rw [if_pos h, decide_eq_true h]
    have e : -(Int.negSucc n) = ((n + 1 : Nat) : Int) := rfl
    rw [e]
    show (Str.ofString (toString (Int.negSucc n))).cps.toList = [45] ++ (Str.ofString (toString ((n + 1 : Nat) : Int))).cps.toList
    rw [signs_ofString, signs_ofString]
    have e1 : toString (Int.negSucc n) = "-" ++ toString (n + 1) := rfl
    have e2 : toString ((n + 1 : Nat) : Int) = toString (n + 1) := rfl
    rw [e1, e2, String.toList_append, List.map_append]
    rfl
/-- an exponent's text -/
structure FE (h : List Nat) (v : Int) : Prop where
  wv : wholeV h 2 = some v
  f1 : h.erase 45 ≠ []
  f2 : (h.erase 45).length ≤ 2
  f3 : AllDigits (h.erase 45)
  f4 : 45 ∉ h.drop 1
  f5 : ((digitsVal (h.erase 45) : Nat) : Int) * (if h.head? = some 45 then -1 else 1) = v
  fl : h.length ≤ 30
  fc : ∀ c ∈ h, c < 1000
theorem fe_sg (n : Bool) {Y : List Nat} (hY : AllDigits Y) (h1 : 1 ≤ Y.length) (h2 : Y.length ≤ 2) : FE (sgT n ++ Y) (sgV n (digitsVal Y)) := by
  have n45 := dig_not hY (c := 45) (by omega)
  have e := sg_erase n n45
  refine ⟨wholeV_sg hY h1 h2, ?_, by rw [e]; exact h2, by rw [e]; exact hY, ?_, by rw [e]; exact sg_head n n45 _, by rw [List.length_append]; have := sg_len n; omega, fun c hc => (List.mem_append.mp hc).elim (sg_lt n c) (dig_lt hY c)⟩
  · rw [e]
    intro z
    rw [z] at h1
    simp at h1
  · cases n with
    | true => exact n45
    | false => exact fun z => n45 (List.mem_of_mem_drop z)
def readV (t p h : List Nat) (e : Bool) : Option (Int × Int) := if e = true then filt t ((fromV p).bind fun f => (wholeV h 2).map fun v => (f.1, f.2 + v)) else filt t (fromV p)
theorem filt_self {a b : Int} (h : Numb a b) : filt (textT a b) (some (a, b)) = some (a, b) := if_pos ⟨h, rfl⟩
theorem due_no {t : List Nat} {w q : Int} (f : FP t w q) : dueV t t [] false = filt t (some (tidyV w q)) := by
  unfold dueV
  dsimp only
  have hH : ([] : List Nat).erase 45 = [] := rfl
  rw [hH, List.append_nil]
  rw [if_neg, if_neg, f.f5, f.f6, if_neg (by decide), Int.add_zero]
  · rintro (z | z | z | z)
    · exact f.f4 z
    · simp at z
    · exact absurd z.1 (by decide)
    · simp at z
  · rintro (z | z | z)
    · exact f.f1 z
    · have := f.f2; omega
    · rw [dig_all f.f3] at z; cases z
theorem due_e {t p h : List Nat} {w q v : Int} (f : FP p w q) (g : FE h v) : dueV t p h true = filt t (some (tidyV w (q + v))) := by
  unfold dueV
  dsimp only
  rw [if_neg, if_neg, f.f5, f.f6, if_pos rfl, g.f5]
  · rintro (z | z | z | z)
    · exact f.f4 z
    · have := g.f2; omega
    · exact g.f1 z.2
    · exact g.f4 z
  · rintro (z | z | z)
    · exact f.f1 z
    · have := f.f2; omega
    · rw [dig_all (allD_app f.f3 g.f3)] at z; cases z
/-- how a number's text is made -/
theorem shape {a b : Int} (hn : Numb a b) : (∃ w q, FP (textT a b) w q ∧ tidyV w q = (a, b)) ∨ (∃ P w q h v, textT a b = P ++ 101 :: h ∧ FP P w q ∧ FE h v ∧ tidyV w q = (a, q) ∧ tidyV w (q + v) = (a, b) ∧ q + v = b) := by
  have sm : -100000000 < a ∧ a < 100000000 := by
    rcases hn with ⟨h, _⟩ | h <;> omega
  have hB := big64
  obtain ⟨d1, d2⟩ := figS_dig (a := a)
  have l := figS_len (a := a) ⟨by omega, by omega⟩
  have f8 : fig a ≤ 8 := by
    unfold fig
    have := numS_le (i := if a < 0 then -a else a) (k := 8) (by omega) (by split <;> omega) (by split <;> omega)
    omega
  have sg : signT a = sgT (decide (a < 0)) := by
    unfold signT sgT
    by_cases c : a < 0
    · rw [if_pos c, decide_eq_true c]; rfl
    · rw [if_neg c, decide_eq_false c]; rfl
  have sv : ∀ x : Nat, (x : Int) = absI a → sgV (decide (a < 0)) x = a := fun x hx => by
    unfold sgV
    unfold absI at hx
    by_cases c : a < 0
    · rw [if_pos c] at hx
      rw [decide_eq_true c, if_pos rfl]
      omega
    · rw [if_neg c] at hx
      rw [decide_eq_false c, if_neg (by decide)]
      omega
  have svk : ∀ (x : Nat) (k : Nat), (x : Int) = absI a * T k → sgV (decide (a < 0)) x = a * T k := fun x k hx => by
    unfold sgV
    unfold absI at hx
    by_cases c : a < 0
    · rw [if_pos c] at hx
      rw [decide_eq_true c, if_pos rfl, hx]
      grind
    · rw [if_neg c] at hx
      rw [decide_eq_false c, if_neg (by decide), hx]
  have self : ∀ x : Int, a ≠ 0 → tidyV a x = (a, x) := fun x ha => by
    have h10 : a % 10 ≠ 0 := by rcases hn with ⟨h, _⟩ | h <;> omega
    have := tidy_self (a := a) (b := x) h10 0 (by show -BIG < a * 1 ∧ a * 1 < BIG; omega)
    have e : a * T ((0 : Nat) : Int) = a := by show a * 1 = a; omega
    rw [e] at this
    rw [← this]
    congr 1
    omega
  obtain ⟨hlen, _, l3⟩ := l
  unfold textT
  rw [sg]
  by_cases c : -4 ≤ b + fig a - 1 ∧ b + fig a - 1 ≤ 9
  · left
    rw [if_pos c]
    by_cases hb : 0 ≤ b
    · have e : plainT (figS a) b = figS a ++ List.replicate b.toNat 48 := if_pos hb
      rw [e]
      have X := allD_app d1 (zeros_dig b.toNat)
      have dv : ((digitsVal (figS a ++ List.replicate b.toNat 48) : Nat) : Int) = absI a * T (b.toNat : Int) := by
        rw [dv_app, dv_zeros, Nat.add_zero, List.length_replicate]
        push_cast
        rw [d2, T_nat]
      have f := fp_no (decide (a < 0)) X (by simp; omega) (by simp; omega)
      rw [svk _ _ dv] at f
      refine ⟨_, _, f, ?_⟩
      by_cases ha : a = 0
      · have hb0 : b = 0 := by rcases hn with ⟨_, h⟩ | h <;> omega
        rw [ha, hb0]
        rfl
      · have h10 : a % 10 ≠ 0 := by rcases hn with ⟨h, _⟩ | h <;> omega
        have tb : T (b.toNat : Int) ≤ T 10 := T_mono (by omega)
        have t10 : T 10 = 10000000000 := rfl
        have tp := T_pos (b.toNat : Int)
        have bnd : -BIG < a * T (b.toNat : Int) ∧ a * T (b.toNat : Int) < BIG := by
          generalize T (b.toNat : Int) = Q at *
          have m1 : a * Q ≤ 100000000 * Q := Int.mul_le_mul_of_nonneg_right (by omega) (by omega)
          have m2 : -100000000 * Q ≤ a * Q := Int.mul_le_mul_of_nonneg_right (by omega) (by omega)
          have := b20
          omega
        have := tidy_self (a := a) (b := b) h10 b.toNat bnd
        rw [← this]
        congr 1
        omega
    · have e : plainT (figS a) b = cutD (List.replicate ((1 - b).toNat - (figS a).length) 48 ++ figS a) none (some b) ++ [46] ++ cutD (List.replicate ((1 - b).toNat - (figS a).length) 48 ++ figS a) (some b) none := if_neg hb
      rw [e]
      have ha : a ≠ 0 := by rcases hn with ⟨_, h⟩ | h <;> omega
      have Zd := allD_app (zeros_dig ((1 - b).toNat - (figS a).length)) d1
      have Zv : digitsVal (List.replicate ((1 - b).toNat - (figS a).length) 48 ++ figS a) = digitsVal (figS a) := by rw [dv_app, dv_zeros]; simp
      have Zl : (List.replicate ((1 - b).toNat - (figS a).length) 48 ++ figS a).length = ((1 - b).toNat - (figS a).length) + (figS a).length := by simp
      generalize List.replicate ((1 - b).toNat - (figS a).length) 48 ++ figS a = Z at *
      rw [cut_takeN Z (by omega), cut_dropN Z (by omega)]
      obtain ⟨j, hj⟩ : ∃ j, (b + (Z.length : Int)).toNat = j := ⟨_, rfl⟩
      rw [hj]
      have dt : AllDigits (Z.take j) := fun x hx => Zd x (List.mem_of_mem_take hx)
      have dd : AllDigits (Z.drop j) := fun x hx => Zd x (List.mem_of_mem_drop hx)
      have f := fp_at (decide (a < 0)) dt dd (by rw [List.length_take]; omega) (by rw [List.length_drop]; omega) (by rw [List.length_take, List.length_drop]; omega)
      rw [List.take_append_drop, Zv, sv _ d2, List.length_drop] at f
      have e2 : Z.take j ++ [46] ++ Z.drop j = Z.take j ++ 46 :: Z.drop j := by simp
      rw [e2]
      refine ⟨_, _, f, ?_⟩
      rw [self _ ha]
      congr 1
      omega
  · right
    rw [if_neg c]
    have ha : a ≠ 0 := by
      rcases hn with ⟨h, h2⟩ | h
      · exfalso
        rw [h, h2] at c
        exact c ⟨by decide, by decide⟩
      · omega
    have hh : -40 ≤ b + fig a - 1 ∧ b + fig a - 1 ≤ 40 := by rcases hn with ⟨h, _⟩ | h <;> omega
    generalize hz : b + fig a - 1 = z at *
    have fz := figS_len (a := z) ⟨by omega, by omega⟩
    obtain ⟨z1, z2⟩ := figS_dig (a := z)
    have z8 : fig z ≤ 2 := by
      unfold fig
      have := numS_le (i := if z < 0 then -z else z) (k := 2) (by omega) (by split <;> omega) (by split <;> omega)
      omega
    have ge := fe_sg (decide (z < 0)) z1 fz.1 (by omega)
    have vz : sgV (decide (z < 0)) (digitsVal (figS z)) = z := by
      unfold sgV
      unfold absI at z2
      by_cases q : z < 0
      · rw [if_pos q] at z2
        rw [decide_eq_true q, if_pos rfl]
        omega
      · rw [if_neg q] at z2
        rw [decide_eq_false q, if_neg (by decide)]
        omega
    rw [vz, ← numS_sg] at ge
    by_cases l1 : 1 < (figS a).length
    · rw [if_pos l1]
      have dt : AllDigits ((figS a).take 1) := fun x hx => d1 x (List.mem_of_mem_take hx)
      have dd : AllDigits ((figS a).drop 1) := fun x hx => d1 x (List.mem_of_mem_drop hx)
      have f := fp_at (decide (a < 0)) dt dd (by rw [List.length_take]; omega) (by rw [List.length_drop]; omega) (by rw [List.length_take, List.length_drop]; omega)
      rw [List.take_append_drop, sv _ d2, List.length_drop] at f
      refine ⟨_, _, _, numS z, z, ?_, f, ge, self _ ha, ?_, by omega⟩
      · simp
      · rw [self _ ha]
        congr 1
        omega
    · have one : (figS a).take 1 = figS a := List.take_of_length_le (by omega)
      have non : (figS a).drop 1 = [] := List.drop_eq_nil_of_le (by omega)
      rw [if_neg l1, one, non]
      have f := fp_no (decide (a < 0)) d1 (by omega) (by omega)
      rw [sv _ d2] at f
      refine ⟨_, _, _, numS z, z, ?_, f, ge, self _ ha, ?_, by omega⟩
      · simp
      · rw [self _ ha]
        congr 1
        omega
theorem tidy0 {k : Nat} (hk : 1 ≤ k) (p : Int) : C k 15 [.int 0, .int p] = .ok (.tup [.int 0, .int 0]) := by
  obtain ⟨k, rfl⟩ : ∃ j, k = j + 1 := ⟨k - 1, by omega⟩
  rw [c15]
  unfold B15
  simp (disch := first | omega | assumption | (simp only [List.length_cons, List.length_nil, List.length_append, List.length_replicate, List.length_take, List.length_drop]; omega)) only [den, dens, deno, denc, deni, denS, denSs, fin_nx, fin_rt, Res.bind_ok, Res.bind_exc, truth, partD, getV, setV, setAll, storeT, wipeV, binD_add, binD_sub, binD_mul, binD_fdiv, binD_mod, cmp_lt, cmp_le, cmp_gt, cmp_ge, cmp_eqi, cmp_nei, cmp_eqb, cmp_neb, cmp_eqs, cmp_nes, cmp_is, cmp_isNot, isn_int, isn_non, isn_tup, isn_lst, isn_str, isTy, isFn, ix0, ix1, ix2, ix3, ix4, ix5, ixm1, blt_lenc, blt_lent, blt_lenl, blt_lens, blt_abs, blt_inti, blt_intb, blt_tupt, blt_tupl, blt_lstt, blt_lstl, blt_max, blt_min, slice_tup, slice_lst, List.length_cons, List.length_nil, Nat.reduceAdd, Nat.reduceLeDiff, ↓reduceIte, reduceCtorEq, Bool.false_eq_true, Bool.not_true, Bool.not_false, Bool.not_eq_true, decide_eq_true_eq, decide_not, Bool.not_eq_eq_eq_not, maxl_num, Int.reduceEq, Int.reduceLT, Int.reduceLE, Int.reduceNeg, Int.reduceToNat, decide_true, decide_false, Bool.true_and, Bool.false_and, Bool.and_true, Bool.and_false, Bool.not_true, Bool.not_false, not_true_eq_false, not_false_eq_true, Nat.reduceEqDiff, nc0, nc1, nc2, nc3, nc4, nc5, nc6, nc7, nc8, nc9, nc10, nc11, nc12, g0, g1, g2, g3, g4, callAt, callLow, CLk, told_ok, told_x0, told_x1, told_x2, told_x3, told_x4, decide_true]
theorem tidyP {k : Nat} (hk : 1 ≤ k) (n : Nat) : ∀ (x p : Int), 0 < x → x < n → ∃ x' p', C k 15 [.int x, .int p] = .ok (.tup [.int x', .int p']) ∧ 0 < x' ∧ x' ≤ x ∧ x' % 10 ≠ 0 := by
  obtain ⟨k, rfl⟩ : ∃ j, k = j + 1 := ⟨k - 1, by omega⟩
  intro x p h0 hn
  rw [c15]
  unfold B15
  have hx : ¬(x = 0) := by omega
  simp (disch := first | omega | assumption | (simp only [List.length_cons, List.length_nil, List.length_append, List.length_replicate, List.length_take, List.length_drop]; omega)) only [den, dens, deno, denc, deni, denS, denSs, fin_nx, fin_rt, Res.bind_ok, Res.bind_exc, truth, partD, getV, setV, setAll, storeT, wipeV, binD_add, binD_sub, binD_mul, binD_fdiv, binD_mod, cmp_lt, cmp_le, cmp_gt, cmp_ge, cmp_eqi, cmp_nei, cmp_eqb, cmp_neb, cmp_eqs, cmp_nes, cmp_is, cmp_isNot, isn_int, isn_non, isn_tup, isn_lst, isn_str, isTy, isFn, ix0, ix1, ix2, ix3, ix4, ix5, ixm1, blt_lenc, blt_lent, blt_lenl, blt_lens, blt_abs, blt_inti, blt_intb, blt_tupt, blt_tupl, blt_lstt, blt_lstl, blt_max, blt_min, slice_tup, slice_lst, List.length_cons, List.length_nil, Nat.reduceAdd, Nat.reduceLeDiff, ↓reduceIte, reduceCtorEq, Bool.false_eq_true, Bool.not_true, Bool.not_false, Bool.not_eq_true, decide_eq_true_eq, decide_not, Bool.not_eq_eq_eq_not, maxl_num, Int.reduceEq, Int.reduceLT, Int.reduceLE, Int.reduceNeg, Int.reduceToNat, decide_true, decide_false, Bool.true_and, Bool.false_and, Bool.and_true, Bool.and_false, Bool.not_true, Bool.not_false, not_true_eq_false, not_false_eq_true, Nat.reduceEqDiff, nc0, nc1, nc2, nc3, nc4, nc5, nc6, nc7, nc8, nc9, nc10, nc11, nc12, g0, g1, g2, g3, g4, callAt, callLow, CLk, told_ok, told_x0, told_x1, told_x2, told_x3, told_x4, hx, decide_false]
  induction n generalizing x p with
  | zero => omega
  | succ n ih =>
    by_cases he : x % 10 = 0
    · rw [while_step (ρ' := [.pu (.int (x / 10)), .pu (.int (p + 1))]) (by simp (disch := first | omega | assumption | (simp only [List.length_cons, List.length_nil, List.length_append, List.length_replicate, List.length_take, List.length_drop]; omega)) only [den, dens, deno, denc, deni, denS, denSs, fin_nx, fin_rt, Res.bind_ok, Res.bind_exc, truth, partD, getV, setV, setAll, storeT, wipeV, binD_add, binD_sub, binD_mul, binD_fdiv, binD_mod, cmp_lt, cmp_le, cmp_gt, cmp_ge, cmp_eqi, cmp_nei, cmp_eqb, cmp_neb, cmp_eqs, cmp_nes, cmp_is, cmp_isNot, isn_int, isn_non, isn_tup, isn_lst, isn_str, isTy, isFn, ix0, ix1, ix2, ix3, ix4, ix5, ixm1, blt_lenc, blt_lent, blt_lenl, blt_lens, blt_abs, blt_inti, blt_intb, blt_tupt, blt_tupl, blt_lstt, blt_lstl, blt_max, blt_min, slice_tup, slice_lst, List.length_cons, List.length_nil, Nat.reduceAdd, Nat.reduceLeDiff, ↓reduceIte, reduceCtorEq, Bool.false_eq_true, Bool.not_true, Bool.not_false, Bool.not_eq_true, decide_eq_true_eq, decide_not, Bool.not_eq_eq_eq_not, maxl_num, Int.reduceEq, Int.reduceLT, Int.reduceLE, Int.reduceNeg, Int.reduceToNat, decide_true, decide_false, Bool.true_and, Bool.false_and, Bool.and_true, Bool.and_false, Bool.not_true, Bool.not_false, not_true_eq_false, not_false_eq_true, Nat.reduceEqDiff, nc0, nc1, nc2, nc3, nc4, nc5, nc6, nc7, nc8, nc9, nc10, nc11, nc12, g0, g1, g2, g3, g4, callAt, callLow, CLk, told_ok, told_x0, told_x1, told_x2, told_x3, told_x4, he, decide_true]) (by simp (disch := first | omega | assumption | (simp only [List.length_cons, List.length_nil, List.length_append, List.length_replicate, List.length_take, List.length_drop]; omega)) only [den, dens, deno, denc, deni, denS, denSs, fin_nx, fin_rt, Res.bind_ok, Res.bind_exc, truth, partD, getV, setV, setAll, storeT, wipeV, binD_add, binD_sub, binD_mul, binD_fdiv, binD_mod, cmp_lt, cmp_le, cmp_gt, cmp_ge, cmp_eqi, cmp_nei, cmp_eqb, cmp_neb, cmp_eqs, cmp_nes, cmp_is, cmp_isNot, isn_int, isn_non, isn_tup, isn_lst, isn_str, isTy, isFn, ix0, ix1, ix2, ix3, ix4, ix5, ixm1, blt_lenc, blt_lent, blt_lenl, blt_lens, blt_abs, blt_inti, blt_intb, blt_tupt, blt_tupl, blt_lstt, blt_lstl, blt_max, blt_min, slice_tup, slice_lst, List.length_cons, List.length_nil, Nat.reduceAdd, Nat.reduceLeDiff, ↓reduceIte, reduceCtorEq, Bool.false_eq_true, Bool.not_true, Bool.not_false, Bool.not_eq_true, decide_eq_true_eq, decide_not, Bool.not_eq_eq_eq_not, maxl_num, Int.reduceEq, Int.reduceLT, Int.reduceLE, Int.reduceNeg, Int.reduceToNat, decide_true, decide_false, Bool.true_and, Bool.false_and, Bool.and_true, Bool.and_false, Bool.not_true, Bool.not_false, not_true_eq_false, not_false_eq_true, Nat.reduceEqDiff, nc0, nc1, nc2, nc3, nc4, nc5, nc6, nc7, nc8, nc9, nc10, nc11, nc12, g0, g1, g2, g3, g4, callAt, callLow, CLk, told_ok, told_x0, told_x1, told_x2, told_x3, told_x4])]
      obtain ⟨x', p', e1, e2, e3, e4⟩ := ih (x / 10) (p + 1) (by omega) (by omega) (by omega)
      exact ⟨x', p', e1, e2, by omega, e4⟩
    · rw [while_stop (by simp (disch := first | omega | assumption | (simp only [List.length_cons, List.length_nil, List.length_append, List.length_replicate, List.length_take, List.length_drop]; omega)) only [den, dens, deno, denc, deni, denS, denSs, fin_nx, fin_rt, Res.bind_ok, Res.bind_exc, truth, partD, getV, setV, setAll, storeT, wipeV, binD_add, binD_sub, binD_mul, binD_fdiv, binD_mod, cmp_lt, cmp_le, cmp_gt, cmp_ge, cmp_eqi, cmp_nei, cmp_eqb, cmp_neb, cmp_eqs, cmp_nes, cmp_is, cmp_isNot, isn_int, isn_non, isn_tup, isn_lst, isn_str, isTy, isFn, ix0, ix1, ix2, ix3, ix4, ix5, ixm1, blt_lenc, blt_lent, blt_lenl, blt_lens, blt_abs, blt_inti, blt_intb, blt_tupt, blt_tupl, blt_lstt, blt_lstl, blt_max, blt_min, slice_tup, slice_lst, List.length_cons, List.length_nil, Nat.reduceAdd, Nat.reduceLeDiff, ↓reduceIte, reduceCtorEq, Bool.false_eq_true, Bool.not_true, Bool.not_false, Bool.not_eq_true, decide_eq_true_eq, decide_not, Bool.not_eq_eq_eq_not, maxl_num, Int.reduceEq, Int.reduceLT, Int.reduceLE, Int.reduceNeg, Int.reduceToNat, decide_true, decide_false, Bool.true_and, Bool.false_and, Bool.and_true, Bool.and_false, Bool.not_true, Bool.not_false, not_true_eq_false, not_false_eq_true, Nat.reduceEqDiff, nc0, nc1, nc2, nc3, nc4, nc5, nc6, nc7, nc8, nc9, nc10, nc11, nc12, g0, g1, g2, g3, g4, callAt, callLow, CLk, told_ok, told_x0, told_x1, told_x2, told_x3, told_x4, he, decide_false])]
      exact ⟨x, p, by simp (disch := first | omega | assumption | (simp only [List.length_cons, List.length_nil, List.length_append, List.length_replicate, List.length_take, List.length_drop]; omega)) only [den, dens, deno, denc, deni, denS, denSs, fin_nx, fin_rt, Res.bind_ok, Res.bind_exc, truth, partD, getV, setV, setAll, storeT, wipeV, binD_add, binD_sub, binD_mul, binD_fdiv, binD_mod, cmp_lt, cmp_le, cmp_gt, cmp_ge, cmp_eqi, cmp_nei, cmp_eqb, cmp_neb, cmp_eqs, cmp_nes, cmp_is, cmp_isNot, isn_int, isn_non, isn_tup, isn_lst, isn_str, isTy, isFn, ix0, ix1, ix2, ix3, ix4, ix5, ixm1, blt_lenc, blt_lent, blt_lenl, blt_lens, blt_abs, blt_inti, blt_intb, blt_tupt, blt_tupl, blt_lstt, blt_lstl, blt_max, blt_min, slice_tup, slice_lst, List.length_cons, List.length_nil, Nat.reduceAdd, Nat.reduceLeDiff, ↓reduceIte, reduceCtorEq, Bool.false_eq_true, Bool.not_true, Bool.not_false, Bool.not_eq_true, decide_eq_true_eq, decide_not, Bool.not_eq_eq_eq_not, maxl_num, Int.reduceEq, Int.reduceLT, Int.reduceLE, Int.reduceNeg, Int.reduceToNat, decide_true, decide_false, Bool.true_and, Bool.false_and, Bool.and_true, Bool.and_false, Bool.not_true, Bool.not_false, not_true_eq_false, not_false_eq_true, Nat.reduceEqDiff, nc0, nc1, nc2, nc3, nc4, nc5, nc6, nc7, nc8, nc9, nc10, nc11, nc12, g0, g1, g2, g3, g4, callAt, callLow, CLk, told_ok, told_x0, told_x1, told_x2, told_x3, told_x4], h0, by omega, he⟩
theorem tidy {k : Nat} (hk : 1 ≤ k) (x p : Int) (h : 0 ≤ x) : ∃ x' p', C k 15 [.int x, .int p] = .ok (.tup [.int x', .int p']) ∧ 0 ≤ x' ∧ x' ≤ x ∧ (x' = 0 ∨ x' % 10 ≠ 0) := by
  obtain ⟨k, rfl⟩ : ∃ j, k = j + 1 := ⟨k - 1, by omega⟩
  by_cases h0 : x = 0
  · subst h0
    exact ⟨0, 0, tidy0 (k := k + 1) (by omega) p, by omega, by omega, .inl rfl⟩
  · obtain ⟨x', p', e1, e2, e3, e4⟩ := tidyP (k := k + 1) (by omega) (x + 1).toNat x p (by omega) (by omega)
    exact ⟨x', p', e1, by omega, e3, .inr e4⟩
theorem number {k : Nat} (hk : 2 ≤ k) (n : Int) (h : 0 ≤ n) : ∃ a b, C k 16 [.int n] = .ok (.tup [.int a, .int b]) ∧ Numb a b := by
  obtain ⟨k, rfl⟩ : ∃ j, k = j + 2 := ⟨k - 2, by omega⟩
  rw [c16]
  unfold B16
  obtain ⟨hi, e0, e1, e2⟩ : ∃ hi, idxD (.tup [.int 10, .int 100, .int 1000, .int 100000, .int 100000000, .int 3, .int 100000000, .int 10]) (.int (n % 8)) = .ok (.int hi) ∧ 0 < hi ∧ hi ≤ 100000000 := by
    rw [idx_tup (by omega) (by simp only [List.length_cons, List.length_nil]; omega)]
    obtain ⟨m, hm, e⟩ : ∃ m : Nat, m < 8 ∧ (n % 8).toNat = m := ⟨_, by omega, rfl⟩
    rw [e]
    match m, hm with
    | 0, _ | 1, _ | 2, _ | 3, _ | 4, _ | 5, _ | 6, _ | 7, _ => exact ⟨_, rfl, by omega, by omega⟩
  obtain ⟨d, f0, f1, f2⟩ := drawn (k := k + 1) (by omega) n 1 (by omega) (by omega)
  obtain ⟨p, g⟩ : ∃ p, idxD (.tup [.int 0, .int 0, .int (-1), .int (-2), .int 3, .int (-7), .int (d / 4 / 64 % 81 - 40), .int (d / 4 / 64 % 17 - 8)]) (.int (d / 4 % 8)) = .ok (.int p) := by
    rw [idx_tup (by omega) (by simp only [List.length_cons, List.length_nil]; omega)]
    obtain ⟨m, hm, e⟩ : ∃ m : Nat, m < 8 ∧ (d / 4 % 8).toNat = m := ⟨_, by omega, rfl⟩
    rw [e]
    match m, hm with
    | 0, _ | 1, _ | 2, _ | 3, _ | 4, _ | 5, _ | 6, _ | 7, _ => exact ⟨_, rfl⟩
  obtain ⟨x, q, t0, t1, t2, t3⟩ := tidy (k := k + 1) (by omega) (n / 8 % hi) p (Int.emod_nonneg _ (by omega))
  have t4 : n / 8 % hi < hi := Int.emod_lt_of_pos _ e1
  have bx := big_lt (a := x) (by omega) (by omega)
  have nl := numS_len bx.1 bx.2
  have f3 : C (k + 1) 12 [.int n, .int 1] = .ok (.int d) := f0
  have fx : ((numS x).length : Int) = fig x := by
    unfold fig
    rw [if_neg (by omega)]
  have fl : 1 ≤ fig x ∧ fig x ≤ 8 := by
    rw [← fx]
    have := numS_le (i := x) (k := 8) (by omega) t1 (by omega)
    have := numS_pos (i := x)
    omega
  have fneg : fig (x * (1 - 2)) = fig x := by
    have e : (if x * (1 - 2) < 0 then -(x * (1 - 2)) else x * (1 - 2)) = (if x < 0 then -x else x) := by
      split <;> split <;> omega
    unfold fig
    rw [e]
  have fpos : fig (x * 1) = fig x := by rw [Int.mul_one]
  by_cases hx : x > 0
  · refine ⟨_, _, by simp (disch := first | omega | assumption | (simp only [List.length_cons, List.length_nil, List.length_append, List.length_replicate, List.length_take, List.length_drop]; omega)) only [den, dens, deno, denc, deni, denS, denSs, fin_nx, fin_rt, Res.bind_ok, Res.bind_exc, truth, partD, getV, setV, setAll, storeT, wipeV, binD_add, binD_sub, binD_mul, binD_fdiv, binD_mod, cmp_lt, cmp_le, cmp_gt, cmp_ge, cmp_eqi, cmp_nei, cmp_eqb, cmp_neb, cmp_eqs, cmp_nes, cmp_is, cmp_isNot, isn_int, isn_non, isn_tup, isn_lst, isn_str, isTy, isFn, ix0, ix1, ix2, ix3, ix4, ix5, ixm1, blt_lenc, blt_lent, blt_lenl, blt_lens, blt_abs, blt_inti, blt_intb, blt_tupt, blt_tupl, blt_lstt, blt_lstl, blt_max, blt_min, slice_tup, slice_lst, List.length_cons, List.length_nil, Nat.reduceAdd, Nat.reduceLeDiff, ↓reduceIte, reduceCtorEq, Bool.false_eq_true, Bool.not_true, Bool.not_false, Bool.not_eq_true, decide_eq_true_eq, decide_not, Bool.not_eq_eq_eq_not, maxl_num, Int.reduceEq, Int.reduceLT, Int.reduceLE, Int.reduceNeg, Int.reduceToNat, decide_true, decide_false, Bool.true_and, Bool.false_and, Bool.and_true, Bool.and_false, Bool.not_true, Bool.not_false, not_true_eq_false, not_false_eq_true, Nat.reduceEqDiff, nc0, nc1, nc2, nc3, nc4, nc5, nc6, nc7, nc8, nc9, nc10, nc11, nc12, g0, g1, g2, g3, g4, callAt, callLow, CLk, told_ok, told_x0, told_x1, told_x2, told_x3, told_x4, e0, f3, g, t0, blt_stri bx.1 bx.2, hx, decide_true]; rfl, ?_⟩
    rw [fx]
    have hs : 1 - d / 4 / 8 % 2 * 2 = 1 ∨ 1 - d / 4 / 8 % 2 * 2 = 1 - 2 := by omega
    have hb : ∀ q' : Int, -40 ≤ q' + fig x - 1 → q' + fig x - 1 ≤ 40 → Numb (x * (1 - d / 4 / 8 % 2 * 2)) q' := by
      intro q' h1 h2
      refine .inr ?_
      rcases hs with hs | hs
      · rw [hs, fpos]
        omega
      · rw [hs, fneg]
        omega
    refine hb _ ?_ ?_
    · rw [Int.mul_one]
      split <;> split <;> omega
    · rw [Int.mul_one]
      split <;> split <;> omega
  · obtain rfl : x = 0 := by omega
    refine ⟨_, _, by simp (disch := first | omega | assumption | (simp only [List.length_cons, List.length_nil, List.length_append, List.length_replicate, List.length_take, List.length_drop]; omega)) only [den, dens, deno, denc, deni, denS, denSs, fin_nx, fin_rt, Res.bind_ok, Res.bind_exc, truth, partD, getV, setV, setAll, storeT, wipeV, binD_add, binD_sub, binD_mul, binD_fdiv, binD_mod, cmp_lt, cmp_le, cmp_gt, cmp_ge, cmp_eqi, cmp_nei, cmp_eqb, cmp_neb, cmp_eqs, cmp_nes, cmp_is, cmp_isNot, isn_int, isn_non, isn_tup, isn_lst, isn_str, isTy, isFn, ix0, ix1, ix2, ix3, ix4, ix5, ixm1, blt_lenc, blt_lent, blt_lenl, blt_lens, blt_abs, blt_inti, blt_intb, blt_tupt, blt_tupl, blt_lstt, blt_lstl, blt_max, blt_min, slice_tup, slice_lst, List.length_cons, List.length_nil, Nat.reduceAdd, Nat.reduceLeDiff, ↓reduceIte, reduceCtorEq, Bool.false_eq_true, Bool.not_true, Bool.not_false, Bool.not_eq_true, decide_eq_true_eq, decide_not, Bool.not_eq_eq_eq_not, maxl_num, Int.reduceEq, Int.reduceLT, Int.reduceLE, Int.reduceNeg, Int.reduceToNat, decide_true, decide_false, Bool.true_and, Bool.false_and, Bool.and_true, Bool.and_false, Bool.not_true, Bool.not_false, not_true_eq_false, not_false_eq_true, Nat.reduceEqDiff, nc0, nc1, nc2, nc3, nc4, nc5, nc6, nc7, nc8, nc9, nc10, nc11, nc12, g0, g1, g2, g3, g4, callAt, callLow, CLk, told_ok, told_x0, told_x1, told_x2, told_x3, told_x4, e0, f3, g, t0, blt_stri bx.1 bx.2, hx, decide_false]; rfl, .inl ⟨by rw [Int.zero_mul], by rw [Int.mul_zero]⟩⟩
/-! the two readings agree -/
theorem okS_lt {s : List Nat} (h : ∀ c ∈ s, c < 1000) : okS s = true := List.all_eq_true.mpr fun c hc => decide_eq_true (by have := h c hc; omega)
theorem text_ok {a b : Int} (hn : Numb a b) : (textT a b).length ≤ 61 ∧ okS (textT a b) = true := by
  rcases shape hn with ⟨w, q, f, _⟩ | ⟨P, w, q, h, v, e, f, g, _⟩
  · exact ⟨by have := f.fl; omega, okS_lt f.fc⟩
  · rw [e]
    refine ⟨by have := f.fl; have := g.fl; simp only [List.length_append, List.length_cons]; omega, okS_lt fun c hc => ?_⟩
    rcases List.mem_append.mp hc with z | z
    · exact f.fc c z
    · rcases List.mem_cons.mp z with z | z
      · omega
      · exact g.fc c z
theorem app_uniq {c : Nat} : ∀ {p P h H : List Nat}, p ++ c :: h = P ++ c :: H → c ∉ p → c ∉ P → p = P ∧ h = H
  | [], [], h, H, e, _, _ => ⟨rfl, by injection e⟩
  | [], x :: P, h, H, e, _, n => by
    injection e with e1 e2
    exact absurd (by rw [e1]; exact List.mem_cons_self) n
  | x :: p, [], h, H, e, n, _ => by
    injection e with e1 e2
    exact absurd (by rw [e1]; exact List.mem_cons_self) n
  | x :: p, y :: P, h, H, e, n, m => by
    injection e with e1 e2
    obtain ⟨u, v⟩ := app_uniq e2 (fun z => n (List.mem_cons_of_mem _ z)) (fun z => m (List.mem_cons_of_mem _ z))
    exact ⟨by rw [e1, u], v⟩
theorem filt_nil {t : List Nat} (h : ¬∃ a b, Numb a b ∧ textT a b = t) (o : Option (Int × Int)) : filt t o = none := by
  cases o with
  | none => rfl
  | some g => exact if_neg fun z => h ⟨g.1, g.2, z⟩
theorem due_none {t : List Nat} (h : ¬∃ a b, Numb a b ∧ textT a b = t) (p s : List Nat) (e : Bool) : dueV t p s e = none := by
  unfold dueV
  dsimp only
  rw [filt_nil h]
  split
  · rfl
  · split <;> rfl
theorem same_e {p s : List Nat} (hp : 101 ∉ p) : filt (p ++ 101 :: s) ((fromV p).bind fun f => (wholeV s 2).map fun v => (f.1, f.2 + v)) = dueV (p ++ 101 :: s) p s true := by
  by_cases h : ∃ a b, Numb a b ∧ textT a b = p ++ 101 :: s
  · obtain ⟨a, b, hn, ht⟩ := h
    rcases shape hn with ⟨w, q, f, _⟩ | ⟨P, w, q, H, v, e, f, g, e1, e2, e3⟩
    · exfalso
      have := f.f7
      rw [ht] at this
      exact this (by simp)
    · rw [ht] at e
      obtain ⟨rfl, rfl⟩ := app_uniq e hp f.f7
      rw [due_e f g, e2, f.fv, g.wv, e1]
      show filt _ (some (a, q + v)) = _
      rw [e3]
  · rw [filt_nil h, due_none h]
theorem same_no {t : List Nat} (hp : 101 ∉ t) : filt t (fromV t) = dueV t t [] false := by
  by_cases h : ∃ a b, Numb a b ∧ textT a b = t
  · obtain ⟨a, b, hn, ht⟩ := h
    rcases shape hn with ⟨w, q, f, e1⟩ | ⟨P, w, q, H, v, e, f, g, e1, e2, e3⟩
    · rw [ht] at f
      rw [due_no f, f.fv]
    · exfalso
      rw [ht] at e
      exact hp (by rw [e]; simp)
  · rw [filt_nil h, due_none h]
theorem both {j k : Nat} (hj : 4 ≤ j) (hk : 5 ≤ k) {t : List Nat} (hl : t.length ≤ 400) (ho : okS t = true) : ∃ o, C j 9 [.str t] = optP o ∧ C k 21 [.str t] = .ok (optN o) := by
  by_cases h : 101 ∈ t
  · obtain ⟨p, s, rfl, n⟩ := split_at h
    have lp : p.length ≤ 400 := by simp at hl; omega
    have d := dueW hk (.inl ⟨rfl, rfl⟩) n hl ho
    have r := readW_at hj n hl (F := fromV p) (fun j hj => fromW hj (by omega)) (fromV_bd (by omega))
    rw [same_e n] at r
    exact ⟨_, r, d⟩
  · have d := dueW hk (.inr ⟨rfl, rfl, rfl⟩) h hl ho
    have r := readW_no hj h hl (F := fromV t) (fun j hj => fromW hj (by omega)) (fromV_bd (by omega))
    rw [same_no h] at r
    exact ⟨_, r, d⟩
/-! texts changed -/
theorem okS_app {a b : List Nat} (ha : okS a = true) (hb : okS b = true) : okS (a ++ b) = true := by
  unfold okS at *
  rw [List.all_append, ha, hb]; rfl
theorem okS_cut {a : List Nat} (ha : okS a = true) (lo hi : Option Int) : okS (cutD a lo hi) = true := by
  unfold okS at *
  rw [List.all_eq_true] at *
  exact fun c hc => ha c (List.mem_of_mem_drop (List.mem_of_mem_take hc))
def LT : List Nat := [48, 49, 50, 51, 52, 53, 54, 55, 56, 57, 46, 45, 101, 32, 43, 120]
theorem changed {k : Nat} (hk : 1 ≤ k) (t : List Nat) (ht : t.length ≤ 400) (ho : okS t = true) (m : Int) (hm : 0 ≤ m) : ∃ t', C k 20 [.str t, .int m] = .ok (.str t') ∧ t'.length ≤ t.length + 1 ∧ okS t' = true := by
  obtain ⟨k, rfl⟩ : ∃ j, k = j + 1 := ⟨k - 1, by omega⟩
  obtain ⟨a, b1, a0⟩ : ∃ a : Int, binD .mod (.int (m / 16)) (.int ((t.length : Int) + 1)) = .ok (.int a) ∧ 0 ≤ a := ⟨_, binD_mod (by omega), Int.emod_nonneg _ (by omega)⟩
  obtain ⟨c, lc, oc⟩ : ∃ c : Nat, idxD (.str LT) (.int (m / 400 % 16)) = .ok (.str [c]) ∧ okS [c] = true := by
    have e : LT.length = 16 := rfl
    have hj : (m / 400 % 16).toNat < 16 := by omega
    exact ⟨_, idx_str (by omega) (by rw [e]; omega) (by rw [e]; omega), (by decide : ∀ j < 16, okS [LT.getD j 0] = true) _ hj⟩
  obtain ⟨n, rfl⟩ : ∃ n : Nat, a = n := ⟨a.toNat, by omega⟩
  have c1 : (cutD t none (some (n : Int))).length + (cutD t (some (n : Int)) none).length = t.length := by
    rw [cut_take, cut_drop, List.length_take, List.length_drop]
    omega
  have c3 : (cutD t (some ((n : Int) + 1)) none).length ≤ (cutD t (some (n : Int)) none).length := by
    rw [show (n : Int) + 1 = ((n + 1 : Nat) : Int) by omega, cut_drop, cut_drop, List.length_drop, List.length_drop]
    omega
  let L : List (List Nat) := [cutD t none (some (n : Int)) ++ [c] ++ cutD t (some (n : Int)) none, cutD t none (some (n : Int)) ++ cutD t (some ((n : Int) + 1)) none, cutD t none (some (n : Int)) ++ [c] ++ cutD t (some ((n : Int) + 1)) none]
  have hL : ∀ y ∈ L, y.length ≤ t.length + 1 ∧ okS y = true := fun y hy => by
    simp only [L, List.mem_cons, List.not_mem_nil, or_false] at hy
    rcases hy with rfl | rfl | rfl
    · exact ⟨by simp only [List.length_append, List.length_cons, List.length_nil]; omega, okS_app (okS_app (okS_cut ho _ _) oc) (okS_cut ho _ _)⟩
    · exact ⟨by simp only [List.length_append]; omega, okS_app (okS_cut ho _ _) (okS_cut ho _ _)⟩
    · exact ⟨by simp only [List.length_append, List.length_cons, List.length_nil]; omega, okS_app (okS_app (okS_cut ho _ _) oc) (okS_cut ho _ _)⟩
  obtain ⟨z, ix, hz⟩ : ∃ z, idxD (.lst (L.map .str)) (.int (m % 3)) = .ok (.str z) ∧ z ∈ L := by
    have e : (L.map D.str).length = 3 := rfl
    have h1 : idxD (.lst (L.map .str)) (.int (m % 3)) = .ok ((L.map .str).getD (m % 3).toNat .non) := idx_lst (by omega) (by rw [e]; omega)
    have h2 : (L.map D.str).getD (m % 3).toNat .non ∈ L.map D.str := getD_mem (by rw [e]; omega)
    obtain ⟨z, h3, h4⟩ := List.mem_map.mp h2
    exact ⟨z, by rw [h1, ← h4], h3⟩
  refine ⟨z, ?_, hL z hz⟩
  have ix : idxD (.lst [.str (cutD t none (some (n : Int)) ++ [c] ++ cutD t (some (n : Int)) none), .str (cutD t none (some (n : Int)) ++ cutD t (some ((n : Int) + 1)) none), .str (cutD t none (some (n : Int)) ++ [c] ++ cutD t (some ((n : Int) + 1)) none)]) (.int (m % 3)) = .ok (.str z) := ix
  unfold LT at lc
  rw [c20]
  unfold B20
  exact st_ (by simp (disch := first | omega | assumption | (simp only [List.length_cons, List.length_nil, List.length_append, List.length_replicate, List.length_take, List.length_drop]; omega)) only [den, dens, deno, denc, deni, denS, denSs, fin_nx, fin_rt, Res.bind_ok, Res.bind_exc, truth, partD, getV, setV, setAll, storeT, wipeV, binD_add, binD_sub, binD_mul, binD_fdiv, binD_mod, cmp_lt, cmp_le, cmp_gt, cmp_ge, cmp_eqi, cmp_nei, cmp_eqb, cmp_neb, cmp_eqs, cmp_nes, cmp_is, cmp_isNot, isn_int, isn_non, isn_tup, isn_lst, isn_str, isTy, isFn, ix0, ix1, ix2, ix3, ix4, ix5, ixm1, blt_lenc, blt_lent, blt_lenl, blt_lens, blt_abs, blt_inti, blt_intb, blt_tupt, blt_tupl, blt_lstt, blt_lstl, blt_max, blt_min, slice_tup, slice_lst, List.length_cons, List.length_nil, Nat.reduceAdd, Nat.reduceLeDiff, ↓reduceIte, reduceCtorEq, Bool.false_eq_true, Bool.not_true, Bool.not_false, Bool.not_eq_true, decide_eq_true_eq, decide_not, Bool.not_eq_eq_eq_not, maxl_num, Int.reduceEq, Int.reduceLT, Int.reduceLE, Int.reduceNeg, Int.reduceToNat, decide_true, decide_false, Bool.true_and, Bool.false_and, Bool.and_true, Bool.and_false, Bool.not_true, Bool.not_false, not_true_eq_false, not_false_eq_true, Nat.reduceEqDiff, nc0, nc1, nc2, nc3, nc4, nc5, nc6, nc7, nc8, nc9, nc10, nc11, nc12, g0, g1, g2, g3, g4, callAt, callLow, CLk, told_ok, told_x0, told_x1, told_x2, told_x3, told_x4, b1] <;> rfl) (st_ (by simp (disch := first | omega | assumption | (simp only [List.length_cons, List.length_nil, List.length_append, List.length_replicate, List.length_take, List.length_drop]; omega)) only [den, dens, deno, denc, deni, denS, denSs, fin_nx, fin_rt, Res.bind_ok, Res.bind_exc, truth, partD, getV, setV, setAll, storeT, wipeV, binD_add, binD_sub, binD_mul, binD_fdiv, binD_mod, cmp_lt, cmp_le, cmp_gt, cmp_ge, cmp_eqi, cmp_nei, cmp_eqb, cmp_neb, cmp_eqs, cmp_nes, cmp_is, cmp_isNot, isn_int, isn_non, isn_tup, isn_lst, isn_str, isTy, isFn, ix0, ix1, ix2, ix3, ix4, ix5, ixm1, blt_lenc, blt_lent, blt_lenl, blt_lens, blt_abs, blt_inti, blt_intb, blt_tupt, blt_tupl, blt_lstt, blt_lstl, blt_max, blt_min, slice_tup, slice_lst, List.length_cons, List.length_nil, Nat.reduceAdd, Nat.reduceLeDiff, ↓reduceIte, reduceCtorEq, Bool.false_eq_true, Bool.not_true, Bool.not_false, Bool.not_eq_true, decide_eq_true_eq, decide_not, Bool.not_eq_eq_eq_not, maxl_num, Int.reduceEq, Int.reduceLT, Int.reduceLE, Int.reduceNeg, Int.reduceToNat, decide_true, decide_false, Bool.true_and, Bool.false_and, Bool.and_true, Bool.and_false, Bool.not_true, Bool.not_false, not_true_eq_false, not_false_eq_true, Nat.reduceEqDiff, nc0, nc1, nc2, nc3, nc4, nc5, nc6, nc7, nc8, nc9, nc10, nc11, nc12, g0, g1, g2, g3, g4, callAt, callLow, CLk, told_ok, told_x0, told_x1, told_x2, told_x3, told_x4, lc] <;> rfl) (sr_ (by simp (disch := first | omega | assumption | (simp only [List.length_cons, List.length_nil, List.length_append, List.length_replicate, List.length_take, List.length_drop]; omega)) only [den, dens, deno, denc, deni, denS, denSs, fin_nx, fin_rt, Res.bind_ok, Res.bind_exc, truth, partD, getV, setV, setAll, storeT, wipeV, binD_add, binD_sub, binD_mul, binD_fdiv, binD_mod, cmp_lt, cmp_le, cmp_gt, cmp_ge, cmp_eqi, cmp_nei, cmp_eqb, cmp_neb, cmp_eqs, cmp_nes, cmp_is, cmp_isNot, isn_int, isn_non, isn_tup, isn_lst, isn_str, isTy, isFn, ix0, ix1, ix2, ix3, ix4, ix5, ixm1, blt_lenc, blt_lent, blt_lenl, blt_lens, blt_abs, blt_inti, blt_intb, blt_tupt, blt_tupl, blt_lstt, blt_lstl, blt_max, blt_min, slice_tup, slice_lst, List.length_cons, List.length_nil, Nat.reduceAdd, Nat.reduceLeDiff, ↓reduceIte, reduceCtorEq, Bool.false_eq_true, Bool.not_true, Bool.not_false, Bool.not_eq_true, decide_eq_true_eq, decide_not, Bool.not_eq_eq_eq_not, maxl_num, Int.reduceEq, Int.reduceLT, Int.reduceLE, Int.reduceNeg, Int.reduceToNat, decide_true, decide_false, Bool.true_and, Bool.false_and, Bool.and_true, Bool.and_false, Bool.not_true, Bool.not_false, not_true_eq_false, not_false_eq_true, Nat.reduceEqDiff, nc0, nc1, nc2, nc3, nc4, nc5, nc6, nc7, nc8, nc9, nc10, nc11, nc12, g0, g1, g2, g3, g4, callAt, callLow, CLk, told_ok, told_x0, told_x1, told_x2, told_x3, told_x4, slice_str, binD_str, ix] <;> rfl)))
theorem law_true (ns : List Int) (hl : ns.length ≤ 63) : C 60 22 [.scr ns] = .ok (.bl true) := by
  obtain ⟨n0, e0, p0, q0⟩ := mixed (k := 59) (by omega) ns 0 (by omega) (by omega)
  obtain ⟨n1, e1, p1, q1⟩ := mixed (k := 59) (by omega) ns 1 (by omega) (by omega)
  obtain ⟨a, b, e3, nb⟩ := number (k := 59) (by omega) n1 p1
  obtain ⟨t0l, t0o⟩ := text_ok nb
  have ba : -100000000 < a ∧ a < 100000000 := by rcases nb with ⟨h, _⟩ | h <;> omega
  have bb : -1000 < b ∧ b < 1000 := by
    rcases nb with ⟨_, h⟩ | h
    · omega
    · have := fig_ok (a := a) ⟨by have := big64; omega, by have := big64; omega⟩
      omega
  have wd := ltext (k := 59) (by omega) (a := a) (b := b) ⟨by have := big64; omega, by have := big64; omega⟩ (by omega)
  generalize textT a b = t0 at *
  obtain ⟨q, qx, q2, q3⟩ : ∃ q : Int, idxD (.tup [.int 0, .int 1, .int 2, .int 4, .int 0, .int 1]) (.int (n0 % 6)) = .ok (.int q) ∧ 0 ≤ q ∧ q ≤ 4 := by
    obtain ⟨j, hj, e⟩ : ∃ j : Nat, j < 6 ∧ n0 % 6 = j := ⟨(n0 % 6).toNat, by omega, by omega⟩
    rw [e]
    match j, hj with
    | 0, _ => exact ⟨0, rfl, by omega, by omega⟩
    | 1, _ => exact ⟨1, rfl, by omega, by omega⟩
    | 2, _ => exact ⟨2, rfl, by omega, by omega⟩
    | 3, _ => exact ⟨4, rfl, by omega, by omega⟩
    | 4, _ => exact ⟨0, rfl, by omega, by omega⟩
    | 5, _ => exact ⟨1, rfl, by omega, by omega⟩
  have r := range_ok (j := q) (by omega) (by omega)
  have hu : ∀ d ∈ upFrom 0 q.toNat, ∃ i : Int, d = .int i ∧ 0 ≤ i ∧ i < 1000 := fun d hd => by
    obtain ⟨i, rfl, h1, h2⟩ := upFrom_mem _ _ _ hd
    exact ⟨i, rfl, by omega, by omega⟩
  have ul := upFrom_len q.toNat 0
  rw [c22]
  obtain ⟨ρ', g1, t, o, g2, g3, g4⟩ := for_keep (t := .name 3) (b := fun ρ => denSs (CL 59) (glOf GS) (match B22 with
    | .cons _ (.cons _ (.cons (.for_ _ _ b) _)) => b
    | _ => .nil) ρ) (fun r ρ => ∃ (t : List Nat) (o : SV), ρ = [.pu (.scr ns), .pu (.int n0), .pu (.str t), o, .un] ∧ (t.length + r.length ≤ 70 ∧ ∀ d ∈ r, ∃ i : Int, d = .int i ∧ 0 ≤ i ∧ i < 1000) ∧ okS t = true) (upFrom 0 q.toNat) [.pu (.scr ns), .pu (.int n0), .pu (.str t0), .un, .un] ⟨t0, .un, rfl, ⟨by omega, hu⟩, t0o⟩ fun x r ρ hI => by
      obtain ⟨t, o, rfl, ⟨ht, hx⟩, ho⟩ := hI
      simp only [List.length_cons] at ht
      obtain ⟨i, rfl, i1, i2⟩ := hx x List.mem_cons_self
      obtain ⟨v, f0, f1, f2⟩ := drawn (k := 59) (by omega) n0 i (by omega) (by omega)
      obtain ⟨t', u1, u2, u3⟩ := changed (k := 59) (by omega) t (by omega) ho (v / 4) (by omega)
      unfold B22
      exact ⟨_, _, rfl, by simp (disch := first | omega | assumption | (simp only [List.length_cons, List.length_nil, List.length_append, List.length_replicate, List.length_take, List.length_drop]; omega)) only [den, dens, deno, denc, deni, denS, denSs, fin_nx, fin_rt, Res.bind_ok, Res.bind_exc, truth, partD, getV, setV, setAll, storeT, wipeV, binD_add, binD_sub, binD_mul, binD_fdiv, binD_mod, cmp_lt, cmp_le, cmp_gt, cmp_ge, cmp_eqi, cmp_nei, cmp_eqb, cmp_neb, cmp_eqs, cmp_nes, cmp_is, cmp_isNot, isn_int, isn_non, isn_tup, isn_lst, isn_str, isTy, isFn, ix0, ix1, ix2, ix3, ix4, ix5, ixm1, blt_lenc, blt_lent, blt_lenl, blt_lens, blt_abs, blt_inti, blt_intb, blt_tupt, blt_tupl, blt_lstt, blt_lstl, blt_max, blt_min, slice_tup, slice_lst, List.length_cons, List.length_nil, Nat.reduceAdd, Nat.reduceLeDiff, ↓reduceIte, reduceCtorEq, Bool.false_eq_true, Bool.not_true, Bool.not_false, Bool.not_eq_true, decide_eq_true_eq, decide_not, Bool.not_eq_eq_eq_not, maxl_num, Int.reduceEq, Int.reduceLT, Int.reduceLE, Int.reduceNeg, Int.reduceToNat, decide_true, decide_false, Bool.true_and, Bool.false_and, Bool.and_true, Bool.and_false, Bool.not_true, Bool.not_false, not_true_eq_false, not_false_eq_true, Nat.reduceEqDiff, nc0, nc1, nc2, nc3, nc4, nc5, nc6, nc7, nc8, nc9, nc10, nc11, nc12, g0, g1, g2, g3, g4, callAt, callLow, CLk, told_ok, told_x0, told_x1, told_x2, told_x3, told_x4, f0, u1] <;> rfl, t', .pu (.int i), rfl, ⟨by omega, fun d hd => hx d (List.mem_cons_of_mem _ hd)⟩, u3⟩
  subst g2
  simp only [List.length_nil] at g3
  obtain ⟨res, rr, dd⟩ := both (j := 57) (k := 59) (by omega) (by omega) (t := t) (by omega) g4
  unfold B22 at g1 ⊢
  refine st_ (by simp (disch := first | omega | assumption | (simp only [List.length_cons, List.length_nil, List.length_append, List.length_replicate, List.length_take, List.length_drop]; omega)) only [den, dens, deno, denc, deni, denS, denSs, fin_nx, fin_rt, Res.bind_ok, Res.bind_exc, truth, partD, getV, setV, setAll, storeT, wipeV, binD_add, binD_sub, binD_mul, binD_fdiv, binD_mod, cmp_lt, cmp_le, cmp_gt, cmp_ge, cmp_eqi, cmp_nei, cmp_eqb, cmp_neb, cmp_eqs, cmp_nes, cmp_is, cmp_isNot, isn_int, isn_non, isn_tup, isn_lst, isn_str, isTy, isFn, ix0, ix1, ix2, ix3, ix4, ix5, ixm1, blt_lenc, blt_lent, blt_lenl, blt_lens, blt_abs, blt_inti, blt_intb, blt_tupt, blt_tupl, blt_lstt, blt_lstl, blt_max, blt_min, slice_tup, slice_lst, List.length_cons, List.length_nil, Nat.reduceAdd, Nat.reduceLeDiff, ↓reduceIte, reduceCtorEq, Bool.false_eq_true, Bool.not_true, Bool.not_false, Bool.not_eq_true, decide_eq_true_eq, decide_not, Bool.not_eq_eq_eq_not, maxl_num, Int.reduceEq, Int.reduceLT, Int.reduceLE, Int.reduceNeg, Int.reduceToNat, decide_true, decide_false, Bool.true_and, Bool.false_and, Bool.and_true, Bool.and_false, Bool.not_true, Bool.not_false, not_true_eq_false, not_false_eq_true, Nat.reduceEqDiff, nc0, nc1, nc2, nc3, nc4, nc5, nc6, nc7, nc8, nc9, nc10, nc11, nc12, g0, g1, g2, g3, g4, callAt, callLow, CLk, told_ok, told_x0, told_x1, told_x2, told_x3, told_x4, e0] <;> rfl) (st_ (by simp (disch := first | omega | assumption | (simp only [List.length_cons, List.length_nil, List.length_append, List.length_replicate, List.length_take, List.length_drop]; omega)) only [den, dens, deno, denc, deni, denS, denSs, fin_nx, fin_rt, Res.bind_ok, Res.bind_exc, truth, partD, getV, setV, setAll, storeT, wipeV, binD_add, binD_sub, binD_mul, binD_fdiv, binD_mod, cmp_lt, cmp_le, cmp_gt, cmp_ge, cmp_eqi, cmp_nei, cmp_eqb, cmp_neb, cmp_eqs, cmp_nes, cmp_is, cmp_isNot, isn_int, isn_non, isn_tup, isn_lst, isn_str, isTy, isFn, ix0, ix1, ix2, ix3, ix4, ix5, ixm1, blt_lenc, blt_lent, blt_lenl, blt_lens, blt_abs, blt_inti, blt_intb, blt_tupt, blt_tupl, blt_lstt, blt_lstl, blt_max, blt_min, slice_tup, slice_lst, List.length_cons, List.length_nil, Nat.reduceAdd, Nat.reduceLeDiff, ↓reduceIte, reduceCtorEq, Bool.false_eq_true, Bool.not_true, Bool.not_false, Bool.not_eq_true, decide_eq_true_eq, decide_not, Bool.not_eq_eq_eq_not, maxl_num, Int.reduceEq, Int.reduceLT, Int.reduceLE, Int.reduceNeg, Int.reduceToNat, decide_true, decide_false, Bool.true_and, Bool.false_and, Bool.and_true, Bool.and_false, Bool.not_true, Bool.not_false, not_true_eq_false, not_false_eq_true, Nat.reduceEqDiff, nc0, nc1, nc2, nc3, nc4, nc5, nc6, nc7, nc8, nc9, nc10, nc11, nc12, g0, g1, g2, g3, g4, callAt, callLow, CLk, told_ok, told_x0, told_x1, told_x2, told_x3, told_x4, e1, e3, wd] <;> rfl) (st_ (dfor_ (ds := upFrom 0 q.toNat) (by simp (disch := first | omega | assumption | (simp only [List.length_cons, List.length_nil, List.length_append, List.length_replicate, List.length_take, List.length_drop]; omega)) only [den, dens, deno, denc, deni, denS, denSs, fin_nx, fin_rt, Res.bind_ok, Res.bind_exc, truth, partD, getV, setV, setAll, storeT, wipeV, binD_add, binD_sub, binD_mul, binD_fdiv, binD_mod, cmp_lt, cmp_le, cmp_gt, cmp_ge, cmp_eqi, cmp_nei, cmp_eqb, cmp_neb, cmp_eqs, cmp_nes, cmp_is, cmp_isNot, isn_int, isn_non, isn_tup, isn_lst, isn_str, isTy, isFn, ix0, ix1, ix2, ix3, ix4, ix5, ixm1, blt_lenc, blt_lent, blt_lenl, blt_lens, blt_abs, blt_inti, blt_intb, blt_tupt, blt_tupl, blt_lstt, blt_lstl, blt_max, blt_min, slice_tup, slice_lst, List.length_cons, List.length_nil, Nat.reduceAdd, Nat.reduceLeDiff, ↓reduceIte, reduceCtorEq, Bool.false_eq_true, Bool.not_true, Bool.not_false, Bool.not_eq_true, decide_eq_true_eq, decide_not, Bool.not_eq_eq_eq_not, maxl_num, Int.reduceEq, Int.reduceLT, Int.reduceLE, Int.reduceNeg, Int.reduceToNat, decide_true, decide_false, Bool.true_and, Bool.false_and, Bool.and_true, Bool.and_false, Bool.not_true, Bool.not_false, not_true_eq_false, not_false_eq_true, Nat.reduceEqDiff, nc0, nc1, nc2, nc3, nc4, nc5, nc6, nc7, nc8, nc9, nc10, nc11, nc12, g0, g1, g2, g3, g4, callAt, callLow, CLk, told_ok, told_x0, told_x1, told_x2, told_x3, told_x4, qx, r]) g1) (st_ (by simp (disch := first | omega | assumption | (simp only [List.length_cons, List.length_nil, List.length_append, List.length_replicate, List.length_take, List.length_drop]; omega)) only [den, dens, deno, denc, deni, denS, denSs, fin_nx, fin_rt, Res.bind_ok, Res.bind_exc, truth, partD, getV, setV, setAll, storeT, wipeV, binD_add, binD_sub, binD_mul, binD_fdiv, binD_mod, cmp_lt, cmp_le, cmp_gt, cmp_ge, cmp_eqi, cmp_nei, cmp_eqb, cmp_neb, cmp_eqs, cmp_nes, cmp_is, cmp_isNot, isn_int, isn_non, isn_tup, isn_lst, isn_str, isTy, isFn, ix0, ix1, ix2, ix3, ix4, ix5, ixm1, blt_lenc, blt_lent, blt_lenl, blt_lens, blt_abs, blt_inti, blt_intb, blt_tupt, blt_tupl, blt_lstt, blt_lstl, blt_max, blt_min, slice_tup, slice_lst, List.length_cons, List.length_nil, Nat.reduceAdd, Nat.reduceLeDiff, ↓reduceIte, reduceCtorEq, Bool.false_eq_true, Bool.not_true, Bool.not_false, Bool.not_eq_true, decide_eq_true_eq, decide_not, Bool.not_eq_eq_eq_not, maxl_num, Int.reduceEq, Int.reduceLT, Int.reduceLE, Int.reduceNeg, Int.reduceToNat, decide_true, decide_false, Bool.true_and, Bool.false_and, Bool.and_true, Bool.and_false, Bool.not_true, Bool.not_false, not_true_eq_false, not_false_eq_true, Nat.reduceEqDiff, nc0, nc1, nc2, nc3, nc4, nc5, nc6, nc7, nc8, nc9, nc10, nc11, nc12, g0, g1, g2, g3, g4, callAt, callLow, CLk, told_ok, told_x0, told_x1, told_x2, told_x3, told_x4, dd] <;> rfl) (sr_ ?_))))
  cases res with
  | none =>
    have rr : C 57 9 [.str t] = .exc 1 := rr
    have cs : cmpD .eq (.tup [.str [114, 101, 102, 117, 115, 101, 100], .int 1]) (.tup [.str [114, 101, 102, 117, 115, 101, 100], .int 1]) = .ok (.bl true) := cmp_self rfl
    have i1 : ∀ a b : D, idxD (.lst [a, b]) (.int 1) = .ok b := fun _ _ => rfl
    simp (disch := first | omega | assumption | (simp only [List.length_cons, List.length_nil, List.length_append, List.length_replicate, List.length_take, List.length_drop]; omega)) only [den, dens, deno, denc, deni, denS, denSs, fin_nx, fin_rt, Res.bind_ok, Res.bind_exc, truth, partD, getV, setV, setAll, storeT, wipeV, binD_add, binD_sub, binD_mul, binD_fdiv, binD_mod, cmp_lt, cmp_le, cmp_gt, cmp_ge, cmp_eqi, cmp_nei, cmp_eqb, cmp_neb, cmp_eqs, cmp_nes, cmp_is, cmp_isNot, isn_int, isn_non, isn_tup, isn_lst, isn_str, isTy, isFn, ix0, ix1, ix2, ix3, ix4, ix5, ixm1, blt_lenc, blt_lent, blt_lenl, blt_lens, blt_abs, blt_inti, blt_intb, blt_tupt, blt_tupl, blt_lstt, blt_lstl, blt_max, blt_min, slice_tup, slice_lst, List.length_cons, List.length_nil, Nat.reduceAdd, Nat.reduceLeDiff, ↓reduceIte, reduceCtorEq, Bool.false_eq_true, Bool.not_true, Bool.not_false, Bool.not_eq_true, decide_eq_true_eq, decide_not, Bool.not_eq_eq_eq_not, maxl_num, Int.reduceEq, Int.reduceLT, Int.reduceLE, Int.reduceNeg, Int.reduceToNat, decide_true, decide_false, Bool.true_and, Bool.false_and, Bool.and_true, Bool.and_false, Bool.not_true, Bool.not_false, not_true_eq_false, not_false_eq_true, Nat.reduceEqDiff, nc0, nc1, nc2, nc3, nc4, nc5, nc6, nc7, nc8, nc9, nc10, nc11, nc12, g0, g1, g2, g3, g4, callAt, callLow, CLk, told_ok, told_x0, told_x1, told_x2, told_x3, told_x4, rr, optN, i1, cs] <;> rfl
  | some g =>
    have rr : C 57 9 [.str t] = .ok (nD g) := rr
    have cs : cmpD .eq (.tup [.str [116, 111, 108, 100], nD g]) (.tup [.str [116, 111, 108, 100], nD g]) = .ok (.bl true) := cmp_self rfl
    have i0 : ∀ a b : D, idxD (.lst [a, b]) (.int 0) = .ok a := fun _ _ => rfl
    unfold nD at *
    simp (disch := first | omega | assumption | (simp only [List.length_cons, List.length_nil, List.length_append, List.length_replicate, List.length_take, List.length_drop]; omega)) only [den, dens, deno, denc, deni, denS, denSs, fin_nx, fin_rt, Res.bind_ok, Res.bind_exc, truth, partD, getV, setV, setAll, storeT, wipeV, binD_add, binD_sub, binD_mul, binD_fdiv, binD_mod, cmp_lt, cmp_le, cmp_gt, cmp_ge, cmp_eqi, cmp_nei, cmp_eqb, cmp_neb, cmp_eqs, cmp_nes, cmp_is, cmp_isNot, isn_int, isn_non, isn_tup, isn_lst, isn_str, isTy, isFn, ix0, ix1, ix2, ix3, ix4, ix5, ixm1, blt_lenc, blt_lent, blt_lenl, blt_lens, blt_abs, blt_inti, blt_intb, blt_tupt, blt_tupl, blt_lstt, blt_lstl, blt_max, blt_min, slice_tup, slice_lst, List.length_cons, List.length_nil, Nat.reduceAdd, Nat.reduceLeDiff, ↓reduceIte, reduceCtorEq, Bool.false_eq_true, Bool.not_true, Bool.not_false, Bool.not_eq_true, decide_eq_true_eq, decide_not, Bool.not_eq_eq_eq_not, maxl_num, Int.reduceEq, Int.reduceLT, Int.reduceLE, Int.reduceNeg, Int.reduceToNat, decide_true, decide_false, Bool.true_and, Bool.false_and, Bool.and_true, Bool.and_false, Bool.not_true, Bool.not_false, not_true_eq_false, not_false_eq_true, Nat.reduceEqDiff, nc0, nc1, nc2, nc3, nc4, nc5, nc6, nc7, nc8, nc9, nc10, nc11, nc12, g0, g1, g2, g3, g4, callAt, callLow, CLk, told_ok, told_x0, told_x1, told_x2, told_x3, told_x4, rr, optN, nD, i0, cs] <;> rfl

end Ev.K03
set_option Elab.async false
set_option linter.all false
set_option maxRecDepth 100000
set_option maxHeartbeats 4000000
namespace Ev.K03
open PySem PySem.Spec PyProof.Rows L2
def fa : List He.Fa := faOf DS CN BN GS true
def fn : List He.DefD := DS.map DD.at_
abbrev R : PySem.W.OpenRow := PySem.W.OpenLaw.row PySem.Challenge.rw_pocketpile_k03_whole_read
abbrev hk : PySem.W.Hook := He.hookX 4 fa fn (tsOf GS) (tfOf DS) (exAll DS CN GS true)
def loose : List Str := (["PileError", "TooGreat", "NoText", "NoDeed", "NoKey", "NoRoom", "MOST", "HIGHEST", "is_whole", "ten", "figures_of", "height", "is_number", "LEAST_PLAIN", "MOST_PLAIN", "plain_text", "written", "FIGURES", "whole_of", "from_plain", "read", "_law_cell_at", "_law_mixed", "_law_drawn", "_law_ten", "_law_height", "_law_tidy", "_law_number", "_law_is_number", "_law_text"] : List Str) ++ (["_law_told", "_law_changed", "_law_due"] : List Str)
def ob (s : PySem.W.SharedT) : He.AlX := He.obsX 4 fa fn (tsOf GS) (tfOf DS) (exAll DS CN GS true) (HandSHeadRun.getT s)
theorem ob_eq (s : PySem.W.SharedT) : ob s = hk.obs s.abs := He.obsX_eq (HandSHeadRun.getT_eq s)
theorem run (w : World) : HandSHeadRun.RunEq R (PySem.W.view R.prog [38]) hk ob 3000 loose w := by
  intro os
  kernel_rfl
theorem facts {P : Program} {w : World} {K : PySem.W.Frag} {h : Heap} {mg : Str → Option Value} {f : Addr} (X : K.In h) (G : h.Ns mainGlobals mg) (hfa : mg ("law" : Str) = some (.ref f)) (c : He.SaysX fa fn (tsOf GS) (tfOf DS) (exAll DS CN GS true) w h K) :
    ∃ fd : FuncData, (∀ (s : Shared) (u : Value), BindsTo s fd ⟨[u], []⟩ [("_law_script", u)]) ∧ ∀ base : Heap, K.In base → base.Ns mainGlobals mg → (∀ p ∈ (tfOf DS).map (He.cT K), LamX.TabB base mg p.1 p.2) → FnOk P w K mg base (L2.CX P w) 60 f fd ["_law_script"] (spF (gxOf K mg DS CN (tabOf K (tfOf DS))) (C 60) 22) := by
  have F := facts_of (told := true) X G c.t (by decide) c.more dd_ok args_ok told_in
  have hm : D22 ∈ DS := List.mem_of_getElem? (i := 22) rfl
  obtain ⟨fd, h3⟩ := c.t.d.defs (List.mem_map_of_mem (f := DD.at_) hm)
  have e := hfa.symm.trans (He.glo_ok X G (c.t.d.fact 22 (f := .glo "law") rfl))
  cases e
  have b := FunD.bindsA (ps := ["_law_script"]) h3 fun _ _ _ _ _ _ us hl => match us, hl with | [_], _ => a22 _ _ _ _ _ _ _ rfl
  have lm := fun z => lamd_of (told := true) X G c.t c.more told_in args_ok hm h3 z
  exact ⟨fd, fun s v => b s [v] rfl, fun base hb hn TB => all_okD (P := P) (w := w) (base := base) F TB 60 22 "law" _ fd F22 (st 38) ["_law_script", "_law_number_here", "_law_text_here", "_law_k", "_law_due_here"] ["_law_script"] true rfl h3 (dd_def dd_ok hm) lm⟩
end Ev.K03
open PySem PySem.W PySem.Calls PyProof.Rows
theorem PySem.Challenge.cw_pocketpile_k03_whole_read_holds : PySem.Challenge.rw_pocketpile_k03_whole_read.Holds := by
  w_on; o_law
  refine HandSHeadRun.head_any (r := OpenLaw.row PySem.Challenge.rw_pocketpile_k03_whole_read) (q := view (OpenLaw.row PySem.Challenge.rw_pocketpile_k03_whole_read).prog [38]) (H := Ev.K03.hk) (ob := Ev.K03.ob) (M := 3000) (loose := Ev.K03.loose) (d := HandSHeadRun.topDef (OpenLaw.row PySem.Challenge.rw_pocketpile_k03_whole_read).prog 38) (kwd := []) Ev.K03.ob_eq
    (by kernel_rfl) (fun s => by kernel_rfl) Ev.K03.run (by kernel_rfl) (by kernel_rfl) (by kernel_rfl) (by rfl) (by first | assumption | decide +kernel) (by decide +kernel) ⟨rfl, rfl, rfl, rfl, rfl, by decide +kernel⟩ ?hw ?hc
  case hw => w_witness2
  case hc =>
    refine Ev.walkT (l := PySem.Challenge.rw_pocketpile_k03_whole_read) (n := 63) (k := 60) (x := "_law_script") (CX := L2.CX (PySem.Challenge.rw_pocketpile_k03_whole_read).prog) rfl (by decide) (by kernel_rfl) ⟨rfl, by decide, by decide⟩ ?F (fun _ _ _ _ _ z => Ev.cx_none z)
    intro w mg fa h Y G hmg0
    obtain ⟨K, KX, c⟩ := Y
    have hmg : mg ("law" : PySem.Str) = some (.ref fa) := by
      have e : (HandSHeadRun.topDef (OpenLaw.row PySem.Challenge.rw_pocketpile_k03_whole_read).prog 38).name = ("law" : PySem.Str) := by kernel_rfl
      rw [← e]
      exact hmg0
    obtain ⟨fd, hb, hF⟩ := Ev.K03.facts (P := (PySem.Challenge.rw_pocketpile_k03_whole_read).prog) (w := w) KX G hmg c
    refine ⟨K, (Ev.tfOf Ev.K03.DS).map (He.cT K), fd, _, KX, fun p hp => ?_, fun p hp => ?_, fun p hp => ?_, hb, fun H a ns hl hH hS => ?_, hF⟩
    · obtain ⟨q, hq, rfl⟩ := List.mem_map.mp hp
      exact c.empty q hq
    · obtain ⟨q, hq, rfl⟩ := List.mem_map.mp hp
      exact c.out q hq
    · obtain ⟨q, hq, rfl⟩ := List.mem_map.mp hp
      exact PySem.W.codeHd_of_K KX (c.hd q hq)
    · refine Ev.law_spT (fun p hp => ?_) hS (Ev.K03.law_true ns hl)
      obtain ⟨q, hq, rfl⟩ := List.mem_map.mp hp
      exact LamX.TabS.nil (hH _ (List.mem_map.mpr ⟨q, hq, rfl⟩))
