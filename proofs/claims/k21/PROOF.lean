import PyProof.Rows.All
import Wide.All
import OpenK.AllK
import Wide.FinOn
import KE.DataEq
import KE.DataFind
import KE.DataIsa
import KE.DataAny
import KE.DataMinMax
import KE.SortData
import KE.LtData
import HandS.ForMost
import HandS.TupAny
import HandS.TupMul
import KE.KEqDict
import HandS.ListEq
import PyProof.EqKinds
import HandS.ForExc
import HandS.EndTab
import KE.GoesEnum
import HandS.Zip
import HandS.Walk
import PyProof.Rows.IntBool
import HandS.Style
import KE.KSortAsk
import HandS.Flow
import HandS.Rev
import HandS.ExcOwn
import HandS.Dict
import HandS.ExcInit
import HandS.ExcField
import KE.KExcIs
import HandS.Defaults
import HandS.Words
import HandS.HeadWalk
import HandS.Small
import HandS.ExcIs
import HandS.HotCalls
import HandS.Lambda
import HandS.Head0
import HandS.Head1
import HandS.Head2
import HandS.HeadHook1
import HandS.HeadHook2
import HandS.HeadHook3
import HandS.HeadHook4
import HandS.EndBits
import PyProof.ExcBaseAll.ValueError
import PySem.Challenge.RW_shellturns_k21_courses_break_or_sell
set_option Elab.async false
set_option linter.all false
set_option maxRecDepth 100000
section

/-! Values, the small language, what it computes. -/
namespace Tv
open PySem

/-- a value as the small language sees it -/
inductive D where
  | non | bl (b : Bool) | int (i : Int) | str (s : Str)
  | tup (xs : List D) | lst (xs : List D) | dct (kvs : List (Int × Int))
  | bor (xs : List D) | scr (xs : List D) | ref (i : Nat) | exc (c : Nat) (p : D)
deriving Inhabited

mutual
def D.py : D → PyData
  | .non => .none | .bl b => .bool b | .int i => .int i | .str s => .str s
  | .tup xs => .tuple (D.pys xs) | .lst xs => .list (D.pys xs) | .bor xs => .list (D.pys xs) | .scr xs => .list (D.pys xs)
  | .dct kvs => .dict (kvs.map fun p => (.int p.1, .int p.2))
  | .ref _ => .none | .exc _ _ => .none
def D.pys : List D → List PyData
  | [] => []
  | x :: xs => D.py x :: D.pys xs
end
mutual
/-- nothing of one's own within (no object of the heap, no exception, nothing borrowed) -/
def D.pl : D → Bool
  | .non => true | .bl _ => true | .int _ => true | .str _ => true
  | .tup xs => D.pls xs | .lst xs => D.pls xs | .bor _ => false | .scr _ => false
  | .dct _ => true | .ref _ => false | .exc _ _ => false
def D.pls : List D → Bool
  | [] => true
  | x :: xs => D.pl x && D.pls xs
end
/-- what an operation may read: plain, or a borrowed list of plain things -/
def D.rd : D → Bool
  | .bor xs => D.pls xs
  | .scr xs => D.pls xs
  | d => D.pl d
/-- what may be kept in another thing -/
def D.keep : D → Bool
  | .bor _ => false
  | .scr _ => false
  | _ => true
def D.flat : D → Bool
  | .non => true | .bl _ => true | .int _ => true | .str _ => true
  | _ => false

theorem D.pys_map : ∀ xs : List D, D.pys xs = xs.map D.py
  | [] => rfl
  | x :: xs => by rw [D.pys, D.pys_map xs]; rfl
theorem D.pls_all : ∀ xs : List D, D.pls xs = xs.all D.pl
  | [] => rfl
  | x :: xs => by rw [D.pls, D.pls_all xs]; rfl

abbrev LIM : Nat := 16777216

inductive Ob where
  | lst (xs : List D)
  | ins (c : Nat) (fs : List (Str × D))
abbrev Hs := List Ob

inductive R (α : Type) where
  | ok (a : α) (h : Hs) | exc (x : D) (h : Hs) | bad

def R.bind {α β : Type} (r : R α) (f : α → Hs → R β) : R β := match r with
  | .ok a h => f a h
  | .exc x h => .exc x h
  | .bad => .bad
theorem R.bind_assoc {α β γ : Type} (r : R α) (f : α → Hs → R β) (g : β → Hs → R γ) : (r.bind f).bind g = r.bind fun a h => (f a h).bind g := by
  cases r <;> rfl
/-- where nothing may be raised -/
def R.calm {α : Type} : R α → R α
  | .ok a h => .ok a h
  | _ => .bad
@[simp] theorem R.bind_ok {α β : Type} (a : α) (h : Hs) (f : α → Hs → R β) : (R.ok a h).bind f = f a h := rfl
@[simp] theorem R.bind_exc {α β : Type} (x : D) (h : Hs) (f : α → Hs → R β) : (R.exc (α := α) x h).bind f = .exc x h := rfl
@[simp] theorem R.bind_bad {α β : Type} (f : α → Hs → R β) : (R.bad (α := α)).bind f = .bad := rfl
@[simp] theorem R.calm_ok {α : Type} (a : α) (h : Hs) : (R.ok a h).calm = .ok a h := rfl
def R.of {α : Type} (o : Option α) (h : Hs) : R α := match o with
  | some a => .ok a h
  | none => .bad
@[simp] theorem R.of_some {α : Type} (a : α) (h : Hs) : R.of (some a) h = .ok a h := rfl
@[simp] theorem R.of_none {α : Type} (h : Hs) : R.of (none : Option α) h = .bad := rfl

/-- a def's names -/
inductive Sl where
  | u | v (d : D) | o (xs : List D) | k (t : Bool) (kvs : List (D × D))
abbrev Ev := List Sl
def Ev.get : Ev → Nat → Sl
  | [], _ => .u
  | x :: _, 0 => x
  | _ :: r, n + 1 => Ev.get r n
def Ev.put : Ev → Nat → Sl → Ev
  | [], _, _ => []
  | _ :: r, 0, y => y :: r
  | x :: r, n + 1, y => x :: Ev.put r n y
def Ev.wipe (e : Ev) : List Nat → Ev
  | [] => e
  | i :: is => (Ev.wipe e is).put i .u

/-! ### operations on values -/
inductive Bop where
  | add | sub | mul | fdiv | mod | pow
inductive Cop where
  | eq | ne | lt | le | gt | ge | isin | notin | isN | notN | eq0 | notB
inductive Ty where
  | int | bool | tuple | str | list | exc (c : Nat) | value
inductive Bi where
  | len | all | any | abs | divmod | int | list | tuple | max1 | max2 | min2 | rep | str | sum | sorted | index | count | join

def b2 (b : Bool) : Int := if b then 1 else 0
def D.i? : D → Option Int
  | .int i => some i
  | .bl b => some (b2 b)
  | _ => none
/-- a list or a tuple -/
def D.sq? : D → Option (List D)
  | .lst xs => some xs
  | .bor xs => some xs
  | .scr xs => some xs
  | .tup xs => some xs
  | _ => none
/-- a list -/
def D.ls? : D → Option (List D)
  | .lst xs => some xs
  | .bor xs => some xs
  | .scr xs => some xs
  | _ => none
/-- a list, our own -/
def D.la? : D → Option (List D)
  | .lst xs => some xs
  | .bor xs => some xs
  | _ => none
def ofLen (n : Nat) (d : D) : Option D := if n ≤ LIM then some d else none
def dAdd : D → D → Option D
  | .int i, .int j => some (.int (i + j))
  | .bl i, .int j => some (.int (b2 i + j))
  | .int i, .bl j => some (.int (i + b2 j))
  | .str x, .str y => ofLen (x.length + y.length) (.str (x ++ y))
  | .tup xs, .tup ys => ofLen (xs.length + ys.length) (.tup (xs ++ ys))
  | a, b => (match a.la?, b.la? with
    | some xs, some ys => ofLen (xs.length + ys.length) (.lst (xs ++ ys))
    | _, _ => none)
def dSub : D → D → Option D
  | .int i, .int j => some (.int (i - j))
  | .bl i, .int j => some (.int (b2 i - j))
  | .int i, .bl j => some (.int (i - b2 j))
  | _, _ => none
def dMul : D → D → Option D
  | .int i, .int j => if (-(2 ^ 64) < i ∧ i < 2 ^ 64) ∨ (-(2 ^ 64) < j ∧ j < 2 ^ 64) then some (.int (i * j)) else none
  | .lst xs, .int j => if 0 ≤ j ∧ j ≤ 1000 ∧ xs.length ≤ 1000 then some (.lst (List.replicate j.toNat xs).flatten) else none
  | .tup xs, .int j => if xs.isEmpty = false ∧ 1 ≤ j ∧ j ≤ 1000 ∧ xs.length ≤ 1000 then some (.tup (List.replicate j.toNat xs).flatten) else if xs.isEmpty = true ∧ 0 ≤ j ∧ j ≤ 1000 then some (.tup []) else none
  | _, _ => none
def dDiv : D → D → Option D
  | .int i, .int j => if 0 < j ∧ j < 1073741824 then some (.int (i / j)) else none
  | _, _ => none
def dMod : D → D → Option D
  | .int i, .int j => if 0 < j then some (.int (i % j)) else none
  | _, _ => none
def dPow : D → D → Option D
  | .int i, .int j => if 0 ≤ j ∧ j ≤ 1000000 ∧ i.natAbs < 2 ^ 64 then some (.int (i ^ j.toNat)) else none
  | _, _ => none
def dBin : Bop → D → D → Option D
  | .add => dAdd | .sub => dSub | .mul => dMul | .fdiv => dDiv | .mod => dMod | .pow => dPow

def D.sound (d : D) : Bool := d.rd && PyData.plain d.py && decide (PyData.depth d.py ≤ 60)
def dEq (a b : D) : Option Bool := if a.sound && b.sound then some (PyData.eqv a.py b.py) else none
def dCmpI (p : Int → Int → Bool) : D → D → Option Bool
  | .int i, .int j => some (p i j)
  | _, _ => none
def dLt : D → D → Option Bool
  | .int i, .int j => some (decide (i < j))
  | .tup xs, .tup ys => if (D.tup xs).sound && (D.tup ys).sound && W.alike (D.tup xs).py (D.tup ys).py then some (W.dataLt (D.tup xs).py (D.tup ys).py) else none
  | _, _ => none
def dIn : D → D → Option Bool
  | .str x, .str y => some (!(Builtin.Str.occurrences y x 0 y.length 1).isEmpty)
  | d, c => (match c.sq? with
    | some xs => if d.sound && c.sound then some (xs.any fun z => PyData.eqv z.py d.py) else none
    | none => none)
def dIsN : D → Bool
  | .non => true
  | _ => false
/-- the empty tuple -/
def pyE : PyData → Bool
  | .tuple [] => true
  | _ => false
def dEq0 (a b : D) : Option Bool := match b with
  | .tup [] => if a.rd then some (pyE a.py) else none
  | _ => none
def dNotB : D → D → Option Bool
  | .bl a, .bl b => some (!decide (a = b))
  | _, _ => none
def dCmp (o : Cop) (a b : D) : Option Bool := match o with
  | .eq => dEq a b
  | .ne => (dEq a b).map (!·)
  | .lt => dLt a b
  | .le => dCmpI (fun i j => decide (i ≤ j)) a b
  | .gt => dCmpI (fun i j => decide (j < i)) a b
  | .ge => dCmpI (fun i j => decide (j ≤ i)) a b
  | .isin => dIn a b
  | .notin => (dIn a b).map (!·)
  | .isN => if dIsN b then some (dIsN a) else none
  | .notN => if dIsN b then some (!dIsN a) else none
  | .eq0 => dEq0 a b
  | .notB => dNotB a b
/-- truth -/
def D.tru : D → Option Bool
  | .non => some false
  | .bl b => some b
  | .int i => some (i != 0)
  | .str s => if s.length ≤ LIM then some (s.length != 0) else none
  | .tup xs => some (!xs.isEmpty)
  | .lst xs => some (!xs.isEmpty)
  | .bor xs => some (!xs.isEmpty)
  | .scr xs => some (!xs.isEmpty)
  | _ => none
def dIsi (t : Ty) (d : D) : Option Bool := match t with
  | .int => (match d with
    | .int _ => some true | .bl _ => some true | .exc _ _ => none | .ref _ => none | _ => some false)
  | .bool => (match d with
    | .bl _ => some true | .exc _ _ => none | .ref _ => none | _ => some false)
  | .tuple => (match d with
    | .tup _ => some true | .exc _ _ => none | .ref _ => none | _ => some false)
  | .str => (match d with
    | .str _ => some true | .exc _ _ => none | .ref _ => none | _ => some false)
  | .list => (match d with
    | .lst _ => some true | .bor _ => some true | .scr _ => some true | .exc _ _ => none | .ref _ => none | _ => some false)
  | .exc c => (match d with
    | .exc c' _ => some (c == c' || c == 0) | _ => none)
  | .value => (match d with
    | .exc _ _ => some true | _ => none)
def dIx (d e : D) : Option D := match e with
  | .int i => (match d with
    | .str s => if s.length ≤ LIM then (L2.atI s.cps.toList i).map fun c => .str ⟨#[c]⟩ else none
    | d => (match d.sq? with
      | some xs => L2.atI xs i
      | none => none))
  | _ => none
/-- the items from lo to hi, as the layer's cutV -/
def cutD {α : Type} (xs : List α) (lo hi : Option Int) : List α := (xs.drop (HT.sIx xs.length 0 lo)).take (HT.sIx xs.length xs.length hi - HT.sIx xs.length 0 lo)
def dSl (d : D) (lo hi : Option Int) : Option D := match d with
  | .tup xs => some (.tup (cutD xs lo hi))
  | d => d.ls?.map fun xs => .lst (cutD xs lo hi)
def oI : D → Option Int
  | .int i => some i
  | _ => none
def dRev : D → Option D
  | .tup xs => some (.tup xs.reverse)
  | d => d.ls?.map fun xs => .lst xs.reverse
def allB : List D → Option (List Bool)
  | [] => some []
  | .bl b :: r => (allB r).map (b :: ·)
  | _ :: _ => none
def allI : List D → Option (List Int)
  | [] => some []
  | .int i :: r => (allI r).map (i :: ·)
  | _ :: _ => none
def allS : List D → Option (List Str)
  | [] => some []
  | .str s :: r => (allS r).map (s :: ·)
  | _ :: _ => none
/-- what repr shows -/
def D.shows (d : D) : Bool := d.rd && PyData.showable d.py && decide (PyData.depth d.py ≤ 60) && decide ((PyData.shown d.py).length ≤ LIM)
/-- what sorted takes here: ints, or tuples, of one make -/
def isTupD : D → Bool
  | .tup _ => true
  | _ => false
def isNonD : D → Bool
  | .non => true
  | _ => false
def sortsOk (xs : List D) : Bool := (xs.all isTupD || xs.all fun x => !isTupD x && !isNonD x) && D.pls xs && decide (xs.length ≤ 10000) && (xs.all fun x => decide (PyData.depth x.py ≤ 60) && xs.all fun y => W.alike x.py y.py) &&
  ((xs.all fun x => match x with
    | .int _ => true
    | _ => false) || xs.all fun x => match x with
    | .tup _ => true
    | _ => false)
def maxL : Int → List Int → Int
  | m, [] => m
  | m, x :: xs => maxL (if m < x then x else m) xs
def ar1 (f : D → Option D) : List D → Option D
  | [x] => f x
  | _ => none
def ar2 (f : D → D → Option D) : List D → Option D
  | [x, y] => f x y
  | _ => none
def dLen (d : D) : Option D := match d with
  | .str s => if s.length ≤ LIM then some (.int s.length) else none
  | d => d.sq?.map fun xs => .int xs.length
def onL (f : List D → Option D) (d : D) : Option D := match d.ls? with
  | some xs => f xs
  | none => none
def onQ (f : List D → Option D) (d : D) : Option D := match d.sq? with
  | some xs => f xs
  | none => none
def dAbs : D → Option D
  | .int i => some (.int (if i < 0 then -i else i))
  | _ => none
def dDivmod : D → D → Option D
  | .int i, .int j => if 0 < j ∧ j < 1073741824 then some (.tup [.int (i / j), .int (i % j)]) else none
  | _, _ => none
def dInt : D → Option D
  | .int i => some (.int i)
  | .bl b => some (.int (b2 b))
  | _ => none
def dMaxL (xs : List D) : Option D := match allI xs with
  | some (i :: is) => some (.int (maxL i is))
  | _ => none
def dMax2 : D → D → Option D
  | .int i, .int j => some (.int (if j > i then j else i))
  | _, _ => none
def dMin2 : D → D → Option D
  | .int i, .int j => some (.int (if j < i then j else i))
  | _, _ => none
def dRep (d : D) : Option D := if d.shows then some (.str (PyData.shown d.py)) else none
def dStr : D → Option D
  | .int i => if i.natAbs.log2 < 1920 then some (.str (toString i)) else none
  | .bl b => some (.str (if b then "True" else "False"))
  | _ => none
def dIndex (d x : D) : Option D := match d.la? with
  | some xs => if d.sound && x.sound then (xs.findIdx? fun z => PyData.eqv z.py x.py).map fun (i : Nat) => .int i else none
  | none => none
def dCount (d x : D) : Option D := match d.ls? with
  | some xs => if d.sound && x.sound then some (.int (xs.countP fun z => PyData.eqv z.py x.py)) else none
  | none => none
def dJoin (s d : D) : Option D := match s, d.ls? with
  | .str s, some xs => (match allS xs with
    | some ss => if (ss.map (·.length)).sum + ss.length * s.length ≤ LIM then some (.str (Txt.join s ss)) else none
    | none => none)
  | _, _ => none
def dBi : Bi → List D → Option D
  | .len => ar1 dLen
  | .all => ar1 (onL fun xs => (allB xs).map fun bs => .bl (bs.all id))
  | .any => ar1 (onL fun xs => (allB xs).map fun bs => .bl (bs.any id))
  | .abs => ar1 dAbs
  | .divmod => ar2 dDivmod
  | .int => ar1 dInt
  | .list => ar1 fun d => d.sq?.map .lst
  | .tuple => ar1 fun d => d.sq?.map .tup
  | .max1 => ar1 (onL dMaxL)
  | .max2 => ar2 dMax2
  | .min2 => ar2 dMin2
  | .rep => ar1 dRep
  | .str => ar1 dStr
  | .sum => ar1 (onL fun xs => (allI xs).map fun is => .int is.sum)
  | .sorted => ar1 (onQ fun xs => if sortsOk xs then some (.lst (xs.mergeSort (W.dataLe false D.py))) else none)
  | .index => ar2 dIndex
  | .count => ar2 dCount
  | .join => ar2 dJoin
/-- the receiver of a method -/
def rcvOk (b : Bi) (d : D) : Bool := match b with
  | .join => (match d with
    | .str _ => true
    | _ => false)
  | _ => d.ls?.isSome
end Tv
end

section

/-! Things against the empty tuple. -/
namespace Tv
open Lean Elab Tactic Meta PySem PySem.Calls PyProof.Rows PyProof.V PySem.Spec PySem.W PySem.SeqAt
theorem tuple_eq_declines_dict (l b : Addr) (items : Array Value) (n : Nat) (d2 : Data) (dd dd2 : Option Addr) (sl sl2 : Array (Option Value)) :
    Meets (Builtin.«tuple.__eq__» ⟨[.ref l, .ref b], []⟩) (fun _ R s => s.heap.get? l = some { cls := .type "tuple", dict := dd, data := .seq items n, slots := sl } ∧ s.heap.get? b = some { cls := .type "dict", dict := dd2, data := d2, slots := sl2 } ∧ R (.ok (.ret .notImplemented)) s) :=
  .of_wp fun prog w A R s h => by obtain ⟨hp, g, d, tk, os⟩ := s; obtain ⟨hl, hb, h⟩ := h; have f1 := PySem.F.sub_dict_tuple; wp_walk using wpAny_loadPart' hl, wpAny_loadPart' hb; exact ⟨_, rfl, h⟩
section
variable {prog : Program} {w : World} {A : Around} {E : Value → Shared → Prop} {s : Shared}
theorem dict_eq_declines {a b : Addr} (ta : s.TypeIs (.ref a) "dict") (tb : s.TypeIs (.ref b) "tuple") {Q : Value → Shared → Prop} (h : Q .notImplemented s) : wpAny (model prog w) A (call (.builtin "dict.__eq__") [.ref a, .ref b]) Q E s := by
  refine wpAny_call_entry PySem.F.slot_dict_eq ta PySem.F.entry_dict_eq ?_ (PySem.F.args_dict_eq_2 _ _)
  show wpAny _ _ (Builtin.Dict.dictSlotArgs "__eq__" ⟨[.ref a, .ref b], []⟩ >>= _) _ _ s
  refine wpAny_bind ?_
  unfold Builtin.Dict.dictSlotArgs
  refine wpAny_bind (wpAny_notOrdered_dict ta ?_)
  show wpAny _ _ (pure (Value.ref a, Value.ref b)) _ _ s
  refine wpAny_pure ?_
  refine wpAny_bind (wpAny_isInstance tb PySem.F.sub_tuple_dict ?_)
  simp only [Bool.not_false, if_true]
  exact wpAny_bind (wpAny_rule (wpAny_pure ⟨_, rfl, h⟩))
theorem rcAt_dict_tuple {a b : Addr} {o : Obj} {items : Array Value} (ho : s.heap.get? a = some o) (hc : o.cls = .type "dict") (hb : s.heap.IsTuple b items) (hu : A.units < cLine) : RcAt A s (.ref a) (.ref b) false := fun prog w E Q h => by
  obtain ⟨cls, dd, data, sl⟩ := o
  obtain ⟨⟨cls2, dd2, data2, sl2⟩, ho2, hc2, n2, hd2⟩ := id hb
  simp only at hc hc2 hd2
  subst hc hc2 hd2
  have hne : a ≠ b := fun e => by
    subst e
    rw [ho] at ho2
    have z := congrArg Obj.cls (Option.some.inj ho2)
    exact absurd z (by simp)
  exact (rc_eq_decline_or (k := false) ⟨_, ho, rfl⟩ ⟨_, ho2, rfl⟩ (by decide) PySem.F.sub_tuple_dict PySem.F.slot_dict_eq PySem.F.slot_tuple_eq_refl
    (fun _ hq => dict_eq_declines ⟨_, ho, rfl⟩ ⟨_, ho2, rfl⟩ hq)
    (fun _ hq => call_meets PySem.F.slot_tuple_eq_refl ⟨_, ho2, rfl⟩ PySem.F.entry_tuple_eq (PySem.F.args_tuple_eq_2 _ _) (tuple_eq_declines_dict b a items n2 data dd2 dd sl2 sl) ⟨ho2, ho, hq⟩)
    (fun _ hq => wpAny_isSame_ref_other hne ho ho2 (by simp) hq) (.inr hu) h)
theorem rcAt_empty {a : Value} {l : Addr} {da : PyData} {as : List Addr} {items : Array Value} (ra : Reads s.heap a da as) (hl : s.heap.IsTuple l items) (h0 : items.size = 0) (hu : A.units < cLine) : RcAt A s a (.ref l) (pyE da) := by
  cases ra with
  | none => exact RcAt.none_tuple hl hu
  | bool x => exact RcAt.bool_tuple x hl hu
  | int x t => exact RcAt.int_tuple x t hl hu
  | str x t => exact RcAt.str_tuple x t hl hu
  | list h1 h2 h3 h4 => exact RcAt.list_tuple ⟨_, h1, h2, _, h3⟩ hl hu
  | dict h1 h2 h3 h4 h5 => exact rcAt_dict_tuple h1 h2 hl hu
  | @tuple l' o vs n xs as₁ h1 h2 h3 h4 =>
    have n1 : vs.size = xs.length := by simpa using ReadsAll.length _ _ _ h4
    have q := RcAt.tuples (e := fun _ => true) ⟨_, h1, h2, _, h3⟩ hl hu (fun j j1 j2 => by omega)
    have e : ((List.range (min vs.size items.size)).all (fun _ => true) && vs.size == items.size) = pyE (.tuple xs) := by
      rw [h0, n1]
      cases xs with
      | nil => rfl
      | cons x xs => simp [pyE]
    rw [e] at q
    exact q
end
end Tv
end

section

/-! The small language: its trees, what they compute. -/
namespace Tv
open PySem

/-- a target -/
inductive T where
  | n (i : Nat) | t (is : List Nat)
mutual
inductive E where
  | c (d : D) | g (x : Str) (d : D) | v (i : Nat)
  | bin (o : Bop) (a b : E) | neg (a : E)
  | not (a : E) | and (a b : E) | or (a b : E) | ite (c a b : E)
  | cmp (o : Cop) (a b : E) | chn (o p : Cop) (a b c : E)
  | call (f : Nat) (es : Es) | cld (f : Nat) (es : Es) (i : Int)
  | bi (b : Bi) (es : Es)
  | me (m : Bi) (a b : E)
  | isi (a : E) (t : Ty)
  | ix (a b : E) | sl (a lo hi : E) | slf (a lo : E) | slt (a hi : E) | rev (a : E)
  | tup (es : Es) | lst (es : Es) | mls (es : Es) | dic (kvs : List (Int × Int))
  | comp (it : It) (t : T) (w : List Nat) (cnd elt : E)
  | said (a : E)
  | kg (i : Nat) (a : E) | kin (n : Bool) (i : Nat) (a : E)
  | nv
inductive Es where
  | nil | cons (e : E) (es : Es)
inductive It where
  | seq (e : E) | rng (e : E) | rngs (a b : E) | rng3 (a b c : E) | zip (a b : E) | enm (a : E)
end
/-- a target among several -/
inductive Tg where
  | n (i : Nat) | r (a : E) (b : E)
mutual
inductive S where
  | set (i : Nat) (e : E)
  | own (i : Nat) (e : E)
  | ownd (i : Nat) (tk : Bool)
  | unp (is : List Nat) (e : E)
  | par (i : Nat) (oi : Bool) (j : Nat) (oj : Bool) (a b : E)
  | sd2 (a b : E) (i : Nat) (e : E)
  | sr (a b e : E)
  | si (i : Nat) (b e : E)
  | sk (i : Nat) (b e : E)
  | app (i : Nat) (e : E) | ext (i : Nat) (e : E) | pop (i : Nat) | popu (i : Nat) (is : List Nat)
  | ex (e : E)
  | ite (c : E) (a b : Ss)
  | for (it : It) (t : T) (b : Ss)
  | whl (c : E) (b : Ss)
  | ret (e : E) | retN | retP (e : E) | pard (i j : Nat) (tk : Bool) (a : E) | par3 (i j l : Nat) (a : E)
  | rai (c : Nat) (e : E) | raiB (e : E) | ownf (i f : Nat) (es : Es)
  | frz (i : Nat) | mv (i j : Nat)
  | nv
inductive Ss where
  | nil | cons (s : S) (r : Ss)
end

inductive Fl where
  | nx (e : Ev) | rt (d : D)

def putT (t : T) (d : D) (e : Ev) : Option Ev := match t with
  | .n i => if d.keep then some (e.put i (.v d)) else none
  | .t is => (match d with
    | .tup xs => if xs.length = is.length then some ((is.zip xs).foldl (fun e p => e.put p.1 (.v p.2)) e) else none
    | _ => none)
def rangeL (lo : Int) : Nat → List D
  | 0 => []
  | n + 1 => .int lo :: rangeL (lo + 1) n
def inB (i : Int) : Bool := decide (-(2 ^ 62) ≤ i ∧ i < 2 ^ 62)
def itRng (a b : D) : Option (List D) := match a, b with
  | .int i, .int j => if inB i && inB j && decide ((j - i).toNat ≤ 1000000) then some (rangeL i (j - i).toNat) else none
  | _, _ => none
def downL (hi : Int) : Nat → List D
  | 0 => []
  | n + 1 => .int hi :: downL (hi - 1) n
def itDown (a b c : D) : Option (List D) := match a, b, c with
  | .int i, .int j, .int k => if inB i && inB j && decide (k = -1) && decide ((i - j).toNat ≤ 1000000) then some (downL i (i - j).toNat) else none
  | _, _, _ => none
def zipD : List D → List D → List D
  | x :: xs, y :: ys => .tup [x, y] :: zipD xs ys
  | _, _ => []
def itZip (a b : D) : Option (List D) := match a, b with
  | .tup xs, .tup ys => some (zipD xs ys)
  | a, b => (match a.ls?, b.ls? with
    | some xs, some ys => some (zipD xs ys)
    | _, _ => none)
def enmD (i : Nat) : List D → List D
  | [] => []
  | x :: xs => .tup [.int i, x] :: enmD (i + 1) xs
def isBor : D → Bool
  | .bor _ => true
  | _ => false
def nb (t : Bool) (d : D) : Option D := if t && isBor d then none else some d
def itSeq (d : D) : Option (List D) := match d with
  | .str s => some (s.cps.toList.map fun c => .str ⟨#[c]⟩)
  | d => d.sq?
def compL (f : D → Hs → R (Option D)) : List D → Hs → R (List D)
  | [], h => .ok [] h
  | x :: xs, h => (f x h).bind fun o h => (compL f xs h).bind fun ys h => .ok (match o with | some y => y :: ys | none => ys) h
/-- a list's store -/
def setL {α : Type} (xs : List α) (i : Int) (x : α) : Option (List α) := (L2.ixN xs.length i).map fun j => xs.set j x
def kEq : D → D → Bool
  | .int i, .int j => i == j
  | .tup xs, .tup ys => PyData.eqvAll (D.pys xs) (D.pys ys)
  | _, _ => false
def kPut (k d : D) (kvs : List (D × D)) : List (D × D) := if (kvs.any fun p => kEq p.1 k) = true then kvs.map (fun p => if kEq p.1 k = true then (p.1, d) else p) else kvs ++ [(k, d)]
def isIT : D → Bool
  | .int _ => true
  | .tup xs => xs.all fun x => match x with
    | .int _ => true
    | _ => false
  | _ => false
/-- a key of the dict's make -/
def kOk (t : Bool) (d : D) : Bool := match t, d with
  | false, .int _ => true
  | true, .tup xs => xs.all fun x => match x with
    | .int _ => true
    | _ => false
  | _, _ => false
def kGet (kvs : List (D × D)) (k : D) : Option D := (kvs.find? fun p => kEq p.1 k).map (·.2)
def evV (e : Ev) (i : Nat) : Option D := match e.get i with
  | .v d => some d
  | .o xs => some (.bor xs)
  | _ => none
/-- what the text of an error is -/
def wordOf : D → Str
  | .exc c p => if c = 16 then "! broken " ++ PyData.shown p.py else
    "! " ++ ((["grounds", "standing", "catch", "course", "bed", "number", "book", "deed", "there", "gone", "lacking", "nothing", "many", "text", "word"] : List Str).getD (c - 1) "none of them")
  | _ => "! none of them"
def wordFits : D → Bool
  | .exc c p => (decide (1 ≤ c) && decide (c ≤ 15)) || (decide (c = 16) && p.shows && decide ((PyData.shown p.py).length ≤ 1000))
  | _ => false
mutual
/-- nothing that may change within -/
def D.tt : D → Bool
  | .non => true | .bl _ => true | .int _ => true | .str _ => true
  | .tup xs => D.tts xs
  | _ => false
def D.tts : List D → Bool
  | [] => true
  | x :: xs => D.tt x && D.tts xs
end
/-- a call whose list is the asker's own -/
def fClf (F : List D → Hs → R D) (ds : List D) (h : Hs) : R D := if D.tts ds = true then (match F ds [] with
    | .ok (.lst xs) [] => if D.tts xs = true then .ok (.lst xs) h else .bad
    | _ => .bad) else .bad

/-- what a name holds behind its store: owned or not -/
def slOf (o : Bool) (d : D) : Option Sl := if o then (match d with
  | .lst xs => some (.o xs)
  | _ => none) else if d.keep then some (.v d) else none

section
variable (cl : Nat → List D → Hs → R D)
mutual
def evE : E → Ev → Hs → R D
  | .c d, _, h => .ok d h
  | .g _ d, _, h => .ok d h
  | .v i, e, h => R.of (evV e i) h
  | .bin o a b, e, h => (evE a e h).bind fun x h => (evE b e h).bind fun y h => R.of (dBin o x y) h
  | .neg a, e, h => (evE a e h).bind fun x h => match x with
    | .int i => .ok (.int (-i)) h
    | _ => .bad
  | .not a, e, h => (evE a e h).bind fun x h => R.of (x.tru.map fun b => .bl (!b)) h
  | .and a b, e, h => (evE a e h).bind fun x h => match x.tru with
    | some true => evE b e h
    | some false => .ok x h
    | none => .bad
  | .or a b, e, h => (evE a e h).bind fun x h => match x.tru with
    | some true => .ok x h
    | some false => evE b e h
    | none => .bad
  | .ite c a b, e, h => (evE c e h).bind fun x h => match x.tru with
    | some true => evE a e h
    | some false => evE b e h
    | none => .bad
  | .cmp o a b, e, h => (evE a e h).bind fun x h => (evE b e h).bind fun y h => R.of ((dCmp o x y).map .bl) h
  | .chn o p a b c, e, h => (evE a e h).bind fun x h => (evE b e h).bind fun y h => match dCmp o x y with
    | some true => (evE c e h).bind fun z h => R.of ((dCmp p y z).map .bl) h
    | some false => .ok (.bl false) h
    | none => .bad
  | .call f es, e, h => (evEs es e h).bind fun ds h => cl f ds h
  | .cld f es i, e, h => (evEs es e h).bind fun ds h => cl f (ds ++ [.int i]) h
  | .bi b es, e, h => (evEs es e h).bind fun ds h => R.of (dBi b ds) h
  | .me m a b, e, h => (evE a e h).bind fun x h => if rcvOk m x then (evE b e h).bind fun y h => R.of (dBi m [x, y]) h else .bad
  | .isi a t, e, h => (evE a e h).bind fun x h => R.of ((dIsi t x).map .bl) h
  | .ix a b, e, h => (evE a e h).bind fun x h => (evE b e h).bind fun y h => (match x with
    | .ref i => (match h[i]? with
      | some (.lst xs) => (match y with
        | .int j => R.of (L2.atI xs j) h
        | _ => .bad)
      | _ => .bad)
    | x => R.of (dIx x y) h)
  | .sl a lo hi, e, h => (evE a e h).bind fun x h => (evE lo e h).bind fun y h => (match y with
    | .int i => (evE hi e h).bind fun z h => (match z with
      | .int j => R.of (dSl x (some i) (some j)) h
      | _ => .bad)
    | _ => .bad)
  | .slf a lo, e, h => (evE a e h).bind fun x h => (evE lo e h).bind fun y h => (match y with
    | .int i => R.of (dSl x (some i) none) h
    | _ => .bad)
  | .slt a hi, e, h => (evE a e h).bind fun x h => (evE hi e h).bind fun z h => (match z with
    | .int j => R.of (dSl x none (some j)) h
    | _ => .bad)
  | .rev a, e, h => (evE a e h).bind fun x h => R.of (dRev x) h
  | .tup es, e, h => (evEs es e h).bind fun ds h => if ds.all D.keep then .ok (.tup ds) h else .bad
  | .lst es, e, h => (evEs es e h).bind fun ds h => if ds.all D.keep then .ok (.lst ds) h else .bad
  | .mls es, e, h => (evEs es e h).bind fun ds h => if ds.all D.keep then .ok (.ref h.length) (h ++ [.lst ds]) else .bad
  | .dic kvs, _, h => .ok (.dct kvs) h
  | .comp it t w cnd elt, e, h => (evI false it e h).bind fun xs h => if xs.length ≤ LIM then (compL (fun x h => match putT t x (e.wipe w) with
      | none => .bad
      | some e' => (evE cnd e' h).bind fun c h => match c.tru with
        | some true => (evE elt e' h).bind fun y h => if y.keep then .ok (some y) h else .bad
        | some false => .ok none h
        | none => .bad) xs h).calm.bind fun ys h => .ok (.lst ys) h else .bad
  | .said a, e, h => match evE a e h with
    | .ok d h => if d.shows then .ok (.str (PyData.shown d.py)) h else .bad
    | .exc x h => if wordFits x then .ok (.str (wordOf x)) h else .bad
    | .bad => .bad
  | .kg i a, e, h => (match e.get i with
    | .k t kvs => (evE a e h).bind fun y h => if kOk t y then R.of (kGet kvs y) h else .bad
    | _ => .bad)
  | .kin n i a, e, h => (evE a e h).bind fun y h => (match e.get i with
    | .k t kvs => if kOk t y then .ok (.bl (n != (kGet kvs y).isSome)) h else .bad
    | _ => .bad)
  | .nv, _, _ => .bad
def evEs : Es → Ev → Hs → R (List D)
  | .nil, _, h => .ok [] h
  | .cons a r, e, h => (evE a e h).bind fun x h => (evEs r e h).bind fun xs h => .ok (x :: xs) h
def evI (st : Bool) : It → Ev → Hs → R (List D)
  | .seq a, e, h => (evE a e h).bind fun x h => R.of ((nb st x).bind itSeq) h
  | .rng a, e, h => (evE a e h).bind fun x h => R.of (itRng (.int 0) x) h
  | .rngs a b, e, h => (evE a e h).bind fun x h => (evE b e h).bind fun y h => R.of (itRng x y) h
  | .rng3 a b c, e, h => (evE a e h).bind fun x h => (evE b e h).bind fun y h => (evE c e h).bind fun z h => R.of (itDown x y z) h
  | .zip a b, e, h => (evE a e h).bind fun x h => (evE b e h).bind fun y h => R.of ((nb st x).bind fun x => (nb st y).bind fun y => itZip x y) h
  | .enm a, e, h => (evE a e h).bind fun x h => R.of ((nb st x).bind fun x => x.sq?.map (enmD 0)) h
end

def R.fl (r : R Fl) (f : Ev → Hs → R Fl) : R Fl := match r with
  | .ok (.nx e) h => f e h
  | .ok (.rt d) h => .ok (.rt d) h
  | .exc x h => .exc x h
  | .bad => .bad
@[simp] theorem R.fl_nx (e : Ev) (h : Hs) (f : Ev → Hs → R Fl) : (R.ok (Fl.nx e) h).fl f = f e h := rfl
@[simp] theorem R.fl_rt (d : D) (h : Hs) (f : Ev → Hs → R Fl) : (R.ok (Fl.rt d) h).fl f = .ok (.rt d) h := rfl
@[simp] theorem R.fl_exc (x : D) (h : Hs) (f : Ev → Hs → R Fl) : (R.exc x h).fl f = .exc x h := rfl
@[simp] theorem R.fl_bad (f : Ev → Hs → R Fl) : (R.bad).fl f = .bad := rfl
def forL (f : D → Ev → Hs → R Fl) : List D → Ev → Hs → R Fl
  | [], e, h => .ok (.nx e) h
  | x :: xs, e, h => (f x e h).fl fun e h => forL f xs e h
def whlL (c : Ev → Hs → R Bool) (b : Ev → Hs → R Fl) : Nat → Ev → Hs → R Fl
  | 0, _, _ => .bad
  | n + 1, e, h => (c e h).bind fun t h => if t then (b e h).fl fun e h => whlL c b n e h else .ok (.nx e) h
/-- at the end of a def nothing is borrowed any more -/
def Sl.fin : Sl → Sl
  | .o xs => .v (.lst xs)
  | .k _ _ => .u
  | s => s
def Ev.fin (e : Ev) : Ev := e.map Sl.fin
abbrev turns : Nat := 1000000
mutual
def exS : S → Ev → Hs → R Fl
  | .set i a, e, h => (evE cl a e h).bind fun x h => if x.keep then .ok (.nx (e.put i (.v x))) h else .bad
  | .own i a, e, h => (evE cl a e h).bind fun x h => (match x with
    | .lst xs => if xs.all D.keep then .ok (.nx (e.put i (.o xs))) h else .bad
    | _ => .bad)
  | .ownd i tk, e, h => .ok (.nx (e.put i (.k tk []))) h
  | .unp is a, e, h => (evE cl a e h).bind fun x h => match putT (.t is) x e with
    | some e' => .ok (.nx e') h
    | none => .bad
  | .par i oi j oj a b, e, h => (evE cl a e h).bind fun x h => (evE cl b e h).bind fun y h => (match oi, oj with
    | false, false => if x.keep && y.keep then .ok (.nx ((e.put i (.v x)).put j (.v y))) h else .bad
    | true, false => (match x with
      | .lst xs => if xs.all D.keep && y.keep then .ok (.nx ((e.put i (.o xs)).put j (.v y))) h else .bad
      | _ => .bad)
    | false, true => (match y with
      | .lst ys => if x.keep && ys.all D.keep then .ok (.nx ((e.put i (.v x)).put j (.o ys))) h else .bad
      | _ => .bad)
    | true, true => (match x, y with
      | .lst xs, .lst ys => if xs.all D.keep && ys.all D.keep then .ok (.nx ((e.put i (.o xs)).put j (.o ys))) h else .bad
      | _, _ => .bad))
  | .pard i j tk a, e, h => (evE cl a e h).bind fun x h => (match x with
    | .lst xs => if xs.all D.keep then .ok (.nx ((e.put i (.o xs)).put j (.k tk []))) h else .bad
    | _ => .bad)
  | .retP a, e, h => (evE cl a e h).bind fun x h => if x.keep then .ok (.rt x) h else .bad
  | .par3 i j l a, e, h => (evE cl a e h).bind fun x h => if x.keep then .ok (.nx (((e.put i (.o [])).put j (.o [])).put l (.v x))) h else .bad
  | .sd2 a b i c, e, h => (evE cl c e h).bind fun z h => (match z with
    | .tup [p, q] => (evE cl a e h).bind fun x h => (evE cl b e h).bind fun y h => (match x, y with
      | .ref r, .int j => (match h[r]? with
        | some (.lst xs) => (match setL xs j p with
          | some ys => .ok (.nx (e.put i (.v q))) (h.set r (.lst ys))
          | none => .bad)
        | _ => .bad)
      | _, _ => .bad)
    | _ => .bad)
  | .sr a b c, e, h => (evE cl c e h).bind fun z h => (evE cl a e h).bind fun x h => (evE cl b e h).bind fun y h => (match x, y with
    | .ref r, .int j => if z.keep then (match h[r]? with
      | some (.lst xs) => (match setL xs j z with
        | some ys => .ok (.nx e) (h.set r (.lst ys))
        | none => .bad)
      | _ => .bad) else .bad
    | _, _ => .bad)
  | .si i b c, e, h => (match e.get i with
    | .o xs => (evE cl c e h).bind fun z h => (evE cl b e h).bind fun y h => (match y with
      | .int j => if z.keep then (match setL xs j z with
        | some ys => .ok (.nx (e.put i (.o ys))) h
        | none => .bad) else .bad
      | _ => .bad)
    | _ => .bad)
  | .sk i b c, e, h => (match e.get i with
    | .k t kvs => (evE cl c e h).bind fun z h => (evE cl b e h).bind fun y h => if z.keep && kOk t y && decide (kvs.length < 100000) then .ok (.nx (e.put i (.k t (kPut y z kvs)))) h else .bad
    | _ => .bad)
  | .app i a, e, h => (match e.get i with
    | .o xs => (evE cl a e h).bind fun x h => if x.keep && decide (xs.length < LIM) then .ok (.nx (e.put i (.o (xs ++ [x])))) h else .bad
    | _ => .bad)
  | .ext i a, e, h => (match e.get i with
    | .o xs => (evE cl a e h).bind fun x h => (match x with
      | .lst ys => if ys.all D.keep && decide (xs.length + ys.length ≤ LIM) then .ok (.nx (e.put i (.o (xs ++ ys)))) h else .bad
      | _ => .bad)
    | _ => .bad)
  | .pop i, e, h => (match e.get i with
    | .o xs => if xs.isEmpty then .bad else .ok (.nx (e.put i (.o xs.dropLast))) h
    | _ => .bad)
  | .popu i is, e, h => (match e.get i with
    | .o (x :: xs) => (match putT (.t is) x (e.put i (.o xs)) with
      | some e' => .ok (.nx e') h
      | none => .bad)
    | _ => .bad)
  | .ex a, e, h => (evE cl a e h).bind fun _ h => .ok (.nx e) h
  | .ite c a b, e, h => (evE cl c e h).bind fun x h => match x.tru with
    | some true => exB a e h
    | some false => exB b e h
    | none => .bad
  | .for it t b, e, h => (evI cl true it e h).bind fun xs h => forL (fun x e h => match putT t x e with
      | none => .bad
      | some e' => exB b e' h) xs e h
  | .whl c b, e, h => whlL (fun e h => (evE cl c e h).bind fun x h => R.of x.tru h) (fun e h => exB b e h) turns e h
  | .ret a, e, h => (evE cl a e.fin h).bind fun x h => if x.keep then .ok (.rt x) h else .bad
  | .retN, _, h => .ok (.rt .non) h
  | .rai c a, e, h => (evE cl a e h).bind fun x h => .exc (.exc c x) h
  | .raiB a, e, h => (evE cl a e h).bind fun x h => (match x with
    | .int i => .exc (.exc 16 (.int i)) h
    | _ => .bad)
  | .ownf i f es, e, h => ((evEs cl es e h).bind (fClf (cl f))).bind fun x h => (match x with
    | .lst xs => if xs.all D.keep then .ok (.nx (e.put i (.o xs))) h else .bad
    | _ => .bad)
  | .frz i, e, h => (match e.get i with
    | .o xs => .ok (.nx (e.put i (.v (.lst xs)))) h
    | _ => .bad)
  | .mv i j, e, h => (match e.get j with
    | .o xs => .ok (.nx ((e.put j .u).put i (.o xs))) h
    | _ => .bad)
  | .nv, _, _ => .bad
def exB : Ss → Ev → Hs → R Fl
  | .nil, e, h => .ok (.nx e) h
  | .cons s r, e, h => (exS s e h).fl fun e h => exB r e h
end
end
def R.out (r : R Fl) : R D := match r with
  | .ok (.nx _) h => .ok .non h
  | .ok (.rt d) h => .ok d h
  | .exc x h => .exc x h
  | .bad => .bad

/-- a def: how many parameters, how many names, its rows -/
structure Fn where
  np : Nat
  nn : Nat
  body : Ss
def startE (n : Nat) (ds : List D) : Ev := ds.map Sl.v ++ List.replicate (n - ds.length) .u
/-- what a def is handed in: borrowed things to be read alone -/
def D.hand : D → D
  | .bor xs => .scr xs
  | d => d
def runF (P : Nat → Option Fn) : Nat → Nat → List D → Hs → R D
  | 0, _, _, _ => .bad
  | k + 1, f, ds, h => match P f with
    | none => .bad
    | some fn => if ds.length = fn.np then
        (exB (runF P k) fn.body (startE fn.nn (ds.map D.hand)) h).out
      else .bad
end Tv
end

section
set_option autoImplicit false
set_option maxHeartbeats 1000000
/-! How the small language's values lie in the layer's heap. -/
namespace Tv
open PySem PySem.Spec PyProof.Rows L2

/-- what may change: the heap's own objects, the lists that names own; pr: what is not ours to touch -/
structure Wd where
  hp : List Addr
  ow : List (Option Addr)
  pr : Addr → Prop
def Wd.forb (w : Wd) (a : Addr) : Prop := a ∈ w.hp ∨ some a ∈ w.ow ∨ w.pr a

mutual
inductive VR (K : PySem.W.Frag) (w : Wd) (H : Hp) : D → V → Prop
  | non : VR K w H .non .non
  | bl (b : Bool) : VR K w H (.bl b) (.bl b)
  | int (i : Int) : VR K w H (.int i) (.int i)
  | str (s : Str) : VR K w H (.str s) (.str s)
  | tup {a : Addr} {xs : List V} {ds : List D} : H a = some (.tup xs) → VRs K w H ds xs → VR K w H (.tup ds) (.ref a)
  | lst {a : Addr} {xs : List V} {ds : List D} : ¬ w.forb a → H a = some (.lst xs) → VRs K w H ds xs → VR K w H (.lst ds) (.ref a)
  | dct {a : Addr} {kvs : List (Int × Int)} : ¬ w.forb a → (kvs.map (·.1)).Nodup → H a = some (.dK (kvs.map fun p => (Sum.inl p.1, V.int p.2))) → VR K w H (.dct kvs) (.ref a)
  | ref {i : Nat} {a : Addr} : w.hp[i]? = some a → VR K w H (.ref i) (.ref a)
inductive VRs (K : PySem.W.Frag) (w : Wd) (H : Hp) : List D → List V → Prop
  | nil : VRs K w H [] []
  | cons {d : D} {v : V} {ds : List D} {vs : List V} : VR K w H d v → VRs K w H ds vs → VRs K w H (d :: ds) (v :: vs)
end

/-- a list of the base's own -/
def KL (K : PySem.W.Frag) (a : Addr) (xs : List V) : Prop := ∃ (o : Obj) (its : Array Value) (n : Nat), K.lookup a = some o ∧ o.cls = .type "list" ∧ o.dict = none ∧ o.data = .seq its n ∧ its.size ≤ sizeLine ∧ Vals xs its.toList
/-- what a name may hold: a list that is not ours may be read -/
inductive VS (K : PySem.W.Frag) (w : Wd) (H : Hp) : D → V → Prop
  | of {d : D} {v : V} : VR K w H d v → VS K w H d v
  | scr {a : Addr} {xs : List V} {ds : List D} : a ∉ w.hp → some a ∉ w.ow → Rd H a (.lst xs) → VRs K w H ds xs → VS K w H (.scr ds) (.ref a)
  | scrK {a : Addr} {xs : List V} {ds : List D} : KL K a xs → VRs K w H ds xs → VS K w H (.scr ds) (.ref a)
/-- what an expression gives: a list that a name owns may be read -/
inductive VT (K : PySem.W.Frag) (w : Wd) (H : Hp) : D → V → Prop
  | of {d : D} {v : V} : VS K w H d v → VT K w H d v
  | bor {a : Addr} {xs : List V} {ds : List D} : some a ∈ w.ow → a ∉ w.hp → H a = some (.lst xs) → VRs K w H ds xs → VT K w H (.bor ds) (.ref a)
inductive VTs (K : PySem.W.Frag) (w : Wd) (H : Hp) : List D → List V → Prop
  | nil : VTs K w H [] []
  | cons {d : D} {v : V} {ds : List D} {vs : List V} : VT K w H d v → VTs K w H ds vs → VTs K w H (d :: ds) (v :: vs)

/-- from one state to a later one, the names' own lists as they were -/
structure Ext (w : Wd) (H : Hp) (w' : Wd) (H' : Hp) : Prop where
  pre : ∃ n, w'.hp = w.hp ++ n ∧ ∀ a ∈ n, H a = none
  ow : w'.ow = w.ow
  pr : ∀ a, w.pr a → w'.pr a
  prf : ∀ a, w'.pr a → w.pr a ∨ H a = none
  keep : ∀ a o, H a = some o → a ∉ w.hp → (∀ ps, o ≠ .tbl ps) → H' a = some o
  tups : ∀ a xs, H a = some (.tup xs) → H' a = some (.tup xs)
  dom : ∀ a, H' a = none → H a = none

variable {K : PySem.W.Frag}

theorem Ext.refl (w : Wd) (H : Hp) : Ext w H w H := ⟨⟨[], by simp, fun _ h => by cases h⟩, rfl, fun _ h => h, fun _ h => .inl h, fun _ _ h _ _ => h, fun _ _ h => h, fun _ h => h⟩
theorem Ext.trans {w w1 w2 : Wd} {H H1 H2 : Hp} (a : Ext w H w1 H1) (b : Ext w1 H1 w2 H2) : Ext w H w2 H2 := by
  obtain ⟨n1, e1, f1⟩ := a.pre
  obtain ⟨n2, e2, f2⟩ := b.pre
  refine ⟨⟨n1 ++ n2, by rw [e2, e1, List.append_assoc], fun c hc => ?_⟩, b.ow.trans a.ow, fun c h => b.pr c (a.pr c h), fun c h => ?_, fun c o h hn ht => ?_, fun c xs h => b.tups c xs (a.tups c xs h), fun c h => a.dom c (b.dom c h)⟩
  · rcases List.mem_append.mp hc with h | h
    · exact f1 c h
    · exact a.dom c (f2 c h)
  · rcases b.prf c h with q | q
    · exact a.prf c q
    · exact .inr (a.dom c q)
  · refine b.keep c o (a.keep c o h hn ht) ?_ ht
    rw [e1]
    intro hm
    rcases List.mem_append.mp hm with q | q
    · exact hn q
    · rw [f1 c q] at h; cases h
theorem Ext.forb {w w' : Wd} {H H' : Hp} (e : Ext w H w' H') {a : Addr} (h : w'.forb a) : w.forb a ∨ H a = none := by
  obtain ⟨n, e1, f⟩ := e.pre
  rcases h with h | h | h
  · rw [e1] at h
    rcases List.mem_append.mp h with q | q
    · exact .inl (.inl q)
    · exact .inr (f a q)
  · rw [e.ow] at h; exact .inl (.inr (.inl h))
  · rcases e.prf a h with q | q
    · exact .inl (.inr (.inr q))
    · exact .inr q

/-- from one state to a later one, by whatever -/
structure ExtS (w : Wd) (H : Hp) (w' : Wd) (H' : Hp) : Prop where
  pre : ∃ n, w'.hp = w.hp ++ n ∧ ∀ a ∈ n, H a = none
  fo : ∀ a, w'.forb a → w.forb a ∨ H a = none
  keep : ∀ a o, H a = some o → a ∉ w.hp → some a ∉ w.ow → (∀ ps, o ≠ .tbl ps) → H' a = some o
  tups : ∀ a xs, H a = some (.tup xs) → H' a = some (.tup xs)
  mi : ∀ a, some a ∈ w'.ow → some a ∈ w.ow ∨ H a = none
  pr : ∀ a, w.pr a → w'.pr a
  dom : ∀ a, H' a = none → H a = none
theorem Ext.s {w w' : Wd} {H H' : Hp} (e : Ext w H w' H') : ExtS w H w' H' := ⟨e.pre, fun _ => e.forb, fun a o h1 h2 _ h3 => e.keep a o h1 h2 h3, e.tups, fun a h => .inl (by rw [← e.ow]; exact h), e.pr, e.dom⟩
theorem ExtS.refl (w : Wd) (H : Hp) : ExtS w H w H := (Ext.refl w H).s
theorem ExtS.trans {w w1 w2 : Wd} {H H1 H2 : Hp} (a : ExtS w H w1 H1) (b : ExtS w1 H1 w2 H2) : ExtS w H w2 H2 := by
  obtain ⟨n1, e1, f1⟩ := a.pre
  obtain ⟨n2, e2, f2⟩ := b.pre
  refine ⟨⟨n1 ++ n2, by rw [e2, e1, List.append_assoc], fun c hc => ?_⟩, fun c h => ?_, fun c o h hn hm ht => ?_, fun c xs h => b.tups c xs (a.tups c xs h), fun c h => ?_, fun c h => b.pr c (a.pr c h), fun c h => a.dom c (b.dom c h)⟩
  · rcases List.mem_append.mp hc with h | h
    · exact f1 c h
    · exact a.dom c (f2 c h)
  · rcases b.fo c h with q | q
    · exact a.fo c q
    · exact .inr (a.dom c q)
  · refine b.keep c o (a.keep c o h hn hm ht) ?_ (fun z => ?_) ht
    · rw [e1]
      intro q
      rcases List.mem_append.mp q with q | q
      · exact hn q
      · rw [f1 c q] at h; cases h
    · rcases a.mi c z with q | q
      · exact hm q
      · rw [q] at h; cases h
  · rcases b.mi c h with q | q
    · exact a.mi c q
    · exact .inr (a.dom c q)
mutual
theorem VR.exts {w w' : Wd} {H H' : Hp} (e : ExtS w H w' H') : ∀ {d : D} {v : V}, VR K w H d v → VR K w' H' d v
  | _, _, .non => .non
  | _, _, .bl b => .bl b
  | _, _, .int i => .int i
  | _, _, .str s => .str s
  | _, _, .tup (a := a) q r => by
    exact .tup (e.tups _ _ q) (VRs.exts e r)
  | _, _, .lst (a := a) n q r => by
    refine .lst (fun z => ?_) (e.keep _ _ q (fun z => n (.inl z)) (fun z => n (.inr (.inl z))) fun ps e => by cases e) (VRs.exts e r)
    rcases e.fo a z with z | z
    · exact n z
    · rw [z] at q; cases q
  | _, _, .dct (a := a) n nd q => by
    refine .dct (fun z => ?_) nd (e.keep _ _ q (fun z => n (.inl z)) (fun z => n (.inr (.inl z))) fun ps e => by cases e)
    rcases e.fo a z with z | z
    · exact n z
    · rw [z] at q; cases q
  | _, _, .ref q => by
    obtain ⟨m, e, _⟩ := e.pre
    refine .ref ?_
    rw [e, List.getElem?_append_left (List.getElem?_eq_some_iff.mp q).1]
    exact q
theorem VRs.exts {w w' : Wd} {H H' : Hp} (e : ExtS w H w' H') : ∀ {ds : List D} {vs : List V}, VRs K w H ds vs → VRs K w' H' ds vs
  | _, _, .nil => .nil
  | _, _, .cons a b => .cons (VR.exts e a) (VRs.exts e b)
end
theorem not_pre {w w' : Wd} {H : Hp} (h : ∃ n, w'.hp = w.hp ++ n ∧ ∀ a ∈ n, H a = none) {a : Addr} (hn : a ∉ w.hp) (ha : H a ≠ none) : a ∉ w'.hp := by
  obtain ⟨m, e, f⟩ := h
  rw [e]
  intro z
  rcases List.mem_append.mp z with z | z
  · exact hn z
  · exact ha (f a z)
theorem Rd.some {H : Hp} {a : Addr} {u : HO} (h : Rd H a u) : H a ≠ none := by
  rcases h with h | ⟨o, h⟩ <;> rw [h] <;> simp
theorem VS.exts {w w' : Wd} {H H' : Hp} (e : ExtS w H w' H') {d : D} {v : V} (h : VS K w H d v) : VS K w' H' d v := by
  cases h with
  | of h => exact .of (h.exts e)
  | scrK q r => exact .scrK q (r.exts e)
  | @scr a xs ds n1 n2 q r =>
    refine .scr (not_pre e.pre n1 (Rd.some q)) (fun z => ?_) ?_ (r.exts e)
    · rcases e.mi a z with z | z
      · exact n2 z
      · exact Rd.some q z
    · rcases q with q | ⟨o, q⟩
      · exact .inl (e.keep _ _ q n1 n2 fun ps e => by cases e)
      · exact .inr ⟨o, e.keep _ _ q n1 n2 fun ps e => by cases e⟩
theorem VR.ext {w w' : Wd} {H H' : Hp} (e : Ext w H w' H') {d : D} {v : V} (h : VR K w H d v) : VR K w' H' d v := h.exts e.s
theorem VRs.ext {w w' : Wd} {H H' : Hp} (e : Ext w H w' H') {ds : List D} {vs : List V} (h : VRs K w H ds vs) : VRs K w' H' ds vs := h.exts e.s
theorem VS.ext {w w' : Wd} {H H' : Hp} (e : Ext w H w' H') {d : D} {v : V} (h : VS K w H d v) : VS K w' H' d v := h.exts e.s
theorem VT.ext {w w' : Wd} {H H' : Hp} (e : Ext w H w' H') {d : D} {v : V} (h : VT K w H d v) : VT K w' H' d v := by
  cases h with
  | of h => exact .of (h.ext e)
  | @bor a xs ds m n q r => exact .bor (by rw [e.ow]; exact m) (not_pre e.pre n (by rw [q]; simp)) (e.keep _ _ q n fun ps e => by cases e) (r.ext e)
theorem VTs.ext {w w' : Wd} {H H' : Hp} (e : Ext w H w' H') : ∀ {ds : List D} {vs : List V}, VTs K w H ds vs → VTs K w' H' ds vs
  | _, _, .nil => .nil
  | _, _, .cons a r => .cons (a.ext e) (r.ext e)
theorem VT.keep {w : Wd} {H : Hp} {d : D} {v : V} (h : VT K w H d v) (k : d.keep = true) : VR K w H d v := by
  cases h with
  | of h =>
    cases h with
    | of h => exact h
    | scr => cases k
    | scrK => cases k
  | bor => cases k
theorem VTs.keep {w : Wd} {H : Hp} : ∀ {ds : List D} {vs : List V}, VTs K w H ds vs → ds.all D.keep = true → VRs K w H ds vs
  | _, _, .nil, _ => .nil
  | _, _, .cons a r, k => by
    rw [List.all_cons, Bool.and_eq_true] at k
    exact .cons (a.keep k.1) (r.keep k.2)
theorem VTs.of {w : Wd} {H : Hp} : ∀ {ds : List D} {vs : List V}, VRs K w H ds vs → VTs K w H ds vs
  | _, _, .nil => .nil
  | _, _, .cons a r => .cons (.of (.of a)) (VTs.of r)
/-- a list that may be read -/
theorem VT.ls {w : Wd} {H : Hp} {d : D} {v : V} (h : VT K w H d v) {ds : List D} (k : d.ls? = some ds) : ∃ a xs, v = .ref a ∧ SqL K H a xs ∧ VRs K w H ds xs := by
  cases h with
  | of h =>
    cases h with
    | of h =>
      cases h with
      | lst n q r => cases k; exact ⟨_, _, rfl, .inl (.inl q), r⟩
      | _ => cases k
    | scr n1 n2 q r => cases k; exact ⟨_, _, rfl, .inl q, r⟩
    | scrK q r => cases k; exact ⟨_, _, rfl, .inr q, r⟩
  | bor m n q r => cases k; exact ⟨_, _, rfl, .inl (.inl q), r⟩
theorem VT.la {w : Wd} {H : Hp} {d : D} {v : V} (h : VT K w H d v) {ds : List D} (k : d.la? = some ds) : ∃ a xs, v = .ref a ∧ Rd H a (.lst xs) ∧ VRs K w H ds xs := by
  cases h with
  | of h =>
    cases h with
    | of h =>
      cases h with
      | lst n q r => cases k; exact ⟨_, _, rfl, .inl q, r⟩
      | _ => cases k
    | scr n1 n2 q r => cases k
    | scrK q r => cases k
  | bor m n q r => cases k; exact ⟨_, _, rfl, .inl q, r⟩
theorem VT.sq {w : Wd} {H : Hp} {d : D} {v : V} (h : VT K w H d v) {ds : List D} (k : d.sq? = some ds) : ∃ a xs, v = .ref a ∧ (SqL K H a xs ∨ SqT K H a xs) ∧ VRs K w H ds xs := by
  cases h with
  | of h =>
    cases h with
    | of h =>
      cases h with
      | lst n q r => cases k; exact ⟨_, _, rfl, .inl (.inl (.inl q)), r⟩
      | tup q r => cases k; exact ⟨_, _, rfl, .inr (.inl (.inl q)), r⟩
      | _ => cases k
    | scr n1 n2 q r => cases k; exact ⟨_, _, rfl, .inl (.inl q), r⟩
    | scrK q r => cases k; exact ⟨_, _, rfl, .inl (.inr q), r⟩
  | bor m n q r => cases k; exact ⟨_, _, rfl, .inl (.inl (.inl q)), r⟩

theorem VT.sqS {w : Wd} {H : Hp} {d : D} {v : V} (h : VT K w H d v) {ds : List D} (k : d.sq? = some ds) : ∃ a xs, v = .ref a ∧ (SqL K H a xs ∨ H a = some (.tup xs)) ∧ VRs K w H ds xs := by
  cases h with
  | of h =>
    cases h with
    | of h =>
      cases h with
      | lst n q r => cases k; exact ⟨_, _, rfl, .inl (.inl (.inl q)), r⟩
      | tup q r => cases k; exact ⟨_, _, rfl, .inr q, r⟩
      | _ => cases k
    | scr n1 n2 q r => cases k; exact ⟨_, _, rfl, .inl (.inl q), r⟩
    | scrK q r => cases k; exact ⟨_, _, rfl, .inl (.inr q), r⟩
  | bor m n q r => cases k; exact ⟨_, _, rfl, .inl (.inl (.inl q)), r⟩

/-- an object of the small heap -/
def OR (K : PySem.W.Frag) (w : Wd) (H : Hp) (a : Addr) : Ob → Prop
  | .lst ds => ∃ xs, H a = some (.lst xs) ∧ VRs K w H ds xs ∧ ds.all D.keep = true
  | .ins _ _ => False
structure HR (K : PySem.W.Frag) (w : Wd) (h : Hs) (H : Hp) : Prop where
  len : w.hp.length = h.length
  nd : w.hp.Nodup
  ob : ∀ (i : Nat) (a : Addr) (o : Ob), w.hp[i]? = some a → h[i]? = some o → OR K w H a o
  sep : ∀ a : Addr, a ∈ w.hp → some a ∉ w.ow ∧ ¬ w.pr a
  prd : ∀ a, w.pr a → H a ≠ none
theorem HR.there {w : Wd} {h : Hs} {H : Hp} (r : HR K w h H) {a : Addr} (m : a ∈ w.hp) : ∃ xs, H a = some (.lst xs) := by
  obtain ⟨i, hi⟩ := List.mem_iff_getElem?.mp m
  have hl : i < h.length := by rw [← r.len]; exact (List.getElem?_eq_some_iff.mp hi).1
  have q := r.ob i a h[i] hi (List.getElem?_eq_getElem hl)
  cases e : h[i] with
  | lst ds => rw [e] at q; obtain ⟨xs, q, _⟩ := q; exact ⟨xs, q⟩
  | ins c fs => rw [e] at q; exact q.elim
def KR1 (K : PySem.W.Frag) (w : Wd) (H : Hp) (p : D × D) (q : Key × V) : Prop := ∃ i, p.1 = .int i ∧ q.1 = Sum.inl i ∧ VR K w H p.2 q.2
def KR2 (K : PySem.W.Frag) (w : Wd) (H : Hp) (p : D × D) (q : List Key × V) : Prop := ∃ is : List Int, p.1 = .tup (is.map .int) ∧ q.1 = is.map Sum.inl ∧ VR K w H p.2 q.2
/-- what a dict holds -/
def KvR (K : PySem.W.Frag) (w : Wd) (H : Hp) (kvs : List (D × D)) : Bool → HO → Prop
  | false, o => ∃ ks, o = .dK ks ∧ Paired (KR1 K w H) kvs ks
  | true, o => ∃ ks, o = .dT ks ∧ Paired (KR2 K w H) kvs ks
theorem KvR.mapP {w w' : Wd} {H H' : Hp} (f : ∀ {d : D} {v : V}, VR K w H d v → VR K w' H' d v) {kvs : List (D × D)} : ∀ {t : Bool} {o : HO}, KvR K w H kvs t o → KvR K w' H' kvs t o
  | false, _, ⟨ks, h1, h2⟩ => ⟨ks, h1, Paired.mapP h2 fun _ _ ⟨i, a, b, c⟩ => ⟨i, a, b, f c⟩⟩
  | true, _, ⟨ks, h1, h2⟩ => ⟨ks, h1, Paired.mapP h2 fun _ _ ⟨i, a, b, c⟩ => ⟨i, a, b, f c⟩⟩
theorem KvR.nt {w : Wd} {H : Hp} {kvs : List (D × D)} : ∀ {t : Bool} {o : HO}, KvR K w H kvs t o → ∀ ps, o ≠ .tbl ps
  | false, _, ⟨_, h, _⟩, _, e => by rw [h] at e; cases e
  | true, _, ⟨_, h, _⟩, _, e => by rw [h] at e; cases e
def SlR (K : PySem.W.Frag) (w : Wd) (H : Hp) (i : Nat) (s : Option (Option V)) : Sl → Prop
  | .u => True
  | .v d => ∃ v, s = some (some v) ∧ VS K w H d v
  | .o ds => ∃ a xs, s = some (some (.ref a)) ∧ w.ow[i]? = some (some a) ∧ H a = some (.lst xs) ∧ VRs K w H ds xs ∧ ds.all D.keep = true
  | .k t kvs => ∃ a o, s = some (some (.ref a)) ∧ w.ow[i]? = some (some a) ∧ H a = some o ∧ KvR K w H kvs t o
structure ER (K : PySem.W.Frag) (w : Wd) (e : Ev) (σ : L2.St) (H : Hp) : Prop where
  len : e.length = σ.length
  wl : w.ow.length = σ.length
  sl : ∀ i, SlR K w H i σ[i]? (e.get i)
  inj : ∀ (i j : Nat) (a : Addr), w.ow[i]? = some (some a) → w.ow[j]? = some (some a) → i = j
  ot : ∀ (i : Nat) (a : Addr), w.ow[i]? = some (some a) → H a ≠ none ∧ ¬ w.pr a
theorem SlR.ext {w w' : Wd} {H H' : Hp} (e : Ext w H w' H') (sep : ∀ a, a ∈ w.hp → some a ∉ w.ow) {i : Nat} {s : Option (Option V)} : ∀ {x : Sl}, SlR K w H i s x → SlR K w' H' i s x
  | .u, _ => trivial
  | .v d, ⟨v, h1, h2⟩ => ⟨v, h1, h2.ext e⟩
  | .o ds, ⟨a, xs, h1, h2, h3, h4, h5⟩ => ⟨a, xs, h1, by rw [e.ow]; exact h2, e.keep a _ h3 (fun m => sep a m (List.mem_iff_getElem?.mpr ⟨i, h2⟩)) (fun ps q => by cases q), h4.ext e, h5⟩
  | .k t kvs, ⟨a, o, h1, h2, h3, h4⟩ => by
    have hm : a ∉ w.hp := fun m => sep a m (List.mem_iff_getElem?.mpr ⟨i, h2⟩)
    exact ⟨a, o, h1, by rw [e.ow]; exact h2, e.keep a _ h3 hm h4.nt, h4.mapP fun z => z.ext e⟩
theorem ER.ext {w w' : Wd} {H H' : Hp} (e : Ext w H w' H') (sep : ∀ a, a ∈ w.hp → some a ∉ w.ow) {v : Ev} {σ : L2.St} (r : ER K w v σ H) : ER K w' v σ H' where
  len := r.len
  wl := by rw [e.ow]; exact r.wl
  sl := fun i => (r.sl i).ext e sep
  inj := by rw [e.ow]; exact r.inj
  ot := fun i a h => by
    rw [e.ow] at h
    have q := r.ot i a h
    refine ⟨fun z => q.1 (e.dom a z), fun z => ?_⟩
    rcases e.prf a z with z | z
    · exact q.2 z
    · exact q.1 z

/-- the tables of code objects, the classes of errors -/
structure Px where
  T : List (Addr × Str)
  ex : Nat → Addr
structure RR (K : PySem.W.Frag) (px : Px) (w : Wd) (e : Ev) (h : Hs) (σ : L2.St) (H : Hp) : Prop where
  hr : HR K w h H
  er : ER K w e σ H
  tb : LamX.Tabs px.T H
theorem RR.ext {px : Px} {w w' : Wd} {H H' : Hp} {e : Ev} {h h' : Hs} {σ : L2.St} (r : RR K px w e h σ H) (x : Ext w H w' H') (hr : HR K w' h' H') (tb : LamX.Tabs px.T H') : RR K px w' e h' σ H' :=
  ⟨hr, r.er.ext x fun a m => (r.hr.sep a m).1, tb⟩
def XR (px : Px) (H : Hp) : D → Value → Option Addr → Prop
  | .exc c p, cls, dd => cls = .ref (px.ex c) ∧ (c ≠ 16 → dd = none) ∧ (c = 16 → ∃ a i, dd = some a ∧ p = .int i ∧ H a = some (.xd [("at", .int i)]))
  | _, _, _ => False

/-- what must hold so that a computed thing r is what is wanted -/
def Post {α β : Type} (K : PySem.W.Frag) (px : Px) (W : WX) (σ : L2.St) (rel : Wd → Hp → α → β → Prop) (w : Wd) (H : Hp) (Q : β → Hp → Prop) : R α → Prop
  | .ok a h' => ∀ b w' H', Ext w H w' H' → HR K w' h' H' → LamX.Tabs px.T H' → rel w' H' a b → Q b H'
  | .exc x h' => ∀ cls dd w' H', Ext w H w' H' → HR K w' h' H' → LamX.Tabs px.T H' → XR px H' x cls dd → W cls dd σ H'
  | .bad => False
abbrev relV (K : PySem.W.Frag) : Wd → Hp → D → V → Prop := fun w H d v => VT K w H d v
abbrev relVs (K : PySem.W.Frag) : Wd → Hp → List D → List V → Prop := fun w H d v => VTs K w H d v
abbrev relB : Wd → Hp → Bool → Bool → Prop := fun _ _ a b => a = b
structure Pre {α β : Type} (K : PySem.W.Frag) (px : Px) (W : WX) (σ : L2.St) (rel : Wd → Hp → α → β → Prop) (w : Wd) (e : Ev) (h : Hs) (H : Hp) (Q : β → Hp → Prop) (r : R α) : Prop where
  rr : RR K px w e h σ H
  po : Post K px W σ rel w H Q r
section
variable {α β γ δ : Type} {px : Px} {W : WX} {σ : L2.St} {rel : Wd → Hp → α → β → Prop} {rel' : Wd → Hp → γ → δ → Prop} {w : Wd} {e : Ev} {h : Hs} {H : Hp} {Q Q' : β → Hp → Prop} {r : R α}
theorem Pre.imp (p : Pre K px W σ rel w e h H Q r) (i : ∀ b H', Q b H' → Q' b H') : Pre K px W σ rel w e h H Q' r := ⟨p.rr, by
  have q := p.po
  cases r with
  | ok a h' => exact fun b w' H' x1 x2 x3 x4 => i _ _ (q b w' H' x1 x2 x3 x4)
  | exc x h' => exact q
  | bad => exact q⟩
/-- one part, then the next -/
theorem Pre.bind {k : α → Hs → R γ} {Q : δ → Hp → Prop} (p : Pre K px W σ rel' w e h H Q (r.bind k)) :
    Pre K px W σ rel w e h H (fun v H1 => ∃ d h1 w1, r = .ok d h1 ∧ Ext w H w1 H1 ∧ rel w1 H1 d v ∧ Pre K px W σ rel' w1 e h1 H1 Q (k d h1)) r := ⟨p.rr, by
  have q := p.po
  cases r with
  | ok a h' =>
    intro v w1 H1 x1 x2 x3 x4
    refine ⟨a, h', w1, rfl, x1, x4, p.rr.ext x1 x2 x3, ?_⟩
    have q : Post K px W σ rel' w H Q (k a h') := q
    cases e1 : k a h' with
    | ok c h2 => rw [e1] at q; exact fun b w' H' y1 => q b w' H' (x1.trans y1)
    | exc x h2 => rw [e1] at q; exact fun cls dd w' H' y1 => q cls dd w' H' (x1.trans y1)
    | bad => rw [e1] at q; exact q
  | exc x h' => exact q
  | bad => exact q⟩
theorem Post.later {w1 : Wd} {H1 : Hp} (q : Post K px W σ rel w H Q r) (x1 : Ext w H w1 H1) : Post K px W σ rel w1 H1 Q r := by
  cases r with
  | ok a h' => exact fun b w' H' y1 => q b w' H' (x1.trans y1)
  | exc x h' => exact fun cls dd w' H' y1 => q cls dd w' H' (x1.trans y1)
  | bad => exact q
/-- the same from a later state -/
theorem Pre.later {w1 : Wd} {H1 : Hp} (p : Pre K px W σ rel w e h H Q r) (x1 : Ext w H w1 H1) (x2 : HR K w1 h H1) (x3 : LamX.Tabs px.T H1) : Pre K px W σ rel w1 e h H1 Q r := ⟨p.rr.ext x1 x2 x3, p.po.later x1⟩
theorem Pre.done {d : α} (p : Pre K px W σ rel w e h H Q (.ok d h)) {v : β} (q : rel w H d v) : Q v H := p.po v w H (Ext.refl w H) p.rr.hr p.rr.tb q
theorem Pre.nobad {o : Option α} (p : Pre K px W σ rel w e h H Q (R.of o h)) : ∃ d, o = some d ∧ Pre K px W σ rel w e h H Q (.ok d h) := by
  cases o with
  | none => exact p.po.elim
  | some d => exact ⟨d, rfl, p⟩
end
/-- readings -/
def rdE (K : PySem.W.Frag) (px : Px) (W : WX) (f : Ev → Hs → R D) : TE := fun σ H Q => ∃ w e h, Pre K px W σ (relV K) w e h H Q (f e h)
def rdA (K : PySem.W.Frag) (px : Px) (W : WX) (f : Ev → Hs → R (List D)) : TA := fun σ H Q => ∃ w e h, Pre K px W σ (relVs K) w e h H Q (f e h)
def rdT (K : PySem.W.Frag) (px : Px) (W : WX) (f : Ev → Hs → R Bool) : TT := fun σ H Q => ∃ w e h, Pre K px W σ relB w e h H Q (f e h)
def tst (f : Ev → Hs → R D) : Ev → Hs → R Bool := fun e h => (f e h).bind fun x h => R.of x.tru h

/-! ### new objects -/
section
variable {px : Px} {w : Wd} {e : Ev} {h : Hs} {σ : L2.St} {H : Hp}
theorem Ext.new {p : Addr} {o : HO} (hp : H p = none) (hr : HR K w h H) : Ext w H w (upd H p o) := by
  refine ⟨⟨[], by simp, fun _ h => by cases h⟩, rfl, fun _ h => h, fun _ h => .inl h, fun a u q _ _ => by rw [upd_ne (ne_of_none q hp)]; exact q, fun a xs q => ?_, fun a q => ?_⟩
  · rw [upd_ne (ne_of_none q hp)]; exact q
  · by_cases ha : a = p
    · rw [ha]; exact hp
    · rw [upd_ne ha] at q; exact q
theorem HR.mono {w' : Wd} {H' : Hp} (r : HR K w h H) (x : Ext w H w' H') (hw : w' = w) (hk : ∀ a, a ∈ w.hp → H' a = H a) : HR K w' h H' := by
  subst hw
  refine ⟨r.len, r.nd, fun i a o h1 h2 => ?_, r.sep, fun a q z => r.prd a q (x.dom a z)⟩
  have q := r.ob i a o h1 h2
  cases o with
  | lst ds =>
    obtain ⟨xs, q1, q2, q3⟩ := q
    exact ⟨xs, by rw [hk a (List.mem_iff_getElem?.mpr ⟨i, h1⟩)]; exact q1, q2.ext x, q3⟩
  | ins c fs => exact q
theorem HR.new {p : Addr} {o : HO} (r : HR K w h H) (hp : H p = none) : HR K w h (upd H p o) :=
  r.mono (Ext.new hp r) rfl fun a ha => by
    obtain ⟨xs, q⟩ := r.there ha
    exact upd_ne (ne_of_none q hp)
theorem RR.new {p : Addr} {o : HO} (r : RR K px w e h σ H) (hp : H p = none) : RR K px w e h σ (upd H p o) := by
  refine r.ext (Ext.new hp r.hr) (r.hr.new hp) (r.tb.ext fun b u q => ?_)
  rw [upd_ne (ne_of_none q hp)]; exact q
theorem RR.free {p : Addr} (r : RR K px w e h σ H) (hp : H p = none) : ¬ w.forb p := by
  rintro (q | q | q)
  · obtain ⟨xs, z⟩ := r.hr.there q; rw [hp] at z; cases z
  · obtain ⟨i, hi⟩ := List.mem_iff_getElem?.mp q
    exact (r.er.ot i p hi).1 hp
  · exact r.hr.prd p q hp
/-- a new object at p: what is wanted holds of it -/
theorem Pre.new {α β : Type} {W : WX} {rel : Wd → Hp → α → β → Prop} {Q : β → Hp → Prop} {d : α} (p : Pre K px W σ rel w e h H Q (.ok d h)) {a : Addr} (ha : H a = none) (o : HO) {v : β} (q : rel w (upd H a o) d v) : Q v (upd H a o) :=
  p.po v w _ (Ext.new ha p.rr.hr) (p.rr.new ha).hr (p.rr.new ha).tb q
end
end Tv
end

section
set_option autoImplicit false
set_option maxHeartbeats 1000000
/-! enumerate over a tuple. -/
namespace Tv
open PySem PySem.Spec PyProof.Rows L2
/-- what enumerate(v) makes, v told by what begins its walk -/
theorem mk_enum {v : Value} {o : Obj} {H : Heap → Prop} (B : PySem.Begins v o H) :
    Meets (Builtin.«enumerate.__new__» ⟨[.type "enumerate", v], []⟩) (fun _ R s => H s.heap ∧
      R (.ok (.ret (.ref (s.heap.push o).objs.size))) { s with heap := (s.heap.push o).push { cls := .type "enumerate", data := .fields #[.none, .bool false, .ref s.heap.objs.size, rawInt 0, .none, .none] } }) := .of_wp fun prog w A R s h => by
  obtain ⟨hp, g, d, tk, os⟩ := s; obtain ⟨h1, h⟩ := h
  have hsub := sub_enumerate; have q1 : ∀ {A' : Around} {E : Value → Shared → Prop} {Q : Value → Shared → Prop}, Q (.ref hp.objs.size) ⟨hp.push o, g, d, tk, os⟩ → wpAny (model prog w) A' (pyIter v) Q E ⟨hp, g, d, tk, os⟩ := fun q => B.iter prog w _ _ ⟨hp, g, d, tk, os⟩ _ h1 q
  wp_walk using q1
  refine wpAny_stack_any fun st => wpAny_pure ?_
  split
  · rename_i c _ _ _ _ _
    cases (c == Value.type "enumerate")
    · wp_walk using q1; exact ⟨_, rfl, h⟩
    · wp_walk using q1; exact ⟨_, rfl, h⟩
  · wp_walk using q1; exact ⟨_, rfl, h⟩
section
variable {prog : Program} {w : World} {A : Around} {E : Value → Shared → Prop} {s : Shared}
theorem call_enumB {v : Value} {o : Obj} {H : Heap → Prop} {Q : Value → Shared → Prop} (B : PySem.Begins v o H) (h1 : H s.heap)
    (h : ∀ h', IsEnum h' (s.heap.objs.size + 1) s.heap.objs.size 0 .none → h'.get? s.heap.objs.size = some o → (∀ b u, s.heap.get? b = some u → h'.get? b = some u) → Q (.ref (s.heap.objs.size + 1)) { s with heap := h' }) : wpAny (model prog w) A (call (.type "enumerate") [v]) Q E s := by
  refine callType_new F.called_enumerate (by decide) (F.typeCall_enumerate_1 _) (F.newCall_enumerate_1 _) (fun obj => F.args_object_init_2 obj _) F.entry_enumerate_new (mk_enum B) ⟨h1, ?_⟩
  have hz : (s.heap.push o).objs.size = s.heap.objs.size + 1 := Heap.size_push ..
  show _ ∧ _
  rw [hz]
  have he : IsEnum ((s.heap.push o).push { cls := .type "enumerate", data := .fields #[.none, .bool false, .ref s.heap.objs.size, rawInt 0, .none, .none] }) (s.heap.objs.size + 1) s.heap.objs.size 0 .none := by
    have := Heap.get?_push_size (s.heap.push o) (o := { cls := .type "enumerate", data := .fields #[.none, .bool false, .ref s.heap.objs.size, rawInt 0, .none, .none] }) rfl
    rw [hz] at this; exact this
  exact ⟨⟨_, he, rfl⟩, h _ he (Heap.get?_push_of_some _ (Heap.get?_push_size _ B.free)) fun b o x => Heap.get?_push_of_some _ (Heap.get?_push_of_some _ x)⟩
end
/-- the tuple at a, each item in a new pair -/
def IteT (K : PySem.W.Frag) (a : Addr) : L2.It :=
  ⟨fun i H => ∃ (xs : List V) (x : V), SqT K H a xs ∧ xs[i]? = some x, fun i H v H' => ∃ T x, v = .ref T ∧ H T = none ∧ H' = upd H T (.tup [.int (i : Nat), x]) ∧ ∀ xs, SqT K H a xs → xs[i]? = some x, fun i H => ∃ xs : List V, SqT K H a xs ∧ xs.length = i⟩
theorem turn_enumT {P : Program} {w : World} {K : PySem.W.Frag} {elts : List Expr} {kk : Nat} {tpos : Pos} (a e it : Addr) (hai : a ≠ it) :
    Turn P w K (.Tuple elts kk tpos) (IteT K a) [e, it] e (fun i h => (∃ old, IsEnum h e it ((i : Nat) : Int) old) ∧ h.IsTupleIter it a i ∧ e ≠ it ∧ e ≠ a) where
  mem := by simp
  obj := fun i h st b hb => by
    obtain ⟨⟨old, he⟩, ⟨o, ho, hc, hd⟩, _⟩ := st
    rcases (by simpa using hb : b = e ∨ b = it) with z | z
    · rw [z]; exact ⟨_, he, fun v q => nomatch q⟩
    · rw [z]; exact ⟨o, ho, fun v q => by rw [hd] at q; cases q⟩
  keep := fun i h h' st k => let ⟨⟨old, he⟩, hi, hne⟩ := st; ⟨⟨old, k e (by simp) _ he⟩, hi.at fun o q => k it (by simp) o q, hne⟩
  item := by
    intro X hP hw hK hc i pins s σ H E I hf st hg
    subst hP hw hK
    obtain ⟨⟨old, he⟩, hit, hne, hea⟩ := st
    obtain ⟨xs, x, hq, hx⟩ := hg
    obtain ⟨its, rv, p, hz⟩ := I.tuple hq
    obtain ⟨u, hu, ru⟩ := rv.get hx
    have hel : e < s.heap.objs.size := Heap.lt_size he
    have hil : it < s.heap.objs.size := by obtain ⟨_, q, _⟩ := hit; exact Heap.lt_size q
    have D : Draws X.prog X.w X.A.in1 it [it, a] its.toArray.size (fun i v => its.toArray[i]? = some v) (fun i h => h.IsTupleIter it a i ∧ h.IsTuple a its.toArray) := Draws.tuple (A := X.A.in1) (show X.A.in1.handled = none from I.ok.hd hc) it a hai its.toArray
    have hlt : i < its.toArray.size := by
      have := (List.getElem?_eq_some_iff.mp hu).1
      simpa using this
    refine wpAny_pyNext_enum_itemD D he ⟨hit, p⟩ hlt hne (by simp [hne, hea]) fun x' h' tk hP ho hs' hT hsz hk => ?_
    have ex : x' = u := by
      have z : its.toArray[i]? = some u := by simpa using hu
      rw [z] at hP; exact (Option.some.inj hP).symm
    subst ex
    refine ⟨_, rfl, wpAny_letOwnedTupleGo_enum (s := { s with heap := h', toks := tk + 1 }) ho fun h'' he' sb => ?_⟩
    have hT2 : h''.get? s.heap.objs.size = some { cls := .type "tuple", data := .seq #[.int i tk, x'] } := (sb.2 _ (Nat.ne_of_gt hel)).trans hT
    have new : ObjOk X.prog X.w (upd H s.heap.objs.size (.tup [.int (i : Nat), x])) h'' s.heap.objs.size (.tup [.int (i : Nat), x]) := ⟨by show 2 ≤ sizeLine; decide, [.int i tk, x'], .cons ⟨_, rfl⟩ (.cons ru .nil), ⟨_, hT2, rfl, _, rfl⟩⟩
    have I1 : Inv X pins σ (upd H s.heap.objs.size (.tup [.int (i : Nat), x])) { s with heap := h'', toks := tk + 1 } := I.turnedNew (ch := [e, it]) (fun b ob hb q => (sb.2 b (fun z => hb (by simp [z]))).trans (hk b ob (fun z => hb (by simp [z])) (fun z => hb (by simp [z])) q)) hf (Nat.le_refl _) new
    refine ⟨.ref s.heap.objs.size, _, I1, rfl, ⟨_, x, rfl, I.hok.fresh (Nat.le_refl _), rfl, fun ys hy => by rw [I.tuple_inj hy hq]; exact hx⟩, ⟨⟨x', ?_⟩, hs'.1.at fun o q => (sb.2 it (Ne.symm hne)).trans q, hne, hea⟩, fun b hb => ?_⟩
    · rw [show ((i + 1 : Nat) : Int) = (i : Int) + 1 by omega]; exact he'
    · have hb' : b < s.heap.objs.size := by
        rcases (by simpa using hb : b = e ∨ b = it) with z | z
        · rw [z]; exact hel
        · rw [z]; exact hil
      rw [upd_ne (Nat.ne_of_lt hb')]
      exact (hf b hb).1
  done := by
    intro X hP hw hK hc i pins s σ H E I hf st hg
    subst hP hw hK
    obtain ⟨⟨old, he⟩, hit, hne, hea⟩ := st
    obtain ⟨xs, hq, hx⟩ := hg
    obtain ⟨its, rv, p, hz⟩ := I.tuple hq
    obtain ⟨f0, f1, f2, f3, f4, f5⟩ := hf it (by simp)
    have hl := rv.length
    have D : Draws X.prog X.w X.A.in1 it [it, a] its.toArray.size (fun i v => its.toArray[i]? = some v) (fun i h => h.IsTupleIter it a i ∧ h.IsTuple a its.toArray) := Draws.tuple (A := X.A.in1) (show X.A.in1.handled = none from I.ok.hd hc) it a hai its.toArray
    have hn : its.toArray.size = i := by simp; omega
    refine wpAny_pyNext_enum_endD D he (by rw [hn]; exact ⟨hit, p⟩) fun h' eb => ⟨rfl, I.turned (t' := s.toks) (fun b o hb q => eb b o hb q) f0 f1 f3 f4 f5⟩
  self := fun A i s Q E st h => let ⟨⟨_, he⟩, _⟩ := st; wpAny_pyIter_enum he h
/-- enumerate over a list or a tuple -/
def iEnumA (K : PySem.W.Frag) (ta : TA) : TI := fun σ H R => ta σ H fun vs H1 => ∃ a xs, vs = [.ref a] ∧ ((SqL K H1 a xs ∧ R (Ite K a) H1) ∨ (SqT K H1 a xs ∧ R (IteT K a) H1))
theorem pi_enumA {X : Cx} {e : Expr} {ta : TA} {p pos tpos : Pos} {elts : List Expr} {kk : Nat} (hg : Gl X "enumerate") (hm : X.mg "enumerate" = none) (ha : PA X [e] ta) (hs : starEach [e] X.env = [(false, eval e X.env)]) :
    PI X (.Tuple elts kk tpos) (.Call (.Name "enumerate" p) [e] [] pos) (iEnumA X.K ta) := by
  refine ⟨fun pins s σ H R I h => ?_⟩
  refine Call_ (ld_blt I hg hm boot_enumerate (PyProof.Rows.callWith_type1 (thn (ha.run pos pins s σ H _ I h) fun us s1 ⟨vs, H1, I1, r1, q1⟩ => ?_) hs rfl))
  obtain ⟨a, xs, ex, hq⟩ := q1
  subst ex
  cases r1 with
  | cons r rr =>
    cases rr
    cases r
    have fp : ∀ b ∈ [s1.heap.objs.size + 1, s1.heap.objs.size], s1.heap.objs.size ≤ b := fun b hb => by
      rcases (by simpa using hb : b = s1.heap.objs.size + 1 ∨ b = s1.heap.objs.size) with z | z
      · rw [z]; exact Nat.le_add_right _ _
      · rw [z]; exact Nat.le_refl _
    rcases hq with ⟨hq, q⟩ | ⟨hq, q⟩
    · obtain ⟨its, rv, p', hz⟩ := I1.list hq
      refine call_enumerate_list p'.isList fun h' he hit hsz hk => wpAny_pyIter_enum he ?_
      have I2 : Inv X pins σ H1 { s1 with heap := h' } := I1.kept (t' := s1.toks) hk
      exact ⟨s1.heap.objs.size + 1, [s1.heap.objs.size + 1, s1.heap.objs.size], _, _, H1, rfl, I2, turn_enum a (s1.heap.objs.size + 1) s1.heap.objs.size, ⟨⟨.none, he⟩, hit, Nat.succ_ne_self _⟩, fun b hb => I1.fpOk (fp b hb) (I1.hok.fresh (fp b hb)), q⟩
    · obtain ⟨its, rv, p', hz⟩ := I1.tuple hq
      have hal : a < s1.heap.objs.size := by
        obtain ⟨_, q, _⟩ := id p'
        exact Heap.lt_size q
      refine call_enumB (begins_tuple a its.toArray) p' fun h' he hit hk => wpAny_pyIter_enum he ?_
      have I2 : Inv X pins σ H1 { s1 with heap := h' } := I1.kept (t' := s1.toks) hk
      exact ⟨s1.heap.objs.size + 1, [s1.heap.objs.size + 1, s1.heap.objs.size], _, _, H1, rfl, I2, turn_enumT a (s1.heap.objs.size + 1) s1.heap.objs.size (Nat.ne_of_lt hal), ⟨⟨.none, he⟩, ⟨_, hit, rfl, rfl⟩, Nat.succ_ne_self _, Nat.ne_of_gt (Nat.lt_succ_of_lt hal)⟩, fun b hb => I1.fpOk (fp b hb) (I1.hok.fresh (fp b hb)), q⟩
theorem walk_enumT {K : PySem.W.Frag} {a : Addr} {xs : List V} : Walk (IteT K a) xs.length (fun H => SqT K H a xs) (YPair (fun i => some (.int (i : Nat))) (fun i => xs[i]?)) := by
  refine ⟨fun i _ hi q => ⟨xs, xs[i], q, by simp [hi]⟩, fun _ q => ⟨xs, q, rfl⟩, fun i H v H' _ q y => ?_⟩
  obtain ⟨T, x, h1, h2, h3, h4⟩ := y
  exact ⟨T, .int (i : Nat), x, h1, h2, h3, rfl, h4 xs q⟩
end Tv
end

section
set_option autoImplicit false
set_option maxHeartbeats 1000000
/-! Operations by values. -/
namespace Tv
open PySem PySem.Spec PyProof.Rows L2

section
variable {X : Cx} {pins : List (Addr × Obj)} {σ : L2.St} {H : Hp} {s : Shared} {w : Wd}

theorem reads_ints {h : Heap} : ∀ {es : List DictEntry} {kvs : List (Int × Int)} {vs : List (Key × Value)}, Pairs (mixKind X.prog X.w) es vs → KV (kvs.map fun p => ((Sum.inl p.1 : Key), V.int p.2)) vs →
    ReadsAll h (es.map (·.key)) (kvs.map fun p => PyData.int p.1) [] ∧ ReadsAll h (es.map (·.val)) (kvs.map fun p => PyData.int p.2) []
  | _, [], _, p, r => by
    cases r
    cases p
    exact ⟨.nil, .nil⟩
  | [], (a, b) :: kvs, _, p, r => by
    cases p
    cases r
  | e :: es, (a, b) :: kvs, [], p, r => by cases r
  | e :: es, (a, b) :: kvs, (k, v) :: vs, p, r => by
    cases r with
    | cons r1 r2 =>
      cases p with
      | cons p1 p2 p3 =>
        obtain ⟨h1, h2⟩ := reads_ints p3 r2
        obtain ⟨e1, e2⟩ := r1
        have e1 : (Sum.inl a : Key) = k := e1
        subst e1
        obtain ⟨t, ht⟩ := Value.isInt_shape (k := a) (v := e.key) p1
        obtain ⟨t2, ht2⟩ : ∃ t, v = Value.int b t := e2
        have ev : e.val = v := p2
        refine ⟨?_, ?_⟩
        · simp only [List.map_cons]
          rw [ht]
          exact .cons (.int a t) h1
        · simp only [List.map_cons]
          rw [ev, ht2]
          exact .cons (.int b t2) h2

mutual
theorem VR.reads (I : Inv X pins σ H s) : ∀ (d : D) (v : V) (u : Value), VR X.K w H d v → RelV v u → d.pl = true → ∃ as, Reads s.heap u d.py as ∧ ∀ a ∈ as, H a ≠ none
  | .non, _, _, h, r, _ => by cases h; cases r; exact ⟨[], .none, fun _ z => by cases z⟩
  | .bl b, _, _, h, r, _ => by cases h; cases r; exact ⟨[], .bool b, fun _ z => by cases z⟩
  | .int i, _, _, h, r, _ => by cases h; obtain ⟨t, rfl⟩ := r; exact ⟨[], .int i t, fun _ z => by cases z⟩
  | .str x, _, _, h, r, _ => by cases h; obtain ⟨t, rfl⟩ := r; exact ⟨[], .str x t, fun _ z => by cases z⟩
  | .tup ds, _, _, h, r, hn => by
    cases h with
    | tup hs ha =>
      cases r
      obtain ⟨its, rv, ⟨o, ho, hc, n, hd⟩, _⟩ := I.tuple (.inl (.inl hs))
      obtain ⟨as, hr, ht⟩ := VR.readsAll I ds _ its ha rv hn
      exact ⟨_, Reads.tuple ho hc hd hr, ht⟩
  | .lst ds, _, _, h, r, hn => by
    cases h with
    | lst _ hs ha =>
      cases r
      obtain ⟨its, rv, ⟨o, n, ho, hc, _, hd⟩, _⟩ := I.list (.inl (.inl hs))
      obtain ⟨as, hr, ht⟩ := VR.readsAll I ds _ its ha rv hn
      exact ⟨_, Reads.list ho hc hd hr, fun b hb => by
        rcases List.mem_cons.mp hb with rfl | hb
        · rw [hs]; simp
        · exact ht b hb⟩
  | .bor _, _, _, _, _, hn => by cases hn
  | .scr _, _, _, _, _, hn => by cases hn
  | .dct kvs, _, _, h, r, _ => by
    cases h with
    | @dct a _ _ _ hs =>
      cases r
      obtain ⟨_, _, vs, rv, o, es, ep, ho, hx, hd, _, hp, _⟩ := I.hok _ _ hs
      obtain ⟨r1, r2⟩ := reads_ints (X := X) (h := s.heap) hp rv
      rw [D.py]
      refine ⟨_, Reads.dict (kvs := kvs.map fun p => (PyData.int p.1, PyData.int p.2)) ho hx.1 hd (as := []) (bs := []) ?_ ?_, fun b hb => ?_⟩
      · rw [List.map_map]; exact r1
      · rw [List.map_map]; exact r2
      · have hb : b = a := by simpa using hb
        rw [hb, hs]; simp
  | .ref _, _, _, _, _, hn => by cases hn
  | .exc _ _, _, _, _, _, hn => by cases hn
theorem VR.readsAll (I : Inv X pins σ H s) : ∀ (ds : List D) (vs : List V) (us : List Value), VRs X.K w H ds vs → Vals vs us → D.pls ds = true → ∃ as, ReadsAll s.heap us (D.pys ds) as ∧ ∀ a ∈ as, H a ≠ none
  | [], _, _, h, r, _ => by
    cases h
    cases r
    exact ⟨[], .nil, fun _ z => by cases z⟩
  | d :: ds, _, _, h, r, hn => by
    cases h with
    | cons h1 h2 =>
      cases r with
      | cons r1 r2 =>
        rw [D.pls, Bool.and_eq_true] at hn
        obtain ⟨as, q1, t1⟩ := VR.reads I d _ _ h1 r1 hn.1
        obtain ⟨bs, q2, t2⟩ := VR.readsAll I ds _ _ h2 r2 hn.2
        exact ⟨_, .cons q1 q2, fun b hb => (List.mem_append.mp hb).elim (t1 b) (t2 b)⟩
end
end

section
variable {X : Cx} {pins : List (Addr × Obj)} {σ : L2.St} {H : Hp} {s : Shared} {w : Wd}
theorem VT.readsT (I : Inv X pins σ H s) {d : D} {v : V} {u : Value} (h : VT X.K w H d v) (r : RelV v u) (k : d.rd = true) : ∃ as, Reads s.heap u d.py as ∧ ∀ a ∈ as, H a ≠ none ∨ ∃ o, X.K.lookup a = some o ∧ o.cls = .type "list" := by
  have go : ∀ {a : Addr} {xs : List V} {ds : List D}, SqL X.K H a xs → VRs X.K w H ds xs → RelV (.ref a) u → D.pls ds = true → ∃ as, Reads s.heap u (.list (D.pys ds)) as ∧ ∀ a ∈ as, H a ≠ none ∨ ∃ o, X.K.lookup a = some o ∧ o.cls = .type "list" := by
    intro a xs ds hs ha r hn
    cases r
    obtain ⟨its, rv, ⟨o, n, ho, hc, _, hd⟩, _⟩ := I.list hs
    obtain ⟨as, hr, ht⟩ := VR.readsAll I ds _ its ha rv hn
    exact ⟨_, Reads.list ho hc hd hr, fun b hb => by
      rcases List.mem_cons.mp hb with rfl | hb
      · rcases hs with hs | ⟨o, its, n, h1, h2, _⟩
        · exact .inl (Rd.some hs)
        · exact .inr ⟨o, h1, h2⟩
      · exact .inl (ht b hb)⟩
  cases h with
  | of h =>
    cases h with
    | of h =>
      obtain ⟨as, q1, q2⟩ := VR.reads I d v u h r (by cases h <;> exact k)
      exact ⟨as, q1, fun a ha => .inl (q2 a ha)⟩
    | scr n1 n2 q ha => exact go (.inl q) ha r k
    | scrK q ha => exact go (.inr q) ha r k
  | bor m n q ha => exact go (.inl (.inl q)) ha r k
theorem VT.reads (I : Inv X pins σ H s) {d : D} {v : V} {u : Value} (h : VT X.K w H d v) (r : RelV v u) (k : d.rd = true) : ∃ as, Reads s.heap u d.py as :=
  let ⟨as, q, _⟩ := h.readsT I r k; ⟨as, q⟩
end

/-! ### lists of related things -/
section
variable {K : PySem.W.Frag} {w : Wd} {H : Hp}
theorem VRs.length : ∀ {ds : List D} {vs : List V}, VRs K w H ds vs → ds.length = vs.length
  | _, _, .nil => rfl
  | _, _, .cons _ r => by rw [List.length_cons, List.length_cons, r.length]
theorem VRs.append : ∀ {ds es : List D} {vs us : List V}, VRs K w H ds vs → VRs K w H es us → VRs K w H (ds ++ es) (vs ++ us)
  | _, _, _, _, .nil, s => s
  | _, _, _, _, .cons a r, s => .cons a (r.append s)
theorem VRs.get : ∀ {ds : List D} {vs : List V} {i : Nat} {d : D}, VRs K w H ds vs → ds[i]? = some d → ∃ v, vs[i]? = some v ∧ VR K w H d v
  | _, _, _, _, .nil, e => by simp at e
  | _, _, 0, _, .cons a _, e => by simp at e; subst e; exact ⟨_, rfl, a⟩
  | _, _, i + 1, _, .cons _ r, e => by
    obtain ⟨v, h1, h2⟩ := r.get (i := i) (by simpa using e)
    exact ⟨v, by simpa using h1, h2⟩
theorem VRs.getV : ∀ {ds : List D} {vs : List V} {i : Nat} {v : V}, VRs K w H ds vs → vs[i]? = some v → ∃ d, ds[i]? = some d ∧ VR K w H d v
  | _, _, _, _, .nil, e => by simp at e
  | _, _, 0, _, .cons a _, e => by simp at e; subst e; exact ⟨_, rfl, a⟩
  | _, _, i + 1, _, .cons _ r, e => by
    obtain ⟨v, h1, h2⟩ := r.getV (i := i) (by simpa using e)
    exact ⟨v, by simpa using h1, h2⟩
theorem VRs.take : ∀ {ds : List D} {vs : List V} (n : Nat), VRs K w H ds vs → VRs K w H (ds.take n) (vs.take n)
  | _, _, 0, _ => .nil
  | _, _, _ + 1, .nil => .nil
  | _, _, n + 1, .cons a r => .cons a (r.take n)
theorem VRs.drop : ∀ {ds : List D} {vs : List V} (n : Nat), VRs K w H ds vs → VRs K w H (ds.drop n) (vs.drop n)
  | _, _, 0, r => r
  | _, _, _ + 1, .nil => .nil
  | _, _, n + 1, .cons _ r => r.drop n
theorem VRs.set {d : D} {v : V} (q : VR K w H d v) : ∀ {ds : List D} {vs : List V} (i : Nat), VRs K w H ds vs → VRs K w H (ds.set i d) (vs.set i v)
  | _, _, _, .nil => .nil
  | _, _, 0, .cons _ r => .cons q r
  | _, _, i + 1, .cons a r => .cons a (r.set q i)
theorem VRs.flat {ds : List D} {vs : List V} (r : VRs K w H ds vs) : ∀ n : Nat, VRs K w H (List.replicate n ds).flatten (List.replicate n vs).flatten
  | 0 => .nil
  | n + 1 => by rw [List.replicate_succ, List.replicate_succ, List.flatten_cons, List.flatten_cons]; exact r.append (r.flat n)
theorem VRs.snoc {ds : List D} {vs : List V} {d : D} {v : V} (r : VRs K w H ds vs) (q : VR K w H d v) : VRs K w H (ds ++ [d]) (vs ++ [v]) := r.append (.cons q .nil)
theorem VRs.reverse : ∀ {ds : List D} {vs : List V}, VRs K w H ds vs → VRs K w H ds.reverse vs.reverse
  | _, _, .nil => .nil
  | _, _, .cons a r => by rw [List.reverse_cons, List.reverse_cons]; exact r.reverse.snoc a
theorem VRs.isEmpty {ds : List D} {vs : List V} (r : VRs K w H ds vs) : ds.isEmpty = vs.isEmpty := by cases r <;> rfl
theorem VRs.cut {ds : List D} {vs : List V} (r : VRs K w H ds vs) (lo hi : Option Int) : VRs K w H (cutD ds lo hi) (cutV vs lo hi) := by
  unfold cutD cutV
  rw [r.length]
  exact (r.drop _).take _
theorem VRs.at {ds : List D} {vs : List V} (r : VRs K w H ds vs) {i : Int} {d : D} (e : L2.atI ds i = some d) : ∃ v, L2.atI vs i = some v ∧ VR K w H d v := by
  unfold L2.atI at e ⊢
  rw [r.length] at e
  cases q : L2.ixN vs.length i with
  | none => rw [q] at e; cases e
  | some j =>
    rw [q] at e
    exact r.get e
end
section
variable {K : PySem.W.Frag} {px : Px} {W : WX} {σ : L2.St} {w : Wd} {e : Ev} {h : Hs} {H : Hp} {Q : VK}
theorem Pre.newL {ds : List D} (p : Pre K px W σ (relV K) w e h H Q (.ok (.lst ds) h)) {a : Addr} (ha : H a = none) {xs : List V} (r : VRs K w H ds xs) : Q (.ref a) (upd H a (.lst xs)) :=
  p.new ha _ (.of (.of (.lst (p.rr.free ha) upd_same (r.ext (Ext.new ha p.rr.hr)))))
theorem Pre.newT {ds : List D} (p : Pre K px W σ (relV K) w e h H Q (.ok (.tup ds) h)) {a : Addr} (ha : H a = none) {xs : List V} (r : VRs K w H ds xs) : Q (.ref a) (upd H a (.tup xs)) :=
  p.new ha _ (.of (.of (.tup upd_same (r.ext (Ext.new ha p.rr.hr)))))
end
/-- an operation of two values -/
def rV2 (K : PySem.W.Frag) (px : Px) (W : WX) (op : D → D → Option D) : R2 := fun x y H Q => ∃ σ w e h d1 d2, VT K w H d1 x ∧ VT K w H d2 y ∧ Pre K px W σ (relV K) w e h H Q (R.of (op d1 d2) h)
section
variable {X : Cx} {px : Px} {W : WX}
theorem Inv.rdL {pins : List (Addr × Obj)} {σ : L2.St} {H : Hp} {s : Shared} {l : Addr} {xs : List V} (I : Inv X pins σ H s) (h : Rd H l (.lst xs)) : xs.length ≤ sizeLine ∧ ∃ (its : List Value) (n : Nat), Vals xs its ∧ s.heap.get? l = some { cls := .type "list", data := .seq its.toArray n } := h.ok I.hok
/-- xs + ys, read -/
theorem op_catR : OpR X (binaryOp .Add) (fun x y H Q => ∃ l b xs zs, x = .ref l ∧ y = .ref b ∧ Rd H l (.lst xs) ∧ Rd H b (.lst zs) ∧ xs.length + zs.length ≤ sizeLine ∧ ∀ p, H p = none → Q (.ref p) (upd H p (.lst (xs ++ zs)))) := by
  intro pins s σ H x y v u Q I rx ry h
  obtain ⟨l, b, xs, zs, rfl, rfl, q1, q2, hz, q⟩ := h
  cases rx
  cases ry
  obtain ⟨_, its, n, r1, e1⟩ := Inv.rdL I q1
  obtain ⟨_, its2, n2, r2, e2⟩ := Inv.rdL I q2
  have l1 := r1.length
  have l2 := r2.length
  refine PySem.P.add_list e1 e2 ?_ (by rw [List.size_toArray, List.size_toArray, ← l1, ← l2]; exact hz)
  rw [show its.toArray ++ its2.toArray = (its ++ its2).toArray by simp]
  exact ⟨.ref _, _, I.lnew (t' := s.toks) (r1.append r2) (by rw [List.length_append]; exact hz), rfl, q _ I.fresh⟩
theorem LIM_eq : LIM = sizeLine := by rw [sizeLine_eq]
theorem ofLen_some {n : Nat} {d d' : D} (h : ofLen n d = some d') : d' = d ∧ n ≤ sizeLine := by
  unfold ofLen at h
  split at h
  · rename_i hn
    cases h
    exact ⟨rfl, by rw [← LIM_eq]; exact hn⟩
  · cases h
theorem catL {pins : List (Addr × Obj)} {s : Shared} {σ σ' : L2.St} {H : Hp} {v u : Value} {Q : VK} {w : Wd} {e : Ev} {h : Hs} {a b : Addr} {xs ys : List V} {ds es : List D} {d : D} (I : Inv X pins σ H s) (rx : RelV (.ref a) v) (ry : RelV (.ref b) u)
    (ha : Rd H a (.lst xs)) (hb : Rd H b (.lst ys)) (ra : VRs X.K w H ds xs) (rb : VRs X.K w H es ys) (ed : ofLen (ds.length + es.length) (.lst (ds ++ es)) = some d) (p : Pre X.K px W σ' (relV X.K) w e h H Q (.ok d h)) :
    wpAny (model X.prog X.w) X.A (binaryOp .Add v u) (EP X pins σ Q) X.xe s := by
  obtain ⟨rfl, hz⟩ := ofLen_some ed
  exact op_catR pins s σ H _ _ v u Q I rx ry ⟨a, b, xs, ys, rfl, rfl, ha, hb, by rw [← ra.length, ← rb.length]; exact hz, fun p' hp' => p.newL hp' (ra.append rb)⟩
theorem vInt {K : PySem.W.Frag} {w : Wd} {H : Hp} {i : Int} {v : V} (h : VT K w H (.int i) v) : v = .int i := by
  cases h with | of h => cases h with | of h => cases h; rfl
theorem vBl {K : PySem.W.Frag} {w : Wd} {H : Hp} {i : Bool} {v : V} (h : VT K w H (.bl i) v) : v = .bl i := by
  cases h with | of h => cases h with | of h => cases h; rfl
theorem vStr {K : PySem.W.Frag} {w : Wd} {H : Hp} {i : Str} {v : V} (h : VT K w H (.str i) v) : v = .str i := by
  cases h with | of h => cases h with | of h => cases h; rfl
theorem vNon {K : PySem.W.Frag} {w : Wd} {H : Hp} {v : V} (h : VT K w H .non v) : v = .non := by
  cases h with | of h => cases h with | of h => cases h; rfl
theorem sqt {K : PySem.W.Frag} {H : Hp} {a : Addr} {xs : List V} (h : H a = some (.tup xs)) : SqT K H a xs := .inl (.inl h)
theorem vTup {K : PySem.W.Frag} {w : Wd} {H : Hp} {ds : List D} {v : V} (h : VT K w H (.tup ds) v) : ∃ a xs, v = .ref a ∧ H a = some (.tup xs) ∧ VRs K w H ds xs := by
  cases h with | of h => cases h with | of h => cases h with | tup q r => exact ⟨_, _, rfl, q, r⟩
theorem vLst {K : PySem.W.Frag} {w : Wd} {H : Hp} {ds : List D} {v : V} (h : VT K w H (.lst ds) v) : ∃ a xs, v = .ref a ∧ ¬ w.forb a ∧ H a = some (.lst xs) ∧ VRs K w H ds xs := by
  cases h with | of h => cases h with | of h => cases h with | lst n q r => exact ⟨_, _, rfl, n, q, r⟩
theorem VT.non {K : PySem.W.Frag} {w : Wd} {H : Hp} : VT K w H .non .non := .of (.of .non)
theorem VT.bl {K : PySem.W.Frag} {w : Wd} {H : Hp} (b : Bool) : VT K w H (.bl b) (.bl b) := .of (.of (.bl b))
theorem VT.int {K : PySem.W.Frag} {w : Wd} {H : Hp} (b : Int) : VT K w H (.int b) (.int b) := .of (.of (.int b))
theorem VT.str {K : PySem.W.Frag} {w : Wd} {H : Hp} (b : Str) : VT K w H (.str b) (.str b) := .of (.of (.str b))
theorem op_addD : OpR X (binaryOp .Add) (rV2 X.K px W dAdd) := by
  intro pins s σ H x y v u Q I rx ry q
  obtain ⟨σ', w, e, h, d1, d2, v1, v2, p0⟩ := q
  obtain ⟨d, ed, p⟩ := p0.nobad
  clear p0
  unfold dAdd at ed
  split at ed
  · obtain rfl := vInt v1; obtain rfl := vInt v2; cases ed; exact op_add pins s σ H _ _ v u Q I rx ry ⟨_, _, rfl, rfl, p.done (.int _)⟩
  · obtain rfl := vBl v1; obtain rfl := vInt v2; cases ed
    cases rx
    obtain ⟨t, rfl⟩ := ry
    exact IntBool.add_bool_int ⟨.int _, H, I.tok _, ⟨_, rfl⟩, p.done (.int _)⟩
  · obtain rfl := vInt v1; obtain rfl := vBl v2; cases ed; exact op_add_ib pins s σ H _ _ v u Q I rx ry ⟨_, _, rfl, rfl, p.done (.int _)⟩
  · obtain rfl := vStr v1; obtain rfl := vStr v2
    obtain ⟨rfl, hz⟩ := ofLen_some ed
    exact op_add_str pins s σ H _ _ v u Q I rx ry ⟨_, _, rfl, rfl, hz, p.done (.str _)⟩
  · obtain ⟨a, xs, rfl, h1, r1⟩ := vTup v1
    obtain ⟨b, ys, rfl, h2, r2⟩ := vTup v2
    obtain ⟨rfl, hz⟩ := ofLen_some ed
    refine op_catA pins s σ H _ _ v u Q I rx ry ⟨_, _, _, _, rfl, rfl, sqt h1, sqt h2, by rw [← r1.length, ← r2.length]; exact hz, fun ex => ?_, fun _ ey => ?_, fun _ _ p' hp' => p.newT hp' (r1.append r2)⟩
    · subst ex
      cases r1
      exact p.done (.of (.of (.tup h2 r2)))
    · subst ey
      cases r2
      rw [List.append_nil] at p
      exact p.done (.of (.of (.tup h1 r1)))
  · split at ed
    · rename_i q1 q2
      obtain ⟨a, xs, rfl, h1, r1⟩ := v1.la q1
      obtain ⟨b, ys, rfl, h2, r2⟩ := v2.la q2
      exact catL I rx ry h1 h2 r1 r2 ed p
    · cases ed
theorem op_subD : OpR X (binaryOp .Sub) (rV2 X.K px W dSub) := by
  intro pins s σ H x y v u Q I rx ry q
  obtain ⟨σ', w, e, h, d1, d2, v1, v2, p0⟩ := q
  obtain ⟨d, ed, p⟩ := p0.nobad
  clear p0
  unfold dSub at ed
  split at ed
  · obtain rfl := vInt v1; obtain rfl := vInt v2; cases ed; exact op_sub pins s σ H _ _ v u Q I rx ry ⟨_, _, rfl, rfl, p.done (.int _)⟩
  · obtain rfl := vBl v1; obtain rfl := vInt v2; cases ed
    cases rx
    obtain ⟨t, rfl⟩ := ry
    exact IntBool.sub_bool_int ⟨.int _, H, I.tok _, ⟨_, rfl⟩, p.done (.int _)⟩
  · obtain rfl := vInt v1; obtain rfl := vBl v2; cases ed
    obtain ⟨t, rfl⟩ := rx
    cases ry
    exact IntBool.sub_int_bool ⟨.int _, H, I.tok _, ⟨_, rfl⟩, p.done (.int _)⟩
  · cases ed
theorem flat_len {α : Type} (xs : List α) (n : Nat) : (List.replicate n xs).flatten.length = n * xs.length := by
  rw [List.length_flatten, List.map_replicate, List.sum_replicate_nat]
theorem rep_fit {n : Nat} {j : Int} (h1 : 0 ≤ j) (h2 : j ≤ 1000) (h3 : n ≤ 1000) : n * j.toNat ≤ sizeLine := by
  have h4 : j.toNat ≤ 1000 := by omega
  have h5 : n * j.toNat ≤ 1000 * 1000 := Nat.mul_le_mul h3 h4
  rw [sizeLine_eq]; omega
theorem op_repR : OpR X (binaryOp .Mult) (fun x y H Q => ∃ l k xs, x = .ref l ∧ y = .int k ∧ H l = some (.lst xs) ∧ 0 ≤ k ∧ k ≤ 1000 ∧ xs.length ≤ 1000 ∧ ∀ p, H p = none → Q (.ref p) (upd H p (.lst (List.replicate k.toNat xs).flatten))) := by
  intro pins s σ H x y v u Q I rx ry ⟨l, k, xs, e1, e2, h1, h2, h3, h4, q⟩
  exact op_rep pins s σ H x y v u Q I rx ry ⟨l, k, xs, e1, e2, h1, by omega, by omega, rep_fit h2 h3 h4, q⟩
theorem tuple_mul1W (l : Addr) (items : Array Value) (n : Nat) (dd : Option Addr) (sl : Array (Option Value)) (u : Tok) :
    Meets (Builtin.«tuple.__mul__» ⟨[.ref l, .int 1 u], []⟩) (fun _ R s => s.heap.get? l = some { cls := .type "tuple", dict := dd, data := .seq items n, slots := sl } ∧
      R (.ok (.ret (Value.ref l))) s) :=
  .of_wp fun prog w A R s h => by
    obtain ⟨hp, g, d, tk, os⟩ := s
    obtain ⟨hl, h⟩ := h
    have f1 := AutoSeq1.idx_int
    have c1 : (items.isEmpty || (1 : Int) == 1) = true := by simp
    have c0 : ¬ (((1 : Int) < -(2 ^ 63) || (1 : Int) ≥ 2 ^ 63) = true) := by decide
    wp_walk using wpAny_loadPart' hl
    repeat (first
      | (refine wpAny_ite_true (decide_eq_true c1) ?_; wp_walk using wpAny_loadPart' hl)
      | (refine wpAny_ite_false (decide_eq_false (by decide)) ?_; wp_walk using wpAny_loadPart' hl))
    exact ⟨_, rfl, h⟩
theorem op_repT1 : OpR X (binaryOp .Mult) (fun x y H Q => ∃ l xs, x = .ref l ∧ y = .int 1 ∧ SqT X.K H l xs ∧ xs ≠ [] ∧ Q (.ref l) H) := by
  intro pins s σ H x y v u Q I rx ry h
  obtain ⟨l, xs, rfl, rfl, hT, hne, q⟩ := h
  cases rx
  obtain ⟨t, rfl⟩ := ry
  obtain ⟨its, r, ⟨⟨cls, dd, data, sl⟩, ho, hc, n, hd⟩, hs⟩ := I.tuple hT
  simp only at hc hd
  subst hc hd
  refine wpAny_binaryOp_repeat_ref (T := "tuple") (U := "int") (by decide) ⟨_, ho, rfl⟩ (fun s' => typeIs_int s' 1 t) noFill_tuple_mul F.fills_int_mul F.slot_int_rmul repeat_tuple F.slot_int_index.lookup
    (call_meets F.slot_int_rmul (typeIs_int s 1 t) F.entry_int_rmul (F.args_int_rmul_2 _ _) (int_rmul_tuple 1 t l its.toArray n dd sl)
      ⟨ho, rfl, ⟨_, ho, rfl⟩, call_meets F.slot_tuple_mul ⟨_, ho, rfl⟩ F.entry_tuple_mul (F.args_tuple_mul_2 _ _) (tuple_mul1W l its.toArray n dd sl t) ⟨ho, ?_⟩⟩)
  exact ⟨.ref l, H, I, rfl, q⟩
theorem tuple_mul0W (l : Addr) (items : Array Value) (n : Nat) (dd : Option Addr) (sl : Array (Option Value)) (x : Int) (u : Tok) (he : items.isEmpty = true) (c0 : (decide (x < -(2 ^ 63)) || decide (x ≥ 2 ^ 63)) = false) :
    Meets (Builtin.«tuple.__mul__» ⟨[.ref l, .int x u], []⟩) (fun _ R s => s.heap.get? l = some { cls := .type "tuple", dict := dd, data := .seq items n, slots := sl } ∧
      R (.ok (.ret (Value.ref l))) s) :=
  .of_wp fun prog w A R s h => by
    obtain ⟨hp, g, d, tk, os⟩ := s
    obtain ⟨hl, h⟩ := h
    have f1 := AutoSeq1.idx_int
    have c1 : (items.isEmpty || x == 1) = true := by rw [he]; rfl
    wp_walk using wpAny_loadPart' hl
    repeat (first
      | (refine wpAny_ite_false (decide_eq_false (by rw [c0]; exact Bool.false_ne_true)) ?_; wp_walk using wpAny_loadPart' hl)
      | (refine wpAny_ite_true (decide_eq_true c1) ?_; wp_walk using wpAny_loadPart' hl))
    exact ⟨_, rfl, h⟩
theorem op_repT0 : OpR X (binaryOp .Mult) (fun x y H Q => ∃ l k, x = .ref l ∧ y = .int k ∧ 0 ≤ k ∧ k ≤ 1000 ∧ SqT X.K H l [] ∧ Q (.ref l) H) := by
  intro pins s σ H x y v u Q I rx ry h
  obtain ⟨l, k, rfl, rfl, k0, k1, hT, q⟩ := h
  cases rx
  obtain ⟨t, rfl⟩ := ry
  obtain ⟨its, r, ⟨⟨cls, dd, data, sl⟩, ho, hc, n, hd⟩, hs⟩ := I.tuple hT
  simp only at hc hd
  subst hc hd
  cases r
  have c0 : (decide (k < -(2 ^ 63)) || decide (k ≥ 2 ^ 63)) = false := by
    rw [Bool.or_eq_false_iff, decide_eq_false_iff_not, decide_eq_false_iff_not]
    omega
  refine wpAny_binaryOp_repeat_ref (T := "tuple") (U := "int") (by decide) ⟨_, ho, rfl⟩ (fun s' => typeIs_int s' k t) noFill_tuple_mul F.fills_int_mul F.slot_int_rmul repeat_tuple F.slot_int_index.lookup
    (call_meets F.slot_int_rmul (typeIs_int s k t) F.entry_int_rmul (F.args_int_rmul_2 _ _) (int_rmul_tuple k t l #[] n dd sl)
      ⟨ho, rfl, ⟨_, ho, rfl⟩, call_meets F.slot_tuple_mul ⟨_, ho, rfl⟩ F.entry_tuple_mul (F.args_tuple_mul_2 _ _) (tuple_mul0W l #[] n dd sl k t rfl c0) ⟨ho, ?_⟩⟩)
  exact ⟨.ref l, H, I, rfl, q⟩
theorem op_mulD : OpR X (binaryOp .Mult) (rV2 X.K px W dMul) := by
  intro pins s σ H x y v u Q I rx ry q
  obtain ⟨σ', w, e, h, d1, d2, v1, v2, p0⟩ := q
  obtain ⟨d, ed, p⟩ := p0.nobad
  clear p0
  unfold dMul at ed
  split at ed
  · split at ed
    · rename_i hc
      obtain rfl := vInt v1; obtain rfl := vInt v2; cases ed
      exact op_mul pins s σ H _ _ v u Q I rx ry ⟨_, _, rfl, rfl, hc, p.done (.int _)⟩
    · cases ed
  · split at ed
    · rename_i hc
      obtain ⟨a, xs, rfl, n1, h1, r1⟩ := vLst v1
      obtain rfl := vInt v2
      cases ed
      exact op_repR pins s σ H _ _ v u Q I rx ry ⟨_, _, _, rfl, rfl, h1, hc.1, hc.2.1, by rw [← r1.length]; exact hc.2.2, fun p' hp' => p.newL hp' (r1.flat _)⟩
    · cases ed
  · split at ed
    · rename_i hc
      obtain ⟨a, xs, rfl, h1, r1⟩ := vTup v1
      obtain rfl := vInt v2
      cases ed
      rename_i xs0 j0
      by_cases j1 : j0 = 1
      · subst j1
        refine op_repT1 pins s σ H _ _ v u Q I rx ry ⟨_, _, rfl, rfl, sqt h1, ?_, p.done (by
          have e : (List.replicate (1 : Int).toNat xs0).flatten = xs0 := by simp
          rw [e]; exact v1)⟩
        rintro rfl
        cases r1
        exact absurd hc.1 (by simp)
      refine op_repT pins s σ H _ _ v u Q I rx ry ⟨_, _, _, rfl, rfl, sqt h1, ?_, by have := hc.2.1; omega, hc.2.2.1, by rw [← r1.length]; exact hc.2.2.2, fun p' hp' => p.newT hp' (r1.flat _)⟩
      rintro rfl
      cases r1
      exact absurd hc.1 (by simp)
    · split at ed
      · rename_i hc
        have v0 := v1
        obtain ⟨a, xs, rfl, h1, r1⟩ := vTup v1
        obtain rfl := vInt v2
        cases ed
        rename_i xs0 j0 _
        have e : xs0 = [] := List.isEmpty_iff.mp hc.1
        subst e
        cases r1
        exact op_repT0 pins s σ H _ _ v u Q I rx ry ⟨_, _, rfl, rfl, hc.2.1, hc.2.2, sqt h1, p.done v0⟩
      · cases ed
  · cases ed
theorem op_divD : OpR X (binaryOp .FloorDiv) (rV2 X.K px W dDiv) := by
  intro pins s σ H x y v u Q I rx ry q
  obtain ⟨σ', w, e, h, d1, d2, v1, v2, p0⟩ := q
  obtain ⟨d, ed, p⟩ := p0.nobad
  clear p0
  unfold dDiv at ed
  split at ed
  · split at ed
    · rename_i hc
      obtain rfl := vInt v1; obtain rfl := vInt v2; cases ed
      exact op_fdiv pins s σ H _ _ v u Q I rx ry ⟨_, _, rfl, rfl, hc, p.done (.int _)⟩
    · cases ed
  · cases ed
theorem op_modD : OpR X (binaryOp .Mod) (rV2 X.K px W dMod) := by
  intro pins s σ H x y v u Q I rx ry q
  obtain ⟨σ', w, e, h, d1, d2, v1, v2, p0⟩ := q
  obtain ⟨d, ed, p⟩ := p0.nobad
  clear p0
  unfold dMod at ed
  split at ed
  · split at ed
    · rename_i hc
      obtain rfl := vInt v1; obtain rfl := vInt v2; cases ed
      exact op_mod pins s σ H _ _ v u Q I rx ry ⟨_, _, rfl, rfl, hc, p.done (.int _)⟩
    · cases ed
  · cases ed
theorem op_powD : OpR X (binaryOp .Pow) (rV2 X.K px W dPow) := by
  intro pins s σ H x y v u Q I rx ry q
  obtain ⟨σ', w, e, h, d1, d2, v1, v2, p0⟩ := q
  obtain ⟨d, ed, p⟩ := p0.nobad
  clear p0
  unfold dPow at ed
  split at ed
  · split at ed
    · rename_i hc
      obtain rfl := vInt v1; obtain rfl := vInt v2; cases ed
      exact op_pow pins s σ H _ _ v u Q I rx ry ⟨_, _, rfl, rfl, hc, p.done (.int _)⟩
    · cases ed
  · cases ed
def bopOf : Bop → Operator
  | .add => .Add | .sub => .Sub | .mul => .Mult | .fdiv => .FloorDiv | .mod => .Mod | .pow => .Pow
theorem op_binD (o : Bop) : OpR X (binaryOp (bopOf o)) (rV2 X.K px W (dBin o)) := by
  cases o
  · exact op_addD
  · exact op_subD
  · exact op_mulD
  · exact op_divD
  · exact op_modD
  · exact op_powD

/-! ### comparisons -/
def rC2 (K : PySem.W.Frag) (px : Px) (W : WX) (op : D → D → Option Bool) : R2 := rV2 K px W fun x y => (op x y).map .bl
theorem op_eqD (hu : X.A.units + 64 < cLine) : OpR X (compareOp .Eq) (rC2 X.K px W dEq) := by
  intro pins s σ H x y v u Q I rx ry q
  obtain ⟨σ', w, e, h, d1, d2, v1, v2, p0⟩ := q
  obtain ⟨d, ed, p⟩ := p0.nobad
  clear p0
  unfold dEq at ed
  dsimp only at ed
  split at ed
  · rename_i hs
    cases ed
    simp only [D.sound, Bool.and_eq_true, decide_eq_true_eq] at hs
    obtain ⟨as, r1⟩ := v1.reads I rx hs.1.1.1
    obtain ⟨bs, r2⟩ := v2.reads I ry hs.2.1.1
    exact SeqAt.eq_plain r1 r2 hs.1.1.2 hs.2.1.2 (by have := Nat.min_le_left d1.py.depth d2.py.depth; omega) ⟨.bl _, H, I, rfl, p.done (.bl _)⟩
  · cases ed
theorem op_eq0D (hu : X.A.units + 64 < cLine) : OpR X (compareOp .Eq) (rC2 X.K px W dEq0) := by
  intro pins s σ H x y v u Q I rx ry q
  obtain ⟨σ', w, e, h, d1, d2, v1, v2, p0⟩ := q
  obtain ⟨d, ed, p⟩ := p0.nobad
  clear p0
  unfold dEq0 at ed
  dsimp only at ed
  split at ed
  · split at ed
    · rename_i hk
      cases ed
      obtain ⟨as, r1⟩ := v1.reads I rx hk
      obtain ⟨a, xs, rfl, h1, r⟩ := vTup v2
      cases r
      cases ry
      obtain ⟨its, r', ho, hs⟩ := I.tuple (sqt h1)
      cases r'
      exact rcAt_empty r1 ho rfl (by omega) _ _ _ _ ⟨.bl _, H, I, rfl, p.done (.bl _)⟩
    · cases ed
  · cases ed
theorem op_neD (hu : X.A.units + 64 < cLine) : OpR X (compareOp .NotEq) (rC2 X.K px W fun x y => (dEq x y).map (!·)) := by
  intro pins s σ H x y v u Q I rx ry q
  obtain ⟨σ', w, e, h, d1, d2, v1, v2, p0⟩ := q
  obtain ⟨d, ed, p⟩ := p0.nobad
  clear p0
  unfold dEq at ed
  dsimp only at ed
  split at ed
  · rename_i hs
    cases ed
    simp only [D.sound, Bool.and_eq_true, decide_eq_true_eq] at hs
    obtain ⟨as, r1⟩ := v1.reads I rx hs.1.1.1
    obtain ⟨bs, r2⟩ := v2.reads I ry hs.2.1.1
    exact SeqAt.ne_plain r1 r2 hs.1.1.2 hs.2.1.2 (by have := Nat.min_le_left d1.py.depth d2.py.depth; omega) ⟨.bl _, H, I, rfl, p.done (.bl _)⟩
  · cases ed
theorem op_cmpI {op : CmpOp} {f : Int → Int → Bool} (hr : OpR X (compareOp op) (rI0 fun i j => .bl (f i j))) : OpR X (compareOp op) (rC2 X.K px W (dCmpI f)) := by
  intro pins s σ H x y v u Q I rx ry q
  obtain ⟨σ', w, e, h, d1, d2, v1, v2, p0⟩ := q
  obtain ⟨d, ed, p⟩ := p0.nobad
  clear p0
  cases d1 <;> cases d2 <;> simp only [dCmpI, reduceCtorEq, Option.map_none] at ed
  obtain rfl := vInt v1; obtain rfl := vInt v2; cases ed
  exact hr pins s σ H _ _ v u Q I rx ry ⟨_, _, rfl, rfl, p.done (.bl _)⟩
theorem op_ltD (hu : X.A.units + 64 < cLine) : OpR X (compareOp .Lt) (rC2 X.K px W dLt) := by
  intro pins s σ H x y v u Q I rx ry q
  obtain ⟨σ', w, e, h, d1, d2, v1, v2, p0⟩ := q
  obtain ⟨d, ed, p⟩ := p0.nobad
  clear p0
  cases d1 <;> cases d2 <;> simp only [dLt, reduceCtorEq, Option.map_none] at ed
  case int.int => obtain rfl := vInt v1; obtain rfl := vInt v2; cases ed; exact op_lt pins s σ H _ _ v u Q I rx ry ⟨_, _, rfl, rfl, p.done (.bl _)⟩
  case tup.tup xs ys =>
    split at ed
    · rename_i hs
      cases ed
      simp only [D.sound, Bool.and_eq_true, decide_eq_true_eq] at hs
      obtain ⟨as, r1⟩ := v1.reads I rx hs.1.1.1.1
      obtain ⟨bs, r2⟩ := v2.reads I ry hs.1.2.1.1
      refine PySem.W.rcLt_alike _ _ _ _ _ _ as bs r1 r2 hs.2 (by simp [D.py]) (by have := Nat.min_le_left (D.tup xs).py.depth (D.tup ys).py.depth; omega) X.prog X.w _ _ ⟨.bl _, H, I, rfl, p.done (.bl _)⟩
    · cases ed
theorem any_pys (d : D) : ∀ xs : List D, (D.pys xs).any (fun z => PyData.eqv z d.py) = xs.any fun z => PyData.eqv z.py d.py
  | [] => rfl
  | x :: xs => by rw [D.pys, List.any_cons, List.any_cons, any_pys d xs]
theorem in_units {u : Nat} {xs : List D} {d : D} (hu : u + 64 < cLine) (h2 : PyData.depth d.py ≤ 60) : u + 1 + min (PyData.depthAll (D.pys xs)) d.py.depth < cLine := by
  have := Nat.min_le_right (PyData.depthAll (D.pys xs)) d.py.depth
  omega
theorem py_sq {d : D} {xs : List D} (h : d.sq? = some xs) : d.py = .list (D.pys xs) ∨ d.py = .tuple (D.pys xs) := by
  cases d <;> cases h <;> first | exact .inl rfl | exact .inr rfl
theorem op_inD (hu : X.A.units + 64 < cLine) : OpR X (compareOp .In) (rC2 X.K px W dIn) := by
  intro pins s σ H x y v u Q I rx ry q
  obtain ⟨σ', w, e, h, d1, d2, v1, v2, p0⟩ := q
  obtain ⟨d, ed, p⟩ := p0.nobad
  clear p0
  unfold dIn at ed
  dsimp only at ed
  split at ed
  · obtain rfl := vStr v1; obtain rfl := vStr v2; cases ed
    exact op_in_str pins s σ H _ _ v u Q I rx ry ⟨_, _, rfl, rfl, p.done (.bl _)⟩
  · split at ed
    · rename_i xs hq
      split at ed
      · rename_i hs
        cases ed
        simp only [D.sound, Bool.and_eq_true, decide_eq_true_eq] at hs
        obtain ⟨as, r1⟩ := v1.reads I rx hs.1.1.1
        obtain ⟨bs, r2⟩ := v2.reads I ry hs.2.1.1
        rcases py_sq hq with ep | ep
        · rw [ep] at r2
          have hp := hs.2.1.2
          rw [ep] at hp
          exact SeqAt.in_list_data (xs := D.pys xs) r2 r1 hp hs.1.1.2 (in_units hu hs.1.2) (by rw [any_pys]; exact ⟨.bl _, H, I, rfl, p.done (.bl _)⟩)
        · rw [ep] at r2
          have hp := hs.2.1.2
          rw [ep] at hp
          exact SeqAt.in_tuple_data (xs := D.pys xs) r2 r1 hp hs.1.1.2 (in_units hu hs.1.2) (by rw [any_pys]; exact ⟨.bl _, H, I, rfl, p.done (.bl _)⟩)
      · cases ed
    · cases ed
theorem op_notinD (hu : X.A.units + 64 < cLine) : OpR X (compareOp .NotIn) (rC2 X.K px W fun x y => (dIn x y).map (!·)) := by
  intro pins s σ H x y v u Q I rx ry q
  obtain ⟨σ', w, e, h, d1, d2, v1, v2, p0⟩ := q
  obtain ⟨d, ed, p⟩ := p0.nobad
  clear p0
  unfold dIn at ed
  dsimp only at ed
  split at ed
  · obtain rfl := vStr v1; obtain rfl := vStr v2; cases ed
    exact op_notin_str pins s σ H _ _ v u Q I rx ry ⟨_, _, rfl, rfl, p.done (.bl _)⟩
  · split at ed
    · rename_i xs hq
      split at ed
      · rename_i hs
        cases ed
        simp only [D.sound, Bool.and_eq_true, decide_eq_true_eq] at hs
        obtain ⟨as, r1⟩ := v1.reads I rx hs.1.1.1
        obtain ⟨bs, r2⟩ := v2.reads I ry hs.2.1.1
        rcases py_sq hq with ep | ep
        · rw [ep] at r2
          have hp := hs.2.1.2
          rw [ep] at hp
          exact SeqAt.notIn_list_data (xs := D.pys xs) r2 r1 hp hs.1.1.2 (in_units hu hs.1.2) (by rw [any_pys]; exact ⟨.bl _, H, I, rfl, p.done (.bl _)⟩)
        · rw [ep] at r2
          have hp := hs.2.1.2
          rw [ep] at hp
          exact SeqAt.notIn_tuple_data (xs := D.pys xs) r2 r1 hp hs.1.1.2 (in_units hu hs.1.2) (by rw [any_pys]; exact ⟨.bl _, H, I, rfl, p.done (.bl _)⟩)
      · cases ed
    · cases ed
theorem isN_v {K : PySem.W.Frag} {w : Wd} {H : Hp} {d : D} {v : V} (r : VT K w H d v) : decide (v = .non) = dIsN d := by
  cases r with
  | of r =>
    cases r with
    | of r => cases r <;> first | rfl | exact decide_eq_false (fun z => by cases z)
    | scr => exact decide_eq_false (fun z => by cases z)
    | scrK => exact decide_eq_false (fun z => by cases z)
  | bor => exact decide_eq_false (fun z => by cases z)
theorem op_isND : OpR X (compareOp .Is) (rC2 X.K px W fun a b => if dIsN b then some (dIsN a) else none) := by
  intro pins s σ H x y v u Q I rx ry q
  obtain ⟨σ', w, e, h, d1, d2, v1, v2, p0⟩ := q
  obtain ⟨d, ed, p⟩ := p0.nobad
  clear p0
  cases d2 <;> simp only [dIsN, reduceCtorEq, Option.map_none, if_true, Bool.false_eq_true, if_false, Option.map_some] at ed
  obtain rfl := vNon v2
  cases ed
  exact op_isN pins s σ H _ _ v u Q I rx ry ⟨rfl, by rw [isN_v v1]; exact p.done (.bl _)⟩
theorem op_notND : OpR X (compareOp .IsNot) (rC2 X.K px W fun a b => if dIsN b then some (!dIsN a) else none) := by
  intro pins s σ H x y v u Q I rx ry q
  obtain ⟨σ', w, e, h, d1, d2, v1, v2, p0⟩ := q
  obtain ⟨d, ed, p⟩ := p0.nobad
  clear p0
  cases d2 <;> simp only [dIsN, reduceCtorEq, Option.map_none, if_true, Bool.false_eq_true, if_false, Option.map_some] at ed
  obtain rfl := vNon v2
  cases ed
  exact op_notN pins s σ H _ _ v u Q I rx ry ⟨rfl, by rw [isN_v v1]; exact p.done (.bl _)⟩
theorem op_notBD : OpR X (compareOp .IsNot) (rC2 X.K px W dNotB) := by
  intro pins s σ H x y v u Q I rx ry q
  obtain ⟨σ', w, e, h, d1, d2, v1, v2, p0⟩ := q
  obtain ⟨d, ed, p⟩ := p0.nobad
  clear p0
  unfold dNotB at ed
  dsimp only at ed
  split at ed
  · cases ed
    obtain rfl := vBl v1
    obtain rfl := vBl v2
    exact op_notBl pins s σ H _ _ v u Q I rx ry ⟨_, _, rfl, rfl, p.done (.bl _)⟩
  · cases ed
def copOf : Cop → CmpOp
  | .eq => .Eq | .ne => .NotEq | .lt => .Lt | .le => .LtE | .gt => .Gt | .ge => .GtE | .isin => .In | .notin => .NotIn | .isN => .Is | .notN => .IsNot | .eq0 => .Eq | .notB => .IsNot
theorem op_cmpD (hu : X.A.units + 64 < cLine) (o : Cop) : OpR X (compareOp (copOf o)) (rC2 X.K px W (dCmp o)) := by
  cases o
  · exact op_eqD hu
  · exact op_neD hu
  · exact op_ltD hu
  · exact op_cmpI op_le
  · exact op_cmpI op_gt
  · exact op_cmpI op_ge
  · exact op_inD hu
  · exact op_notinD hu
  · exact op_isND
  · exact op_notND
  · exact op_eq0D hu
  · exact op_notBD
end
/-- what every rule asks of the place where it is used -/
structure Cz (X : Cx) : Prop where
  un : X.A.units + 200 < cLine
  gd : X.A.guards = some []
  sm : ∃ o, X.base.get? sysModules = some o ∧ o.cls ≠ .type "list"
section
variable {X : Cx} {px : Px} {W : WX}
/-! ### isinstance -/
def tyOf : Ty → String
  | .int => "int" | .bool => "bool" | .tuple => "tuple" | .str => "str" | .list => "list" | .exc _ => "" | .value => "ValueError"
def isL : Ty → Bool
  | .list => true | _ => false
def plainTy : Ty → Bool
  | .exc _ => false | .value => false | _ => true
theorem nr_reads {pins : List (Addr × Obj)} {σ : L2.St} {H : Hp} {s : Shared} {w : Wd} (I : Inv X pins σ H s) {d : D} {v : V} {u : Value} {Q : Value → Shared → Prop} {E : Value → Shared → Prop} (h : VT X.K w H d v) (r : RelV v u) {t : Ty} {b : Bool} (ht : plainTy t = true) (e : dIsi t d = some b) (q : ∀ tk, Q (.bool b) { s with toks := tk }) :
    wpAny (model X.prog X.w) X.A (call (.builtin "isinstance") [u, .type (tyOf t)]) Q E s := by
  have lstC : ∀ {a : Addr} {xs : List V}, (SqL X.K H a xs) → RelV (.ref a) u → ∃ o, u = .ref a ∧ s.heap.get? a = some o ∧ o.cls = .type "list" := by
    intro a xs hq r
    cases r
    obtain ⟨its, rv, ⟨o, n, ho, hc, _, hd⟩, _⟩ := I.list hq
    exact ⟨o, rfl, ho, hc⟩
  have onL : ∀ {a : Addr} {xs : List V}, (SqL X.K H a xs) → RelV (.ref a) u → isL t = b → wpAny (model X.prog X.w) X.A (call (.builtin "isinstance") [u, .type (tyOf t)]) Q E s := by
    intro a xs hq r hb
    obtain ⟨o, rfl, ho, hc⟩ := lstC hq r
    cases t <;> first | cases ht | skip
    · subst hb; exact IsiPair.list_int ho hc (q _)
    · subst hb; exact IsiPair.list_bool ho hc (q _)
    · subst hb; exact IsiPair.list_tuple ho hc (q _)
    · subst hb; exact IsiPair.list_str ho hc (q _)
    · subst hb; exact IsiPair.list_list ho hc (q _)
  cases h with
  | bor m n hq ha => exact onL (.inl (.inl hq)) r (by cases t <;> first | (cases ht; done) | (cases e; rfl))
  | of h =>
    cases h with
    | scr n1 n2 hq ha => exact onL (.inl hq) r (by cases t <;> first | (cases ht; done) | (cases e; rfl))
    | scrK hq ha => exact onL (.inr hq) r (by cases t <;> first | (cases ht; done) | (cases e; rfl))
    | of h =>
      cases h with
      | non => cases r; cases t <;> first | cases ht | skip
               · cases e; exact IsiPair.NoneType_int (q _)
               · cases e; exact IsiPair.NoneType_bool (q _)
               · cases e; exact IsiPair.NoneType_tuple (q _)
               · cases e; exact IsiPair.NoneType_str (q _)
               · cases e; exact IsiPair.NoneType_list (q _)
      | bl b => cases r; cases t <;> first | cases ht | skip
                · cases e; exact IsiPair.bool_int (q s.toks)
                · cases e; exact IsiPair.bool_bool (q s.toks)
                · cases e; exact IsiPair.bool_tuple (q _)
                · cases e; exact IsiPair.bool_str (q _)
                · cases e; exact IsiPair.bool_list (q _)
      | int i => obtain ⟨tk, rfl⟩ := r; cases t <;> first | cases ht | skip
                 · cases e; exact IsiPair.int_int (q s.toks)
                 · cases e; exact IsiPair.int_bool (q _)
                 · cases e; exact IsiPair.int_tuple (q _)
                 · cases e; exact IsiPair.int_str (q _)
                 · cases e; exact IsiPair.int_list (q _)
      | str i => obtain ⟨tk, rfl⟩ := r; cases t <;> first | cases ht | skip
                 · cases e; exact IsiPair.str_int (q _)
                 · cases e; exact IsiPair.str_bool (q _)
                 · cases e; exact IsiPair.str_tuple (q _)
                 · cases e; exact IsiPair.str_str (q s.toks)
                 · cases e; exact IsiPair.str_list (q _)
      | tup hq ha =>
        cases r
        obtain ⟨its, rv, ⟨o, ho, hc, n, hd⟩, _⟩ := I.tuple (.inl (.inl hq))
        cases t <;> first | cases ht | skip
        · cases e; exact IsiPair.tuple_int ho hc (q _)
        · cases e; exact IsiPair.tuple_bool ho hc (q _)
        · cases e; exact IsiPair.tuple_tuple ho hc (q _)
        · cases e; exact IsiPair.tuple_str ho hc (q _)
        · cases e; exact IsiPair.tuple_list ho hc (q _)
      | lst n hq ha => exact onL (.inl (.inl hq)) r (by cases t <;> first | (cases ht; done) | (cases e; rfl))
      | dct n nd hq =>
        cases r
        obtain ⟨_, _, vs, rv, o, es, ep, ho, hx, hd, _⟩ := I.hok _ _ hq
        cases t <;> first | cases ht | skip
        · cases e; exact IsiPair.dict_int ho hx.1 (q _)
        · cases e; exact IsiPair.dict_bool ho hx.1 (q _)
        · cases e; exact IsiPair.dict_tuple ho hx.1 (q _)
        · cases e; exact IsiPair.dict_str ho hx.1 (q _)
        · cases e; exact IsiPair.dict_list ho hx.1 (q _)
      | ref hq => cases t <;> first | (cases ht; done) | (cases e; done)
/-- truth -/
theorem VT.tru {K : PySem.W.Frag} {w : Wd} {H : Hp} {d : D} {v : V} {k : Bool} (h : VT K w H d v) (e : d.tru = some k) : TruV K v H k := by
  have go : ∀ {ds : List D} {a : Addr} {xs : List V}, (SqL K H a xs ∨ SqT K H a xs) → VRs K w H ds xs → some (!ds.isEmpty) = some k → TruV K (.ref a) H k := by
    intro ds a xs hq r e
    cases e
    rw [r.isEmpty]
    rcases hq with hq | hq
    · exact .inl ⟨xs, hq, rfl⟩
    · exact .inr (.inl ⟨xs, hq, rfl⟩)
  cases h with
  | bor m n q r => exact go (.inl (.inl (.inl q))) r e
  | of h =>
    cases h with
    | scr n1 n2 q r => exact go (.inl (.inl q)) r e
    | scrK q r => exact go (.inl (.inr q)) r e
    | of h =>
      cases h with
      | non => cases e; rfl
      | bl b => cases e; rfl
      | int b => cases e; rfl
      | str b =>
        have e : (if b.length ≤ LIM then some (b.length != 0) else none) = some k := e
        split at e
        · rename_i hl
          cases e
          refine ⟨by rw [← LIM_eq]; exact hl, ?_⟩
          by_cases h0 : b.length = 0
          · simp [h0]
          · have : ((b.length : Int) != 0) = true := by simp; omega
            rw [this]; simp [h0]
        · cases e
      | tup q r => exact go (.inr (.inl (.inl q))) r e
      | lst n q r => exact go (.inl (.inl (.inl q))) r e
      | dct n nd q => cases e
      | ref q => cases e
end
end Tv
end

section
set_option autoImplicit false
set_option maxHeartbeats 1000000
/-! Built-in functions by values; subscripts; truth. -/
namespace Tv
open PySem PySem.Spec PyProof.Rows L2
/-- a call of a built-in -/
def rBi (K : PySem.W.Frag) (px : Px) (W : WX) (b : Bi) : List V → Hp → VK → Prop := fun vs H Q => ∃ σ w e h ds, VTs K w H ds vs ∧ Pre K px W σ (relV K) w e h H Q (R.of (dBi b ds) h)
section
variable {X : Cx} {px : Px} {W : WX} {K : PySem.W.Frag} {w : Wd} {H : Hp}
theorem one {ds : List D} {vs : List V} {f : D → Option D} {d : D} (h : VTs K w H ds vs) (e : ar1 f ds = some d) : ∃ x v, vs = [v] ∧ VT K w H x v ∧ f x = some d := by
  cases h with
  | nil => cases e
  | cons a r =>
    cases r with
    | nil => exact ⟨_, _, rfl, a, e⟩
    | cons _ _ => cases e
theorem two {ds : List D} {vs : List V} {f : D → D → Option D} {d : D} (h : VTs K w H ds vs) (e : ar2 f ds = some d) : ∃ x y v u, vs = [v, u] ∧ VT K w H x v ∧ VT K w H y u ∧ f x y = some d := by
  cases h with
  | nil => cases e
  | cons a r =>
    cases r with
    | nil => cases e
    | cons b r =>
      cases r with
      | nil => exact ⟨_, _, _, _, rfl, a, b, e⟩
      | cons _ _ => cases e
theorem onL_of {f : List D → Option D} {x d : D} {v : V} (h : VT K w H x v) (e : onL f x = some d) : ∃ a xs ds, v = .ref a ∧ SqL K H a xs ∧ VRs K w H ds xs ∧ x.ls? = some ds ∧ f ds = some d := by
  unfold onL at e
  split at e
  · rename_i ds q
    obtain ⟨a, xs, h1, h2, h3⟩ := h.ls q
    exact ⟨a, xs, ds, h1, h2, h3, q, e⟩
  · cases e
theorem onQ_of {f : List D → Option D} {x d : D} {v : V} (h : VT K w H x v) (e : onQ f x = some d) : ∃ a xs ds, v = .ref a ∧ (SqL K H a xs ∨ SqT K H a xs) ∧ VRs K w H ds xs ∧ f ds = some d := by
  cases x with
  | tup ds =>
    obtain ⟨a, xs, rfl, h1, r⟩ := vTup h
    exact ⟨a, xs, ds, rfl, .inr (sqt h1), r, e⟩
  | _ =>
    first
    | cases e
    | (obtain ⟨a, xs, ds, h1, h2, h3, _, h4⟩ := onL_of (f := f) h e
       exact ⟨a, xs, ds, h1, .inl h2, h3, h4⟩)
theorem allB_of : ∀ {ds : List D} {vs : List V} {bs : List Bool}, VRs K w H ds vs → allB ds = some bs → vs = bs.map V.bl
  | _, _, _, .nil, e => by cases e; rfl
  | .bl b :: r, _, bs, .cons a q, e => by
    rw [allB] at e
    cases e1 : allB r with
    | none => rw [e1] at e; cases e
    | some cs =>
      rw [e1] at e
      cases e
      rw [allB_of q e1]
      cases a
      rfl
  | .non :: _, _, _, .cons _ _, e => by cases e
  | .int _ :: _, _, _, .cons _ _, e => by cases e
  | .str _ :: _, _, _, .cons _ _, e => by cases e
  | .tup _ :: _, _, _, .cons _ _, e => by cases e
  | .lst _ :: _, _, _, .cons _ _, e => by cases e
  | .dct _ :: _, _, _, .cons _ _, e => by cases e
  | .ref _ :: _, _, _, .cons _ _, e => by cases e
theorem allI_of : ∀ {ds : List D} {vs : List V} {bs : List Int}, VRs K w H ds vs → allI ds = some bs → vs = bs.map V.int
  | _, _, _, .nil, e => by cases e; rfl
  | .int b :: r, _, bs, .cons a q, e => by
    rw [allI] at e
    cases e1 : allI r with
    | none => rw [e1] at e; cases e
    | some cs =>
      rw [e1] at e
      cases e
      rw [allI_of q e1]
      cases a
      rfl
  | .non :: _, _, _, .cons _ _, e => by cases e
  | .bl _ :: _, _, _, .cons _ _, e => by cases e
  | .str _ :: _, _, _, .cons _ _, e => by cases e
  | .tup _ :: _, _, _, .cons _ _, e => by cases e
  | .lst _ :: _, _, _, .cons _ _, e => by cases e
  | .dct _ :: _, _, _, .cons _ _, e => by cases e
  | .ref _ :: _, _, _, .cons _ _, e => by cases e
theorem allS_of : ∀ {ds : List D} {vs : List V} {bs : List Str}, VRs K w H ds vs → allS ds = some bs → vs = bs.map V.str
  | _, _, _, .nil, e => by cases e; rfl
  | .str b :: r, _, bs, .cons a q, e => by
    rw [allS] at e
    cases e1 : allS r with
    | none => rw [e1] at e; cases e
    | some cs =>
      rw [e1] at e
      cases e
      rw [allS_of q e1]
      cases a
      rfl
  | .non :: _, _, _, .cons _ _, e => by cases e
  | .bl _ :: _, _, _, .cons _ _, e => by cases e
  | .int _ :: _, _, _, .cons _ _, e => by cases e
  | .tup _ :: _, _, _, .cons _ _, e => by cases e
  | .lst _ :: _, _, _, .cons _ _, e => by cases e
  | .dct _ :: _, _, _, .cons _ _, e => by cases e
  | .ref _ :: _, _, _, .cons _ _, e => by cases e
theorem maxL_spec : ∀ (is : List Int) (i : Int), maxL i is ∈ i :: is ∧ ∀ y ∈ i :: is, y ≤ maxL i is
  | [], i => by simp [maxL]
  | x :: xs, i => by
    obtain ⟨h1, h2⟩ := maxL_spec xs (if i < x then x else i)
    rw [maxL]
    refine ⟨?_, fun y hy => ?_⟩
    · rcases List.mem_cons.mp h1 with h | h
      · rw [h]; split <;> simp
      · exact List.mem_cons_of_mem _ (List.mem_cons_of_mem _ h)
    · have h3 := h2 (if i < x then x else i) List.mem_cons_self
      have h4 : i ≤ maxL (if i < x then x else i) xs ∧ x ≤ maxL (if i < x then x else i) xs := by
        by_cases q : i < x
        · simp only [q, if_true] at h3 ⊢; omega
        · simp only [q, if_false] at h3 ⊢; omega
      rcases List.mem_cons.mp hy with rfl | hy
      · exact h4.1
      · rcases List.mem_cons.mp hy with rfl | hy
        · exact h4.2
        · exact h2 y (List.mem_cons_of_mem _ hy)
theorem maxL_uniq {is : List Int} {i m : Int} (h1 : m ∈ i :: is) (h2 : ∀ y ∈ i :: is, y ≤ m) : m = maxL i is := by
  obtain ⟨h3, h4⟩ := maxL_spec is i
  have := h2 _ h3
  have := h4 _ h1
  omega
theorem bi_len : CallR X (.builtin "len") (rBi X.K px W .len) := by
  intro pins s σ H vs us Q I r q
  obtain ⟨σ', w, e, h, ds, v, p0⟩ := q
  obtain ⟨d, ed, p⟩ := p0.nobad
  clear p0
  obtain ⟨x, u, rfl, hv, ed⟩ := one v ed
  unfold dLen at ed
  split at ed
  · rename_i st
    split at ed
    · rename_i hl
      obtain rfl := vStr hv
      cases ed
      exact call_len_str pins s σ H _ us Q I r ⟨st, rfl, by rw [← LIM_eq]; exact hl, p.done (.int _)⟩
    · cases ed
  · cases q1 : x.sq? with
    | none => rw [q1] at ed; cases ed
    | some ys =>
      rw [q1] at ed
      cases ed
      obtain ⟨a, xs, rfl, h1, h2⟩ := hv.sq q1
      exact call_len_seq pins s σ H _ us Q I r ⟨a, xs, rfl, h1, by rw [← h2.length]; exact p.done (.int _)⟩
theorem bi_all (hc : X.calm = true) : CallR X (.builtin "all") (rBi X.K px W .all) := by
  intro pins s σ H vs us Q I r q
  obtain ⟨σ', w, e, h, ds, v, p0⟩ := q
  obtain ⟨d, ed, p⟩ := p0.nobad
  clear p0
  obtain ⟨x, u, rfl, hv, ed⟩ := one v ed
  obtain ⟨a, xs, es, rfl, h1, h2, _, ed⟩ := onL_of hv ed
  cases q1 : allB es with
  | none => rw [q1] at ed; cases ed
  | some bs =>
    rw [q1] at ed
    cases ed
    obtain rfl := allB_of h2 q1
    exact cr_all hc pins s σ H _ us Q I r ⟨a, bs, rfl, h1, p.done (.bl _)⟩
theorem bi_any (hc : X.calm = true) : CallR X (.builtin "any") (rBi X.K px W .any) := by
  intro pins s σ H vs us Q I r q
  obtain ⟨σ', w, e, h, ds, v, p0⟩ := q
  obtain ⟨d, ed, p⟩ := p0.nobad
  clear p0
  obtain ⟨x, u, rfl, hv, ed⟩ := one v ed
  obtain ⟨a, xs, es, rfl, h1, h2, _, ed⟩ := onL_of hv ed
  cases q1 : allB es with
  | none => rw [q1] at ed; cases ed
  | some bs =>
    rw [q1] at ed
    cases ed
    obtain rfl := allB_of h2 q1
    exact cr_any hc pins s σ H _ us Q I r ⟨a, bs, rfl, h1, p.done (.bl _)⟩
theorem bi_sum (hc : X.calm = true) : CallR X (.builtin "sum") (rBi X.K px W .sum) := by
  intro pins s σ H vs us Q I r q
  obtain ⟨σ', w, e, h, ds, v, p0⟩ := q
  obtain ⟨d, ed, p⟩ := p0.nobad
  clear p0
  obtain ⟨x, u, rfl, hv, ed⟩ := one v ed
  obtain ⟨a, xs, es, rfl, h1, h2, _, ed⟩ := onL_of hv ed
  cases q1 : allI es with
  | none => rw [q1] at ed; cases ed
  | some bs =>
    rw [q1] at ed
    cases ed
    obtain rfl := allI_of h2 q1
    exact cr_sum hc pins s σ H _ us Q I r ⟨a, bs, rfl, h1, p.done (.int _)⟩
theorem bi_max1 (hc : X.calm = true) : CallR X (.builtin "max") (rBi X.K px W .max1) := by
  intro pins s σ H vs us Q I r q
  obtain ⟨σ', w, e, h, ds, v, p0⟩ := q
  obtain ⟨d, ed, p⟩ := p0.nobad
  clear p0
  obtain ⟨x, u, rfl, hv, ed⟩ := one v ed
  obtain ⟨a, xs, es, rfl, h1, h2, _, ed⟩ := onL_of hv ed
  unfold dMaxL at ed
  split at ed
  · rename_i i is q1
    cases ed
    obtain rfl := allI_of h2 q1
    exact cr_max hc pins s σ H _ us Q I r ⟨a, i :: is, rfl, h1, by simp, fun m m1 m2 => by rw [maxL_uniq m1 m2]; exact p.done (.int _)⟩
  · cases ed
theorem bi_max2 (hc : X.calm = true) : CallR X (.builtin "max") (rBi X.K px W .max2) := by
  intro pins s σ H vs us Q I r q
  obtain ⟨σ', w, e, h, ds, v, p0⟩ := q
  obtain ⟨d, ed, p⟩ := p0.nobad
  clear p0
  obtain ⟨x, y, u1, u2, rfl, v1, v2, ed⟩ := two v ed
  cases x <;> cases y <;> simp only [dMax2, reduceCtorEq] at ed
  obtain rfl := vInt v1; obtain rfl := vInt v2; cases ed
  exact call_max2 hc pins s σ H _ us Q I r ⟨_, _, rfl, p.done (.int _)⟩
theorem bi_min2 (hc : X.calm = true) : CallR X (.builtin "min") (rBi X.K px W .min2) := by
  intro pins s σ H vs us Q I r q
  obtain ⟨σ', w, e, h, ds, v, p0⟩ := q
  obtain ⟨d, ed, p⟩ := p0.nobad
  clear p0
  obtain ⟨x, y, u1, u2, rfl, v1, v2, ed⟩ := two v ed
  cases x <;> cases y <;> simp only [dMin2, reduceCtorEq] at ed
  obtain rfl := vInt v1; obtain rfl := vInt v2; cases ed
  exact call_min2 hc pins s σ H _ us Q I r ⟨_, _, rfl, p.done (.int _)⟩
theorem bi_abs : CallR X (.builtin "abs") (rBi X.K px W .abs) := by
  intro pins s σ H vs us Q I r q
  obtain ⟨σ', w, e, h, ds, v, p0⟩ := q
  obtain ⟨d, ed, p⟩ := p0.nobad
  clear p0
  obtain ⟨x, u, rfl, hv, ed⟩ := one v ed
  cases x <;> simp only [dAbs, reduceCtorEq] at ed
  obtain rfl := vInt hv; cases ed
  exact call_abs pins s σ H _ us Q I r ⟨_, rfl, p.done (.int _)⟩
theorem bi_divmod : CallR X (.builtin "divmod") (rBi X.K px W .divmod) := by
  intro pins s σ H vs us Q I r q
  obtain ⟨σ', w, e, h, ds, v, p0⟩ := q
  obtain ⟨d, ed, p⟩ := p0.nobad
  clear p0
  obtain ⟨x, y, u1, u2, rfl, v1, v2, ed⟩ := two v ed
  cases x <;> cases y <;> simp only [dDivmod, reduceCtorEq] at ed
  split at ed
  · rename_i hc
    obtain rfl := vInt v1; obtain rfl := vInt v2; cases ed
    exact call_divmod pins s σ H _ us Q I r ⟨_, _, rfl, hc, fun a ha => p.newT ha (.cons (.int _) (.cons (.int _) .nil))⟩
  · cases ed
theorem bi_int : CallR X (.type "int") (rBi X.K px W .int) := by
  intro pins s σ H vs us Q I r q
  obtain ⟨σ', w, e, h, ds, v, p0⟩ := q
  obtain ⟨d, ed, p⟩ := p0.nobad
  clear p0
  obtain ⟨x, u, rfl, hv, ed⟩ := one v ed
  cases x <;> simp only [dInt, reduceCtorEq] at ed
  · obtain rfl := vBl hv; cases ed
    exact call_int1 pins s σ H _ us Q I r (.inr ⟨_, rfl, p.done (.int _)⟩)
  · obtain rfl := vInt hv; cases ed
    exact call_int1 pins s σ H _ us Q I r (.inl ⟨_, rfl, p.done (.int _)⟩)
theorem bi_list : CallR X (.type "list") (rBi X.K px W .list) := by
  intro pins s σ H vs us Q I r q
  obtain ⟨σ', w, e, h, ds, v, p0⟩ := q
  obtain ⟨d, ed, p⟩ := p0.nobad
  clear p0
  obtain ⟨x, u, rfl, hv, ed⟩ := one v ed
  cases q1 : x.sq? with
  | none => rw [q1] at ed; cases ed
  | some ys =>
    rw [q1] at ed
    cases ed
    obtain ⟨a, xs, rfl, h1, h2⟩ := hv.sq q1
    exact call_list_of pins s σ H _ us Q I r ⟨a, xs, rfl, h1, fun l hl => p.newL hl h2⟩
theorem bi_tuple : CallR X (.type "tuple") (rBi X.K px W .tuple) := by
  intro pins s σ H vs us Q I r q
  obtain ⟨σ', w, e, h, ds, v, p0⟩ := q
  obtain ⟨d, ed, p⟩ := p0.nobad
  clear p0
  obtain ⟨x, u, rfl, hv, ed⟩ := one v ed
  cases q1 : x.sq? with
  | none => rw [q1] at ed; cases ed
  | some ys =>
    rw [q1] at ed
    cases ed
    obtain ⟨a, xs, rfl, h1, h2⟩ := hv.sqS q1
    refine call_tuple_of pins s σ H _ us Q I r ⟨a, xs, rfl, ?_⟩
    rcases h1 with h1 | h1
    · exact .inl ⟨h1, fun l hl => p.newT hl h2⟩
    · exact .inr ⟨sqt h1, p.done (.of (.of (.tup h1 h2)))⟩
end
end Tv
namespace Tv
open PySem PySem.Spec PyProof.Rows L2
section
variable {X : Cx} {px : Px} {W : WX}
theorem flat_ref {K : PySem.W.Frag} {w : Wd} {H : Hp} {d : D} {v : V} (h : VT K w H d v) (k : d.rd = true) : d = .non ∧ v = .non ∨ (∃ b, d = .bl b ∧ v = .bl b) ∨ (∃ b, d = .int b ∧ v = .int b) ∨ (∃ b, d = .str b ∧ v = .str b) ∨ ∃ a, v = .ref a := by
  cases h with
  | bor => exact .inr (.inr (.inr (.inr ⟨_, rfl⟩)))
  | of h =>
    cases h with
    | scr => exact .inr (.inr (.inr (.inr ⟨_, rfl⟩)))
    | scrK => exact .inr (.inr (.inr (.inr ⟨_, rfl⟩)))
    | of h =>
      cases h with
      | non => exact .inl ⟨rfl, rfl⟩
      | bl b => exact .inr (.inl ⟨b, rfl, rfl⟩)
      | int b => exact .inr (.inr (.inl ⟨b, rfl, rfl⟩))
      | str b => exact .inr (.inr (.inr (.inl ⟨b, rfl, rfl⟩)))
      | _ => exact .inr (.inr (.inr (.inr ⟨_, rfl⟩)))
theorem Cz.noSys (z : Cz X) {pins : List (Addr × Obj)} {σ : L2.St} {H : Hp} {s : Shared} (I : Inv X pins σ H s) {as : List Addr} (t : ∀ a ∈ as, H a ≠ none ∨ ∃ o, X.K.lookup a = some o ∧ o.cls = .type "list") : sysModules ∉ as := fun m => by
  obtain ⟨o, ho, hl⟩ := z.sm
  rcases t _ m with h | ⟨u, h1, h2⟩
  · exact h (I.bs _ o ho).2
  · have e := I.ok.mod.kin _ _ h1
    rw [ho] at e
    cases e
    exact hl h2
theorem bi_rep (z : Cz X) : CallR X (.builtin "repr") (rBi X.K px W .rep) := by
  intro pins s σ H vs us Q I r q
  obtain ⟨σ', w, e, h, ds, v, p0⟩ := q
  obtain ⟨d, ed, p⟩ := p0.nobad
  clear p0
  obtain ⟨x, u, rfl, hv, ed⟩ := one v ed
  obtain ⟨ux, rfl, rx⟩ := vals1 r
  unfold dRep at ed
  split at ed
  · rename_i hs
    cases ed
    simp only [D.shows, Bool.and_eq_true, decide_eq_true_eq] at hs
    obtain ⟨⟨⟨h1, h2⟩, h3⟩, h4⟩ := hs
    rw [LIM_eq] at h4
    have q : Q (.str (PyData.shown x.py)) H := p.done (.str _)
    rcases flat_ref hv h1 with ⟨rfl, rfl⟩ | ⟨b, rfl, rfl⟩ | ⟨b, rfl, rfl⟩ | ⟨b, rfl, rfl⟩ | ⟨a, rfl⟩
    · cases rx
      exact PySem.P.repr_of_none ⟨.str _, H, I.tok _, ⟨_, rfl⟩, q⟩
    · cases rx
      exact PySem.P.repr_of_bool ⟨.str _, H, I.tok _, ⟨_, rfl⟩, q⟩
    · obtain ⟨t, rfl⟩ := rx
      exact PySem.P.repr_of_int (by simpa [D.py, PyData.showable] using h2) ⟨.str _, H, I.tok _, ⟨_, rfl⟩, q⟩
    · obtain ⟨t, rfl⟩ := rx
      exact PySem.P.repr_of_str ⟨.str _, H, I.tok _, ⟨_, rfl⟩, q⟩ h4
    · cases rx
      obtain ⟨as, rd, ht⟩ := hv.readsT I rfl h1
      refine repr_of_reads' rd h2 (fun _ => z.noSys I ht) z.gd (by have := z.un; omega) (fun _ _ e => e) (fun h' t tk hk => ?_) h4
      exact ⟨.str _, H, I.kept (t' := tk) hk, ⟨_, rfl⟩, q⟩
  · cases ed
theorem bi_str : CallR X (.type "str") (rBi X.K px W .str) := by
  intro pins s σ H vs us Q I r q
  obtain ⟨σ', w, e, h, ds, v, p0⟩ := q
  obtain ⟨d, ed, p⟩ := p0.nobad
  clear p0
  obtain ⟨x, u, rfl, hv, ed⟩ := one v ed
  cases x <;> simp only [dStr, reduceCtorEq] at ed
  · obtain rfl := vBl hv; cases ed
    obtain ⟨ux, rfl, rx⟩ := vals1 r
    cases rx
    exact PySem.P.str_of_bool ⟨.str _, H, I.tok _, ⟨_, rfl⟩, p.done (.str _)⟩
  · split at ed
    · rename_i hl
      obtain rfl := vInt hv; cases ed
      exact call_str_int pins s σ H _ us Q I r ⟨_, rfl, hl, p.done (.str _)⟩
    · cases ed
theorem plain_list {d : D} {xs : List D} (h : d.ls? = some xs) : d.py = .list (D.pys xs) := by
  cases d <;> cases h <;> rfl
theorem findIdx_pys (x : D) : ∀ (xs : List D), (D.pys xs).findIdx? (fun z => PyData.eqv z x.py) = xs.findIdx? fun z => PyData.eqv z.py x.py := fun xs => by
  rw [D.pys_map, List.findIdx?_map]; rfl
theorem count_pys (x : D) (xs : List D) : (D.pys xs).countP (fun z => PyData.eqv z x.py) = xs.countP fun z => PyData.eqv z.py x.py := by
  rw [D.pys_map, List.countP_map]; rfl
theorem mt_countD (z : Cz X) : MtR X "list.count" (fun x xs H Q => rBi X.K px W .count (x :: xs) H Q) := by
  intro pins s σ H x xs v us Q I rx rs q
  obtain ⟨σ', w, e, h, ds, hv, p0⟩ := q
  obtain ⟨d, ed, p⟩ := p0.nobad
  clear p0
  obtain ⟨l, y, v1, v2, e1, h1, h2, ed⟩ := two hv ed
  cases e1
  obtain ⟨ux, rfl, ry⟩ := vals1 rs
  unfold dCount at ed
  split at ed
  · rename_i es q1
    split at ed
    · rename_i hs
      cases ed
      simp only [D.sound, Bool.and_eq_true, decide_eq_true_eq] at hs
      obtain ⟨a, xs, rfl, hq, ha⟩ := h1.ls q1
      cases rx
      obtain ⟨as, r1⟩ := h1.reads I rfl hs.1.1.1
      obtain ⟨bs, r2⟩ := h2.reads I ry hs.2.1.1
      have hp := hs.1.1.2
      rw [plain_list q1] at r1 hp
      cases r1 with
      | list o1 o2 o3 o4 =>
        refine SeqAt.count_list_data ⟨_, o1, o2, _, o3⟩ o4 r2 hp hs.2.1.2 (by have := in_units (xs := es) (d := y) (show X.A.units + 64 < cLine by have := z.un; omega) hs.2.2; exact this) ?_
        rw [count_pys]
        exact ⟨.int _, H, I.tok _, ⟨_, rfl⟩, p.done (.int _)⟩
    · cases ed
  · cases ed
theorem ls_of_la {d : D} {xs : List D} (h : d.la? = some xs) : d.ls? = some xs := by
  cases d <;> cases h <;> rfl
theorem mt_indexDD (z : Cz X) : MtR X "list.index" (fun x xs H Q => rBi X.K px W .index (x :: xs) H Q) := by
  intro pins s σ H x xs v us Q I rx rs q
  obtain ⟨σ', w, e, h, ds, hv, p0⟩ := q
  obtain ⟨d, ed, p⟩ := p0.nobad
  clear p0
  obtain ⟨l, y, v1, v2, e1, h1, h2, ed⟩ := two hv ed
  cases e1
  obtain ⟨ux, rfl, ry⟩ := vals1 rs
  unfold dIndex at ed
  split at ed
  · rename_i es q1
    split at ed
    · rename_i hs
      simp only [D.sound, Bool.and_eq_true, decide_eq_true_eq] at hs
      obtain ⟨a, xs, rfl, hq, ha⟩ := h1.la q1
      cases rx
      obtain ⟨as, r1⟩ := h1.reads I rfl hs.1.1.1
      obtain ⟨bs, r2⟩ := h2.reads I ry hs.2.1.1
      have hp := hs.1.1.2
      rw [plain_list (ls_of_la q1)] at r1 hp
      cases q2 : es.findIdx? fun z => PyData.eqv z.py y.py with
      | none => rw [q2] at ed; cases ed
      | some j =>
        rw [q2] at ed
        cases ed
        obtain ⟨zz, its, n, rv, og⟩ := Inv.rdL I hq
        cases r1 with
        | list o1 o2 o3 o4 =>
          rw [og] at o1
          cases o1
          cases o3
          have hp' : SeqAt.dataPlace (D.pys es) y.py = some j := by unfold SeqAt.dataPlace; rw [findIdx_pys]; exact q2
          obtain ⟨hj, e1, e2⟩ := SeqAt.hit_at o4 hp hp'
          have hl := rv.length
          have hsz : its.toArray.size ≤ 16777216 := by rw [List.size_toArray, ← hl, ← sizeLine_eq]; exact zz
          refine call_meets PySem.F.slot_list_index ⟨_, og, rfl⟩ PySem.F.entry_list_index (PySem.F.args_list_index_2 _ _)
            (SeqAt.list_indexAt a its.toArray n _ _ ux (fun u => PyData.eqv (SeqAt.readOf s.heap u) y.py) j hj (by omega) e1 e2)
            ⟨og, SeqAt.items_plain o4 r2 hp hs.2.1.2 (by have := in_units (xs := es) (d := y) (show X.A.units + 64 < cLine by have := z.un; omega) hs.2.2; exact this), ?_⟩
          exact ⟨.int _, H, I.tok _, ⟨_, rfl⟩, p.done (.int _)⟩
    · cases ed
  · cases ed
theorem mt_joinD : MtR X "str.join" (fun x xs H Q => rBi X.K px W .join (x :: xs) H Q) := by
  intro pins s σ H x xs v us Q I rx rs q
  obtain ⟨σ', w, e, h, ds, hv, p0⟩ := q
  obtain ⟨d, ed, p⟩ := p0.nobad
  clear p0
  obtain ⟨l, y, v1, v2, e1, h1, h2, ed⟩ := two hv ed
  cases e1
  unfold dJoin at ed
  split at ed
  · rename_i st es q1
    split at ed
    · rename_i ss q2
      split at ed
      · rename_i hz
        cases ed
        obtain rfl := vStr h1
        obtain ⟨a, xs, rfl, hq, ha⟩ := h2.ls q1
        obtain rfl := allS_of ha q2
        exact mt_join pins s σ H _ _ v us Q I rx rs ⟨st, a, ss, rfl, rfl, .inl hq, hz, p.done (.str _)⟩
      · cases ed
    · cases ed
  · cases ed
end
end Tv
end

section
set_option autoImplicit false
set_option maxHeartbeats 1000000
/-! sorted of a tuple. -/
namespace Tv
open PySem PySem.Spec PySem.Calls PySem.W PySem.SeqAt PyProof.Rows
section
variable {prog : Program} {w : World} {A : Around} {E : Value → Shared → Prop} {s : Shared} {κ : KeyKind}
theorem collect_tup {l : Addr} {vs : List Value} {Q : List Value → Shared → Prop} (hl : s.heap.IsTuple l vs.toArray)
    (h : Q vs { s with heap := (s.heap.push (seqObj "list" #[] 0)).update s.heap.objs.size (Obj.mapSeq (· ++ vs.toArray)) }) (hsz : vs.length ≤ sizeLine := by size_fits) :
    wpAny (model prog w) A (collect (.ref l)) Q E s := by
  obtain ⟨o, ho, hc, n, hd⟩ := id hl
  unfold collect
  refine wpAny_bind (wpAny_runValue (codeAny_builtin entry_proto_collect' ?_))
  show wpAny _ _ (do again (.builtin "list.__iadd__" ⟨[← newList [], .ref l], []⟩)) _ _ s
  refine wpAny_bind (wpAny_newList (wpAny_pure ⟨Code.quiet_builtin _ (by decide +kernel), codeAny_builtin entry_list_iadd' ?_⟩))
  show wpAny _ _ (Builtin.List.listExtendWith (.ref s.heap.objs.size) (.ref l) (.ref s.heap.objs.size)) _ _ { s with heap := s.heap.push (seqObj "list" #[] 0) }
  unfold Builtin.List.listExtendWith
  have ho' : (s.heap.push (seqObj "list" #[] 0)).get? l = some o := Heap.get?_push_of_some _ ho
  refine wpAny_bind (wpAny_typeOf (T := "tuple") ⟨o, ho', hc⟩ ?_)
  have ht : (Value.type "tuple" == Value.type "tuple") = true := by rfl
  rw [if_pos (by rw [ht]; simp)]
  refine wpAny_bind (listItems_at ho' hd ?_)
  refine wpAny_bind (listItems_at (xs := #[]) (n := 0) (Heap.get?_push_size _ rfl) rfl ?_)
  rw [if_neg (by simp)]
  refine wpAny_bind (listUpdate_at (xs := #[]) (n := 0) (Heap.get?_push_size _ rfl) rfl ?_ (Nat.zero_le _) (by show (#[] ++ vs.toArray).size ≤ sizeLine + 1; simp only [Array.size_append, List.size_toArray, List.length_nil]; omega))
  refine wpAny_pure ?_
  show wpAny (model prog w) A (do
      let o ← load s.heap.objs.size
      match o.data with
      | .seq xs _ => pure xs.toList
      | _ => unsupported "internal:collect") Q E { s with heap := (s.heap.push (seqObj "list" #[] 0)).update s.heap.objs.size (Obj.mapSeq (· ++ vs.toArray)) }
  refine wpAny_bind (wpAny_load (get?_update_seq (Heap.get?_push_size _ rfl) _) ?_)
  show wpAny _ _ (pure ((#[] : Array Value) ++ vs.toArray).toList) Q E _
  rw [show ((#[] : Array Value) ++ vs.toArray).toList = vs by simp]
  exact wpAny_pure h
theorem sorted_tup {l : Addr} {vs : List Value} {Q : Value → Shared → Prop} (hl : s.heap.IsTuple l vs.toArray) (S : SortsAt prog w A.in1.in1 { s with heap := sortingHeap (copyHeap s.heap vs) (s.heap.objs.size + 1) vs } κ vs) (hL : vs.length ≤ sizeLine)
    (h : Q (.ref (s.heap.objs.size + 1)) { s with heap := sortedAll s.heap vs (sortVals κ false vs vs).toArray }) : wpAny (model prog w) A (call (.builtin "sorted") [.ref l]) Q E s := by
  refine call_function_entry_kw kind_sorted plain_sorted entry_sorted (args_sorted1 _) ?_
  unfold Builtin.«sorted»
  refine wpAny_bind (m := checkCount "sorted" 1 1 _) (wpAny_pure ?_)
  refine wpAny_bind (collect_tup hl ?_ hL)
  refine wpAny_bind (wpAny_newList ?_ hL)
  have hsz : ((s.heap.push (seqObj "list" #[] 0)).update s.heap.objs.size (Obj.mapSeq (· ++ vs.toArray))).objs.size = s.heap.objs.size + 1 := by
    rw [Heap.size_update, size_push']
  show wpAny _ _ _ _ _ { s with heap := copyHeap s.heap vs }
  rw [hsz]
  refine wpAny_bind (wpAny_holding (wpAny_call_entry_kw slot_list_sort ⟨_, copyHeap_at s.heap vs, rfl⟩ entry_list_sort ?body (args_list_sort _)))
  case body =>
    show wpAny (model prog w) A.in1.in1 (Builtin.«list.sort» ⟨[.ref (s.heap.objs.size + 1)], []⟩) _ _ _
    refine wpAny_mono (list_sort_vals (P := fun f s' => f = .done (.ret .none) ∧ Q (.ref (s.heap.objs.size + 1)) s') (s := { s with heap := copyHeap s.heap vs }) (copyHeap_at s.heap vs) S hL ⟨rfl, h⟩) (fun f s' hf => ?_) fun _ _ e => e
    obtain ⟨rfl, hq⟩ := hf
    exact ⟨_, rfl, wpAny_pure ⟨_, rfl, hq⟩⟩
theorem sorted_both {l : Addr} {vs : List Value} {Q : Value → Shared → Prop} (hl : s.heap.IsList l vs.toArray ∨ s.heap.IsTuple l vs.toArray) (S : SortsAt prog w A.in1.in1 { s with heap := sortingHeap (copyHeap s.heap vs) (s.heap.objs.size + 1) vs } κ vs) (hL : vs.length ≤ sizeLine)
    (h : Q (.ref (s.heap.objs.size + 1)) { s with heap := sortedAll s.heap vs (sortVals κ false vs vs).toArray }) : wpAny (model prog w) A (call (.builtin "sorted") [.ref l]) Q E s := by
  rcases hl with hl | hl
  · exact sorted_vals hl S hL h
  · exact sorted_tup hl S hL h
end
end Tv
end

section
set_option autoImplicit false
set_option maxHeartbeats 1000000
/-! sorted of tuples among which there are empty ones. -/
namespace Tv
open PySem PySem.Spec PySem.Calls PySem.W PySem.SeqAt PyProof.Rows
section
variable {prog : Program} {w : World} {A : Around} {E : Value → Shared → Prop} {s : Shared}
/-- t.__lt__(u) as a sort of one type asks it -/
theorem tupLt_one {xs ys : List PyData} {a b : Value} {as bs : List Addr} {Q : Bool → Shared → Prop} (ra : Reads s.heap a (.tuple xs) as) (rb : Reads s.heap b (.tuple ys) bs) (hal : alikeAll xs ys = true)
    (hu : A.units + min (PyData.depth (.tuple xs)) (PyData.depth (.tuple ys)) < cLine) (hq : Q (dataLt (.tuple xs) (.tuple ys)) s) : wpAny (model prog w) A (PyProof.Rows.oneLt' true a b) Q E s := by
  cases ra with
  | @tuple l o vs n _ _ h1 h2 h3 h4 =>
    cases rb with
    | @tuple l' o' us n' _ _ k1 k2 k3 k4 =>
      obtain ⟨oc, od, dt, sl⟩ := o
      obtain ⟨oc', od', dt', sl'⟩ := o'
      simp only at h2 h3 k2 k3
      subst h2 h3 k2 k3
      have n1 : vs.size = xs.length := by simpa using ReadsAll.length _ _ _ h4
      have n2 : us.size = ys.length := by simpa using ReadsAll.length _ _ _ k4
      rw [dataLt_tuple, ← firstLt_toks xs ys hal, ← n1, ← n2] at hq
      rw [PyProof.Rows.oneLt'_eq, if_pos rfl]
      refine wpAny_bind (wpAny_cRoomFor (room_here hu) (wpAny_bind (wpAny_callSpecialIfBound?_slot (T := "tuple") ⟨_, h1, rfl⟩ F.slot_tuple_lt ?_)))
      refine call_meets F.slot_tuple_lt ⟨_, h1, rfl⟩ F.entry_tuple_lt (F.args_tuple_lt_2 _ _)
        (tuple_ltAt l l' vs us n n' od od' sl sl' (pairEq xs ys) fun j => dataLt (xs.getD j .none) (ys.getD j .none)) ⟨h1, k1, fun j j1 j2 => ?_, fun j j1 j2 hj => ?_, ?_⟩
      · have z := eqAt_alikeAll xs ys A.in1 s vs.toList us.toList _ _ h4 k4 hal (room_in hu) j (by simpa using j1) (by simpa using j2)
        simpa using z
      · have z := rcLt_alikeAll xs ys A.in1 s vs.toList us.toList _ _ h4 k4 hal (room_in hu) j (by simpa using j1) (by simpa using j2) hj
        simpa using z
      · exact wpAny_truthy_bool hq
/-- results one by one -/
theorem mapM_each {α β : Type} {M : Model} {f : α → Sem β} : ∀ {l : List α} {rs : List β} {Q : List β → Shared → Prop}, EachIs (fun v r => ∀ Q' : β → Shared → Prop, Q' r s → wpAny M A (f v) Q' E s) l rs → Q rs s → wpAny M A (l.mapM f) Q E s
  | _, _, _, .nil, h => by
    rw [List.mapM_nil]
    exact wpAny_pure h
  | _, _, Q, .cons (b := r) (bs := rs) q t, h => by
    rw [List.mapM_cons]
    exact wpAny_bind (q _ (wpAny_bind (mapM_each (Q := fun bs s' => wpAny M A (pure (r :: bs)) Q E s') t (wpAny_pure h))))
/-- tuples that are read: their firsts -/
theorem firsts_of {M : Model} {h : Heap} (hh : h = s.heap) : ∀ {vs : List Value} {ds : List (List PyData)}, EachIs (fun v d => ∃ as, Reads h v (.tuple d) as) vs ds →
    ∃ rs : List (Option Value), EachIs (fun v r => ∀ (E : Value → Shared → Prop) (Q' : Option Value → Shared → Prop), Q' r s → wpAny M A (firstOfTuple' v) Q' E s) vs rs ∧ EachIs (fun r d => r.isSome = !d.isEmpty) rs ds
  | _, _, .nil => ⟨[], .nil, .nil⟩
  | _, _, .cons (b := d) ⟨as, r⟩ t => by
    obtain ⟨rs, h1, h2⟩ := firsts_of hh t
    subst hh
    have lk := looks_reads (M := M) r
    cases r with
    | @tuple l o vs n _ _ g1 g2 g3 g4 =>
      refine ⟨vs[0]? :: rs, .cons (fun E Q' hq => ?_) h1, .cons ?_ h2⟩
      · rw [kas_first_eq]
        refine wpAny_bind (lk.here ?_)
        rw [if_neg (by intro z; cases z)]
        refine wpAny_bind ?_
        unfold Builtin.List.listItems
        exact wpAny_bind (wpAny_seqItems g1 g3 (wpAny_pure (wpAny_pure hq)))
      · have e := ReadsAll.length _ _ _ g4
        cases d with
        | nil =>
          have : vs.size = 0 := by simpa using e
          simp [this]
        | cons x xs =>
          have : 0 < vs.size := by
            have e' : vs.size = xs.length + 1 := by simpa using e
            omega
          simp [this]
/-- the kind of keys: tuples, an empty one among them -/
theorem kind_tups {M : Model} {vs : List Value} {ds : List (List PyData)} (e : EachIs (fun v d => ∃ as, Reads s.heap v (.tuple d) as) vs ds) (h2 : 2 ≤ vs.length) (hn : ∃ d ∈ ds, d = []) :
    ∃ kd : SortKind, (kd = oneType' ∨ kd = general') ∧ ∀ (E : Value → Shared → Prop) {Q : SortKind → Shared → Prop}, Q kd s → wpAny M A (keyKind' vs.toArray) Q E s := by
  obtain ⟨rs, h1, h3⟩ := firsts_of (M := M) (A := A) (s := s) rfl e
  have hall : (rs.toArray.all fun x => x.isSome) = false := by
    obtain ⟨d, hd, rfl⟩ := hn
    have : ∃ r ∈ rs, r.isSome = false := by
      clear h1 e h2
      induction h3 with
      | nil => cases hd
      | cons a t ih =>
        rcases List.mem_cons.mp hd with z | z
        · exact ⟨_, List.mem_cons_self, by rw [a, ← z]; rfl⟩
        · obtain ⟨r, hr, hf⟩ := ih z
          exact ⟨r, List.mem_cons_of_mem _ hr, hf⟩
    obtain ⟨r, hr, hf⟩ := this
    rw [List.all_toArray]
    cases q : rs.all fun x => x.isSome with
    | false => rfl
    | true =>
      rw [List.all_eq_true] at q
      rw [q r hr] at hf
      cases hf
  refine ⟨if (rs.toArray[0]?.bind id).isSome = true then general' else oneType', ?_, fun E {Q} hq => ?_⟩
  · split
    · exact .inr rfl
    · exact .inl rfl
  · rw [keyKind'_eq, List.mapM_toArray, map_eq_pure_bind]
    refine wpAny_bind (wpAny_bind (mapM_each (h1.mono fun _ _ z => z E) (wpAny_pure ?_)))
    rw [hall, if_neg (by simp)]
    by_cases hf : (rs.toArray[0]?.bind id).isSome = true
    · rw [if_pos hf] at hq ⊢
      exact wpAny_pure hq
    · rw [if_neg hf] at hq ⊢
      rw [oneTypeOnly'_eq, List.mapM_toArray, map_eq_pure_bind]
      have lk : ∀ v ∈ vs, ∀ Q' : Value → Shared → Prop, Q' (.type "tuple") s → wpAny M A (typeOf v) Q' E s := fun v hv Q' q => by
        obtain ⟨d, hd, as, r⟩ := e.left v hv
        exact (looks_reads (M := M) r).here q
      refine wpAny_bind (wpAny_bind (wpAny_bind (kas_mapM (r := Value.type "tuple") _ lk (wpAny_pure ?_))))
      have h0 : (List.map (fun _ => Value.type "tuple") vs).toArray[0]? = some (Value.type "tuple") := by
        cases vs with
        | nil => simp at h2
        | cons v r => simp
      have ha : ((List.map (fun _ => Value.type "tuple") vs).toArray.all fun x => x == Value.type "tuple") = true := by simp
      rw [h0]
      simp only [ha, if_true]
      exact wpAny_pure (wpAny_pure hq)
/-- tuples, whatever they hold, can be sorted -/
theorem sortsAt_tups {vs : List Value} {ds : List PyData} (e : EachIs (fun v d => ∃ as, Reads s.heap v d as) vs ds) (hal : AllAlike ds) (ht : ∀ d ∈ ds, ∃ xs, d = .tuple xs) (hu : ∀ d, d ∈ ds → A.units + d.depth < cLine) : SortsAt prog w A s (dataKind s.heap ds) vs := by
  by_cases hne : ∀ d, d ∈ ds → ∃ x r, d = .tuple (x :: r)
  · exact SortsAt.data e hal (.inl hne) hu
  · refine ⟨fun v hv => ?_, ?_⟩
    · obtain ⟨d, hd, as, r⟩ := e.left v hv
      exact ⟨_, dataKind_some hal hd r⟩
    · have e2 : ∃ es : List (List PyData), EachIs (fun v d => ∃ as, Reads s.heap v (.tuple d) as) vs es ∧ ds = es.map .tuple := by
        clear hal hu hne
        induction e with
        | nil => exact ⟨[], .nil, rfl⟩
        | cons a t ih =>
          obtain ⟨es, h1, rfl⟩ := ih fun d hd => ht d (List.mem_cons_of_mem _ hd)
          obtain ⟨xs, rfl⟩ := ht _ List.mem_cons_self
          exact ⟨xs :: es, .cons a h1, rfl⟩
      obtain ⟨es, h1, rfl⟩ := e2
      have hem : ∃ d ∈ es, d = [] := by
        refine Classical.byContradiction fun z => hne fun d hd => ?_
        obtain ⟨xs, hx, rfl⟩ := List.mem_map.mp hd
        cases xs with
        | nil => exact absurd ⟨[], hx, rfl⟩ z
        | cons x r => exact ⟨x, r, rfl⟩
      have lt : ∀ kd : SortKind, (kd = oneType' ∨ kd = general') → H.LtAt prog w A s (dataKind s.heap (es.map .tuple)) kd := by
        intro kd hk E x y a b Q ha hb hq
        obtain ⟨d, as, hd, ra, rfl⟩ := dataKind_inv ha
        obtain ⟨d', as', hd', rb, rfl⟩ := dataKind_inv hb
        have hdd := hal d hd d' hd'
        have room : A.units + min d.depth d'.depth < cLine := Nat.lt_of_le_of_lt (Nat.add_le_add_left (Nat.min_le_left _ _) _) (hu d hd)
        obtain ⟨xs, rfl⟩ := ht d hd
        obtain ⟨ys, rfl⟩ := ht d' hd'
        rcases hk with rfl | rfl
        · exact tupLt_one ra rb (by simpa [alike] using hdd) room hq
        · exact oneLt_alike (f := false) (fun z => by cases z) ra rb hdd (by simp) room hq
      by_cases h2 : 2 ≤ vs.length
      · obtain ⟨kd, hk, hq⟩ := kind_tups (M := model prog w) (A := A) h1 h2 hem
        exact ⟨kd, lt kd hk, fun _ E {Q} z => hq E z⟩
      · exact ⟨general', lt _ (.inr rfl), fun z => absurd z h2⟩
end
section
open L2
variable {X : Cx} {px : Px} {W : WX}
/-- an item of a list and what it stands for -/
def ItemR (X : Cx) (w : Wd) (H : Hp) (h : Heap) (u : Value) (d : D) : Prop := ∃ v, RelV v u ∧ VR X.K w H d v
theorem items_each {w : Wd} {H : Hp} {h : Heap} : ∀ {ds : List D} {vs : List V} {us : List Value}, VRs X.K w H ds vs → Vals vs us → EachIs (ItemR X w H h) us ds
  | _, _, _, .nil, .nil => .nil
  | _, _, _, .cons a r, .cons b t => .cons ⟨_, b, a⟩ (items_each r t)
theorem each_items {w : Wd} {H : Hp} {h : Heap} : ∀ {us : List Value} {ds : List D}, EachIs (ItemR X w H h) us ds → ∃ vs, VRs X.K w H ds vs ∧ Vals vs us
  | _, _, .nil => ⟨[], .nil, .nil⟩
  | _, _, .cons ⟨v, a, b⟩ t => by
    obtain ⟨vs, h1, h2⟩ := each_items t
    exact ⟨v :: vs, .cons b h1, .cons a h2⟩
theorem py_tup {d : D} (h : isTupD d = true) : ∃ xs, d.py = .tuple xs := by
  cases d <;> first | (cases h; done) | exact ⟨_, rfl⟩
theorem py_oth {d : D} (h : isTupD d = false) (h2 : isNonD d = false) (hp : d.pl = true) : d.py ≠ .none ∧ ∀ xs, d.py ≠ .tuple xs := by
  cases d <;> first | (cases h; done) | (cases h2; done) | (cases hp; done) | exact ⟨(fun z => by cases z), (fun _ z => by cases z)⟩
theorem pls_mem : ∀ {ds : List D}, D.pls ds = true → ∀ d ∈ ds, d.pl = true
  | [], _, _, h => by cases h
  | x :: r, hp, d, h => by
    rw [D.pls, Bool.and_eq_true] at hp
    rcases List.mem_cons.mp h with z | z
    · rw [z]; exact hp.1
    · exact pls_mem hp.2 d z
theorem bi_sorted (z : Cz X) : CallR X (.builtin "sorted") (rBi X.K px W .sorted) := by
  intro pins s σ H vs us Q I r q
  obtain ⟨σ', w, e, h, ds0, v, p0⟩ := q
  obtain ⟨d, ed, p⟩ := p0.nobad
  clear p0
  obtain ⟨x, u, rfl, hv, ed⟩ := one v ed
  obtain ⟨a, xs, ds, rfl, hq, ha, ed⟩ := onQ_of hv ed
  split at ed
  · rename_i hs
    cases ed
    unfold sortsOk at hs
    simp only [Bool.and_eq_true, Bool.or_eq_true, decide_eq_true_eq, List.all_eq_true] at hs
    obtain ⟨⟨⟨⟨hk, hp⟩, hl⟩, hd⟩, _⟩ := hs
    obtain ⟨its, rv, il⟩ : ∃ its, Vals xs its ∧ (s.heap.IsList a its.toArray ∨ s.heap.IsTuple a its.toArray) := by
      rcases hq with hq | hq
      · obtain ⟨its, rv, il, hz⟩ := I.list hq
        exact ⟨its, rv, .inl il.isList⟩
      · obtain ⟨its, rv, il, hz⟩ := I.tuple hq
        exact ⟨its, rv, .inr il⟩
    rw [Vals.ref1 r]
    have eR : EachIs (ItemR X w H s.heap) its ds := items_each ha rv
    have rd : ∀ {u : Value} {d : D}, d ∈ ds → ItemR X w H s.heap u d → ∃ as, Reads s.heap u d.py as := fun {u d} hm ⟨v, r1, r2⟩ => by
      obtain ⟨as, q, _⟩ := VR.reads I d v u r2 r1 (pls_mem hp d hm)
      exact ⟨as, q⟩
    have er : EachIs (fun u d => ∃ as, Reads s.heap u d.py as) its ds := (each_mem eR).mono fun _ _ q => rd q.2 q.1
    have hal : AllAlike (ds.map D.py) := fun x hx y hy => by
      obtain ⟨d1, m1, rfl⟩ := List.mem_map.mp hx
      obtain ⟨d2, m2, rfl⟩ := List.mem_map.mp hy
      exact (hd d1 m1).2 d2 m2
    have er' : EachIs (fun u d => ∃ as, Reads (sortingHeap (copyHeap s.heap its) (s.heap.objs.size + 1) its) u d.py as) its ds := er.mono fun _ _ ⟨as, r⟩ => ⟨as, PyProof.Rows.Reads.keeps (fun _ _ => sorting_copy_old) r⟩
    have hu : ∀ d, d ∈ ds.map D.py → X.A.in1.in1.units + d.depth < cLine := fun d hd' => by
      obtain ⟨b, hb, rfl⟩ := List.mem_map.mp hd'
      have h1 := (hd b hb).1
      have h2 := z.un
      show X.A.units + 1 + 1 + _ < cLine
      omega
    have eds : EachIs (fun v d => ∃ as, Reads (sortingHeap (copyHeap s.heap its) (s.heap.objs.size + 1) its) v d as) its (ds.map D.py) := PySem.W.each_map (R := fun v d => ∃ as, Reads (sortingHeap (copyHeap s.heap its) (s.heap.objs.size + 1) its) v d as) D.py er'
    have S : SortsAt X.prog X.w X.A.in1.in1 { s with heap := sortingHeap (copyHeap s.heap its) (s.heap.objs.size + 1) its } (dataKind (sortingHeap (copyHeap s.heap its) (s.heap.objs.size + 1) its) (ds.map D.py)) its := by
      rcases hk with hk | hk
      · refine sortsAt_tups (s := { s with heap := sortingHeap (copyHeap s.heap its) (s.heap.objs.size + 1) its }) eds hal (fun d hd' => ?_) hu
        obtain ⟨b, hb, rfl⟩ := List.mem_map.mp hd'
        exact py_tup (hk b hb)
      · refine SortsAt.data (s := { s with heap := sortingHeap (copyHeap s.heap its) (s.heap.objs.size + 1) its }) eds hal (.inr fun d hd' => ?_) hu
        obtain ⟨b, hb, rfl⟩ := List.mem_map.mp hd'
        have q := hk b hb
        simp only [Bool.and_eq_true, Bool.not_eq_true'] at q
        exact py_oth q.1 q.2 (pls_mem hp b hb)
    have hL : its.length ≤ sizeLine := by
      rw [eR.length, sizeLine_eq]; omega
    refine sorted_both il S hL ?_
    have eo := sortVals_data (h' := sortingHeap (copyHeap s.heap its) (s.heap.objs.size + 1) its) false eR er' hal
    obtain ⟨ys, hy1, hy2⟩ := each_items eo
    obtain ⟨ep, he'⟩ := PyProof.Rows.sortedAll_at s.heap its (sortVals (dataKind (sortingHeap (copyHeap s.heap its) (s.heap.objs.size + 1) its) (ds.map D.py)) false its its).toArray
    have hlen : ys.length ≤ sizeLine := by
      rw [hy2.length, sortVals_length false rfl]; exact hL
    exact ⟨.ref _, upd H (s.heap.objs.size + 1) (.lst ys), I.laid (t' := s.toks) (fun _ _ => PyProof.Rows.sortedAll_old) (Nat.le_succ _) ⟨hlen, _, ep, hy2, he'⟩, rfl, p.newL (I.hok.fresh (Nat.le_succ _)) hy1⟩
  · cases ed
end
end Tv
end

section
set_option autoImplicit false
set_option maxHeartbeats 1000000
/-! Expressions: each from its parts. -/
namespace Tv
open PySem PySem.Spec PyProof.Rows L2
theorem PE.of {X : Cx} {e : Expr} {t t' : TE} (h : PE X e t) (i : ∀ σ H Q, t' σ H Q → t σ H Q) : PE X e t' := ⟨fun pins s σ H Q I q => h.run pins s σ H Q I (i σ H Q q)⟩
theorem PT.of {X : Cx} {e : Expr} {t t' : TT} (h : PT X e t) (i : ∀ σ H Q, t' σ H Q → t σ H Q) : PT X e t' := ⟨fun pins s σ H Q I q => h.run pins s σ H Q I (i σ H Q q)⟩
theorem PW.of {X : Cx} {e : Expr} {t t' : TT} (h : PW X e t) (i : ∀ σ H Q, t' σ H Q → t σ H Q) : PW X e t' := ⟨fun wh pins s σ H Q I q => h.run wh pins s σ H Q I (i σ H Q q)⟩
theorem PA.of {X : Cx} {e : List Expr} {t t' : TA} (h : PA X e t) (i : ∀ σ H Q, t' σ H Q → t σ H Q) : PA X e t' := ⟨fun p pins s σ H Q I q => h.run p pins s σ H Q I (i σ H Q q)⟩
section
variable {X : Cx} {px : Px} {W : WX} {a b c : Expr} {fa fb fc : Ev → Hs → R D} {pos : Pos}
/-- an expression computes f -/
abbrev SE (X : Cx) (px : Px) (W : WX) (e : Expr) (f : Ev → Hs → R D) : Prop := PE X e (rdE X.K px W f)
abbrev ST (X : Cx) (px : Px) (W : WX) (e : Expr) (f : Ev → Hs → R D) : Prop := PT X e (rdT X.K px W (tst f))
abbrev SA (X : Cx) (px : Px) (W : WX) (e : List Expr) (f : Ev → Hs → R (List D)) : Prop := PA X e (rdA X.K px W f)

/-! ### constants, names -/
theorem rd_c {K : PySem.W.Frag} {d : D} {v : V} (r : ∀ w H, VT K w H d v) (σ : L2.St) (H : Hp) (Q : VK) (q : rdE K px W (fun _ h => .ok d h) σ H Q) : tC v σ H Q := by
  obtain ⟨w, e, h, p⟩ := q
  exact p.done (r w H)
def chkC : D → Const → Bool
  | .non, .none => true
  | .bl b, .bool c => b == c
  | .int i, .int j => i == j
  | .str s, .str t => decide (s = t)
  | _, _ => false
theorem se_c {d : D} {k : Const} {j : Nat} (h : chkC d k = true) : SE X px W (.Constant k j pos) (fun _ h => .ok d h) := by
  cases d <;> cases k <;> first | (cases h; done) | skip
  · exact PE.of pe_non (rd_c fun _ _ => .non)
  · rw [chkC, beq_iff_eq] at h; subst h; exact PE.of pe_bl (rd_c fun _ _ => .bl _)
  · rw [chkC, beq_iff_eq] at h; subst h; exact PE.of pe_int (rd_c fun _ _ => .int _)
  · rw [chkC, decide_eq_true_eq] at h; subst h; exact PE.of pe_str (rd_c fun _ _ => .str _)
theorem slot_of {K : PySem.W.Frag} {w : Wd} {H : Hp} {e : Ev} {σ : L2.St} (r : ER K w e σ H) (hs : ∀ a, a ∈ w.hp → some a ∉ w.ow) {i : Nat} {d : D} (h : evV e i = some d) : ∃ v, σ[i]? = some (some v) ∧ VT K w H d v := by
  have q := r.sl i
  unfold evV at h
  cases e1 : e.get i with
  | u => rw [e1] at h; cases h
  | k kvs => rw [e1] at h; cases h
  | v d' =>
    rw [e1] at h q
    cases h
    obtain ⟨v, h1, h2⟩ := q
    exact ⟨v, h1, .of h2⟩
  | o ds =>
    rw [e1] at h q
    cases h
    obtain ⟨a, xs, h1, h2, h3, h4, _⟩ := q
    have m : some a ∈ w.ow := List.mem_iff_getElem?.mpr ⟨i, h2⟩
    exact ⟨_, h1, .bor m (fun z => hs a z m) h3 h4⟩
theorem se_v {i : Nat} {x : Str} (hN : X.N[i]? = some x) (hv : Vis X.env.scope x) (hd : (x == ("__debug__" : Str)) = false) (hcd : (x == ("__classdict__" : Str)) = false) : SE X px W (.Name x pos) (fun e h => R.of (evV e i) h) := by
  refine PE.of (pe_var hN hv hd hcd) fun σ H Q q => ?_
  obtain ⟨w, e, h, p⟩ := q
  obtain ⟨d, ed, p⟩ := p.nobad
  obtain ⟨v, h1, h2⟩ := slot_of p.rr.er (fun a m => (p.rr.hr.sep a m).1) ed
  exact ⟨v, h1, p.done h2⟩
theorem se_g {x : Str} {d : D} {v : V} {u : Value} (hg : Gl X x) (hm : X.mg x = some u) (r : RelV v u) (rv : ∀ w H, VT X.K w H d v) (hd : (x == ("__debug__" : Str)) = false) : SE X px W (.Name x pos) (fun _ h => .ok d h) :=
  PE.of (pe_glob hg hm r hd) (rd_c rv)

/-! ### operators -/
theorem se_bin {o : Bop} (ha : SE X px W a fa) (hb : SE X px W b fb) : SE X px W (.BinOp a (bopOf o) b pos) (fun e h => (fa e h).bind fun x h => (fb e h).bind fun y h => R.of (dBin o x y) h) := by
  refine PE.of (pe_op (op_binD (px := px) (W := W) o) ha hb) fun σ H Q ⟨w, e, h, p⟩ => ?_
  refine ⟨w, e, h, p.bind.imp fun x H1 ⟨d1, h1, w1, _, x1, v1, p1⟩ => ⟨w1, e, h1, p1.bind.imp fun y H2 ⟨d2, h2, w2, _, x2, v2, p2⟩ => ?_⟩⟩
  exact ⟨σ, w2, e, h2, d1, d2, v1.ext x2, v2, p2⟩
theorem pc_eq {op : CmpOp} (o : Cop) (h : op = copOf o) (hu : X.A.units + 64 < cLine) : OpR X (compareOp op) (rC2 X.K px W (dCmp o)) := by subst h; exact op_cmpD hu o
theorem se_cmp {o : Cop} (z : Cz X) (ha : SE X px W a fa) (hb : SE X px W b fb) (hm : behindInMarks (copOf o) b = false) : SE X px W (.Compare a [copOf o] [b] pos) (fun e h => (fa e h).bind fun x h => (fb e h).bind fun y h => R.of ((dCmp o x y).map .bl) h) := by
  refine PE.of (pe_cmpR (op_cmpD (px := px) (W := W) (by have := z.un; omega) o) ha hb hm) fun σ H Q ⟨w, e, h, p⟩ => ?_
  refine ⟨w, e, h, p.bind.imp fun x H1 ⟨d1, h1, w1, _, x1, v1, p1⟩ => ⟨w1, e, h1, p1.bind.imp fun y H2 ⟨d2, h2, w2, _, x2, v2, p2⟩ => ?_⟩⟩
  exact ⟨σ, w2, e, h2, d1, d2, v1.ext x2, v2, p2⟩
theorem tst_bl {K : PySem.W.Frag} {σ : L2.St} {w : Wd} {e : Ev} {h : Hs} {H : Hp} {Q : Bool → Hp → Prop} {o : Option Bool} (p : Pre K px W σ relB w e h H Q ((R.of (o.map D.bl) h).bind fun x h => R.of x.tru h)) :
    Pre K px W σ (relV K) w e h H (fun v H' => ∃ k, v = .bl k ∧ Q k H') (R.of (o.map D.bl) h) := by
  refine p.bind.imp fun v H1 ⟨d, h1, w1, ed, x1, v1, p1⟩ => ?_
  cases o with
  | none => cases ed
  | some k =>
    cases ed
    exact ⟨k, vBl v1, p1.done rfl⟩
theorem st_cmp {o : Cop} (z : Cz X) (ha : SE X px W a fa) (hb : SE X px W b fb) (hm : behindInMarks (copOf o) b = false) : ST X px W (.Compare a [copOf o] [b] pos) (fun e h => (fa e h).bind fun x h => (fb e h).bind fun y h => R.of ((dCmp o x y).map .bl) h) := by
  refine PT.of (pt_cmpR (op_cmpD (px := px) (W := W) (by have := z.un; omega) o) ha hb hm) fun σ H Q ⟨w, e, h, p⟩ => ?_
  have p : Pre X.K px W σ relB w e h H Q ((fa e h).bind fun x h => ((fb e h).bind fun y h => R.of ((dCmp o x y).map D.bl) h).bind fun x h => R.of (D.tru x) h) := by
    unfold tst at p
    dsimp only at p
    rw [R.bind_assoc] at p
    exact p
  refine ⟨w, e, h, p.bind.imp fun x H1 ⟨d1, h1, w1, _, x1, v1, p1⟩ => ⟨w1, e, h1, ?_⟩⟩
  rw [R.bind_assoc] at p1
  refine p1.bind.imp fun y H2 ⟨d2, h2, w2, _, x2, v2, p2⟩ => ?_
  exact ⟨σ, w2, e, h2, d1, d2, v1.ext x2, v2, tst_bl p2⟩
/-- a op b op c -/
def fChn (o o' : Cop) (fa fb fc : Ev → Hs → R D) : Ev → Hs → R D := fun e h => (fa e h).bind fun x h => (fb e h).bind fun y h => match dCmp o x y with
    | some true => (fc e h).bind fun z h => R.of ((dCmp o' y z).map .bl) h
    | some false => .ok (.bl false) h
    | none => .bad
theorem chn_rd {K : PySem.W.Frag} {o o' : Cop} {σ : L2.St} {H : Hp} {Q : VK} (q : rdE K px W (fChn o o' fa fb fc) σ H Q) : tChain (rC2 K px W (dCmp o)) (rC2 K px W (dCmp o')) (rdE K px W fa) (rdE K px W fb) (rdE K px W fc) σ H Q := by
  obtain ⟨w, e, h, p⟩ := q
  refine ⟨w, e, h, p.bind.imp fun x H1 ⟨d1, h1, w1, _, x1, v1, p1⟩ => ⟨w1, e, h1, p1.bind.imp fun y H2 ⟨d2, h2, w2, _, x2, v2, p2⟩ => ?_⟩⟩
  cases ec : dCmp o d1 d2 with
  | none => rw [ec] at p2; exact p2.po.elim
  | some k =>
    rw [ec] at p2
    refine ⟨σ, w2, e, h2, d1, d2, v1.ext x2, v2, ⟨p2.rr, ?_⟩⟩
    show Post K px W σ (relV K) w2 H2 _ (R.of ((dCmp o d1 d2).map D.bl) h2)
    rw [ec]
    intro v w3 H3 y1 y2 y3 y4
    refine ⟨k, vBl y4, ?_⟩
    cases k with
    | false =>
      rw [if_neg (by simp)]
      exact p2.po (.bl false) w3 H3 y1 y2 y3 (.bl _)
    | true =>
      rw [if_pos rfl]
      have p3 : Pre K px W σ (relV K) w3 e h2 H3 Q ((fc e h2).bind fun z h => R.of ((dCmp o' d2 z).map .bl) h) := p2.later y1 y2 y3
      exact ⟨w3, e, h2, p3.bind.imp fun z H4 ⟨d3, h4, w4, _, x4, v4, p4⟩ => ⟨σ, w4, e, h4, d2, d3, (v2.ext y1).ext x4, v4, p4⟩⟩
theorem se_chn {o o' : Cop} (z : Cz X) (ha : SE X px W a fa) (hb : SE X px W b fb) (hc : SE X px W c fc) (hm : lastMarks [copOf o, copOf o'] [b, c] = false) : SE X px W (.Compare a [copOf o, copOf o'] [b, c] pos) (fChn o o' fa fb fc) :=
  PE.of (pe_chain (op_cmpD (px := px) (W := W) (by have := z.un; omega) o) (op_cmpD (px := px) (W := W) (by have := z.un; omega) o') ha hb hc hm) fun σ H Q q => chn_rd q
theorem of_bl {o : Option Bool} {h h' : Hs} {d : D} (q : R.of (o.map D.bl) h = .ok d h') : ∃ k, d = .bl k := by
  cases o with
  | none => cases q
  | some k => cases q; exact ⟨k, rfl⟩
theorem bind_ok {α β : Type} {r : R α} {k : α → Hs → R β} {b : β} {h' : Hs} (q : r.bind k = .ok b h') : ∃ a h, r = .ok a h ∧ k a h = .ok b h' := by
  cases r with
  | bad => cases q
  | exc x h => cases q
  | ok a h => exact ⟨a, h, rfl, q⟩
theorem chn_bl {o o' : Cop} {e : Ev} {h h' : Hs} {d : D} (q : fChn o o' fa fb fc e h = .ok d h') : ∃ k, d = .bl k := by
  obtain ⟨x, h1, _, q⟩ := bind_ok q
  obtain ⟨y, h2, _, q⟩ := bind_ok q
  split at q
  · obtain ⟨z, h3, _, q⟩ := bind_ok q
    exact of_bl q
  · cases q; exact ⟨_, rfl⟩
  · cases q
/-- a test of what is a truth value -/
theorem tst_bool {K : PySem.W.Frag} {σ : L2.St} {w : Wd} {e : Ev} {h : Hs} {H : Hp} {Q : Bool → Hp → Prop} {r : R D} (hb : ∀ d h', r = .ok d h' → ∃ k, d = .bl k) (p : Pre K px W σ relB w e h H Q (r.bind fun x h => R.of x.tru h)) :
    Pre K px W σ (relV K) w e h H (fun v H' => ∃ k, v = .bl k ∧ Q k H') r := by
  refine p.bind.imp fun v H1 ⟨d, h1, w1, ed, x1, v1, p1⟩ => ?_
  obtain ⟨k, rfl⟩ := hb d h1 ed
  exact ⟨k, vBl v1, p1.done rfl⟩
theorem st_chn {o o' : Cop} (z : Cz X) (ha : SE X px W a fa) (hb : SE X px W b fb) (hc : SE X px W c fc) (hm : lastMarks [copOf o, copOf o'] [b, c] = false) : ST X px W (.Compare a [copOf o, copOf o'] [b, c] pos) (fChn o o' fa fb fc) :=
  PT.of (pt_chain (op_cmpD (px := px) (W := W) (by have := z.un; omega) o) (op_cmpD (px := px) (W := W) (by have := z.un; omega) o') ha hb hc hm) fun σ H Q ⟨w, e, h, p⟩ => chn_rd ⟨w, e, h, tst_bool (fun _ _ q => chn_bl q) p⟩
theorem st_val {e : Expr} {f : Ev → Hs → R D} (h : SE X px W e f) (he : ∀ whole, isTrue e X.env whole = (do let v ← whole; standAt e.pos; holding [v] (truthy v))) : ST X px W e f := by
  refine PT.of (pt_truth h he) fun σ H Q ⟨w, e, hh, p⟩ => ?_
  exact ⟨w, e, hh, p.bind.imp fun v H1 ⟨d, h1, w1, _, x1, v1, p1⟩ => let ⟨k, ek, p2⟩ := p1.nobad; ⟨k, v1.tru ek, p2.done rfl⟩⟩
/-! ### not, and, or, if -/
theorem se_not (ha : SE X px W a fa) : SE X px W (.UnaryOp .Not a pos) (fun e h => (fa e h).bind fun x h => R.of (x.tru.map fun b => .bl (!b)) h) := by
  refine PE.of (pe_notT ha) fun σ H Q ⟨w, e, h, p⟩ => ?_
  refine ⟨w, e, h, p.bind.imp fun x H1 ⟨d, h1, w1, _, x1, v1, p1⟩ => ?_⟩
  cases ec : d.tru with
  | none => rw [ec] at p1; exact p1.po.elim
  | some k => rw [ec] at p1; exact ⟨k, v1.tru ec, p1.done (.bl _)⟩
theorem st_not (ha : ST X px W a fa) : ST X px W (.UnaryOp .Not a pos) (fun e h => (fa e h).bind fun x h => R.of (x.tru.map fun b => .bl (!b)) h) := by
  refine PT.of (pt_not ha) fun σ H Q ⟨w, e, h, p⟩ => ?_
  refine ⟨w, e, h, ?_⟩
  have p : Pre X.K px W σ relB w e h H Q (((fa e h).bind fun x h => R.of (x.tru.map fun b => D.bl (!b)) h).bind fun x h => R.of x.tru h) := p
  rw [R.bind_assoc] at p
  refine ⟨p.rr, ?_⟩
  have q := p.po
  unfold tst
  cases e1 : fa e h with
  | bad => rw [e1] at q; exact q
  | exc x h1 => rw [e1] at q; exact q
  | ok d h1 =>
    rw [e1] at q
    simp only [R.bind_ok] at q ⊢
    cases ec : d.tru with
    | none => rw [ec] at q; exact q
    | some k =>
      rw [ec] at q
      intro b w' H' y1 y2 y3 y4
      cases y4
      exact q (!k) w' H' y1 y2 y3 rfl
def fAnd (fa fb : Ev → Hs → R D) : Ev → Hs → R D := fun e h => (fa e h).bind fun x h => match x.tru with
    | some true => fb e h
    | some false => .ok x h
    | none => .bad
def fOr (fa fb : Ev → Hs → R D) : Ev → Hs → R D := fun e h => (fa e h).bind fun x h => match x.tru with
    | some true => .ok x h
    | some false => fb e h
    | none => .bad
variable {rest : List Expr}
theorem se_and (ha : SE X px W a fa) (hb : SE X px W (.BoolOp .And (b :: rest) pos) fb) : SE X px W (.BoolOp .And (a :: b :: rest) pos) (fAnd fa fb) := by
  refine PE.of (pe_andT ha hb) fun σ H Q ⟨w, e, h, p⟩ => ?_
  refine ⟨w, e, h, p.bind.imp fun x H1 ⟨d, h1, w1, _, x1, v1, p1⟩ => ?_⟩
  cases ec : d.tru with
  | none => rw [ec] at p1; exact p1.po.elim
  | some k =>
    rw [ec] at p1
    refine ⟨k, v1.tru ec, ?_⟩
    cases k with
    | true => rw [if_pos rfl]; exact ⟨w1, e, h1, p1⟩
    | false => rw [if_neg (by simp)]; exact p1.done v1
theorem se_or (ha : SE X px W a fa) (hb : SE X px W (.BoolOp .Or (b :: rest) pos) fb) : SE X px W (.BoolOp .Or (a :: b :: rest) pos) (fOr fa fb) := by
  refine PE.of (pe_orT ha hb) fun σ H Q ⟨w, e, h, p⟩ => ?_
  refine ⟨w, e, h, p.bind.imp fun x H1 ⟨d, h1, w1, _, x1, v1, p1⟩ => ?_⟩
  cases ec : d.tru with
  | none => rw [ec] at p1; exact p1.po.elim
  | some k =>
    rw [ec] at p1
    refine ⟨k, v1.tru ec, ?_⟩
    cases k with
    | true => rw [if_pos rfl]; exact p1.done v1
    | false => rw [if_neg (by simp)]; exact ⟨w1, e, h1, p1⟩
abbrev SW (X : Cx) (px : Px) (W : WX) (e : Expr) (f : Ev → Hs → R D) : Prop := PW X e (rdT X.K px W (tst f))
theorem sw_and1 (ha : ST X px W a fa) : SW X px W (.BoolOp .And [a] pos) fa := pw_and1 ha
theorem sw_or1 (ha : ST X px W a fa) : SW X px W (.BoolOp .Or [a] pos) fa := pw_or1 ha
theorem pre_and {K : PySem.W.Frag} {σ : L2.St} {w : Wd} {e : Ev} {h : Hs} {H : Hp} {Q : Bool → Hp → Prop} (p : Pre K px W σ relB w e h H Q (tst (fAnd fa fb) e h)) :
    Pre K px W σ relB w e h H (fun k H1 => ∃ w1 h1, if k = true then Pre K px W σ relB w1 e h1 H1 Q (tst fb e h1) else Q false H1) (tst fa e h) := by
  refine ⟨p.rr, ?_⟩
  have q := p.po
  unfold tst fAnd at q
  unfold tst
  cases e1 : fa e h with
  | bad => rw [e1] at q; exact q
  | exc x h1 => rw [e1] at q; exact q
  | ok d h1 =>
    rw [e1] at q
    simp only [R.bind_ok] at q ⊢
    cases ec : d.tru with
    | none => rw [ec] at q; exact q
    | some k =>
      rw [ec] at q
      intro b w' H' y1 y2 y3 y4
      cases y4
      refine ⟨w', h1, ?_⟩
      cases k with
      | true =>
        rw [if_pos rfl]
        exact ⟨p.rr.ext y1 y2 y3, Post.later q y1⟩
      | false =>
        rw [if_neg (by simp)]
        simp only [R.bind_ok, ec, R.of_some] at q
        exact q false w' H' y1 y2 y3 rfl
theorem sw_and (ha : ST X px W a fa) (hb : SW X px W (.BoolOp .And (b :: rest) pos) fb) : SW X px W (.BoolOp .And (a :: b :: rest) pos) (fAnd fa fb) := by
  refine PW.of (pw_and ha hb) fun σ H Q ⟨w, e, h, p⟩ => ?_
  refine ⟨w, e, h, (pre_and p).imp fun k H1 ⟨w1, h1, q⟩ => ?_⟩
  cases k with
  | true => rw [if_pos rfl] at q ⊢; exact ⟨w1, e, h1, q⟩
  | false => rw [if_neg (by simp)] at q ⊢; exact q
theorem pre_or {K : PySem.W.Frag} {σ : L2.St} {w : Wd} {e : Ev} {h : Hs} {H : Hp} {Q : Bool → Hp → Prop} (p : Pre K px W σ relB w e h H Q (tst (fOr fa fb) e h)) :
    Pre K px W σ relB w e h H (fun k H1 => ∃ w1 h1, if k = true then Q true H1 else Pre K px W σ relB w1 e h1 H1 Q (tst fb e h1)) (tst fa e h) := by
  refine ⟨p.rr, ?_⟩
  have q := p.po
  unfold tst fOr at q
  unfold tst
  cases e1 : fa e h with
  | bad => rw [e1] at q; exact q
  | exc x h1 => rw [e1] at q; exact q
  | ok d h1 =>
    rw [e1] at q
    simp only [R.bind_ok] at q ⊢
    cases ec : d.tru with
    | none => rw [ec] at q; exact q
    | some k =>
      rw [ec] at q
      intro b w' H' y1 y2 y3 y4
      cases y4
      refine ⟨w', h1, ?_⟩
      cases k with
      | false =>
        rw [if_neg (by simp)]
        exact ⟨p.rr.ext y1 y2 y3, Post.later q y1⟩
      | true =>
        rw [if_pos rfl]
        simp only [R.bind_ok, ec, R.of_some] at q
        exact q true w' H' y1 y2 y3 rfl
theorem sw_or (ha : ST X px W a fa) (hb : SW X px W (.BoolOp .Or (b :: rest) pos) fb) : SW X px W (.BoolOp .Or (a :: b :: rest) pos) (fOr fa fb) := by
  refine PW.of (pw_or ha hb) fun σ H Q ⟨w, e, h, p⟩ => ?_
  refine ⟨w, e, h, (pre_or p).imp fun k H1 ⟨w1, h1, q⟩ => ?_⟩
  cases k with
  | true => rw [if_pos rfl] at q ⊢; exact q
  | false => rw [if_neg (by simp)] at q ⊢; exact ⟨w1, e, h1, q⟩
def fIte (fc fa fb : Ev → Hs → R D) : Ev → Hs → R D := fun e h => (fc e h).bind fun x h => match x.tru with
    | some true => fa e h
    | some false => fb e h
    | none => .bad
theorem pre_ite {α β : Type} {K : PySem.W.Frag} {rel : Wd → Hp → α → β → Prop} {σ : L2.St} {w : Wd} {e : Ev} {h : Hs} {H : Hp} {Q : β → Hp → Prop} {ga gb : Hs → R α}
    (p : Pre K px W σ rel w e h H Q ((fc e h).bind fun x h => match x.tru with
    | some true => ga h
    | some false => gb h
    | none => .bad)) :
    Pre K px W σ relB w e h H (fun k H1 => ∃ w1 h1, Pre K px W σ rel w1 e h1 H1 Q (if k = true then ga h1 else gb h1)) (tst fc e h) := by
  refine ⟨p.rr, ?_⟩
  have q := p.po
  unfold tst
  cases e1 : fc e h with
  | bad => rw [e1] at q; exact q
  | exc x h1 => rw [e1] at q; exact q
  | ok d h1 =>
    rw [e1] at q
    simp only [R.bind_ok] at q ⊢
    cases ec : d.tru with
    | none => rw [ec] at q; exact q
    | some k =>
      rw [ec] at q
      intro b w' H' y1 y2 y3 y4
      cases y4
      refine ⟨w', h1, ?_⟩
      cases k with
      | false => rw [if_neg (by simp)]; exact ⟨p.rr.ext y1 y2 y3, Post.later q y1⟩
      | true => rw [if_pos rfl]; exact ⟨p.rr.ext y1 y2 y3, Post.later q y1⟩
theorem se_ite (hc : ST X px W c fc) (ha : SE X px W a fa) (hb : SE X px W b fb) : SE X px W (.IfExp c a b pos) (fIte fc fa fb) := by
  refine PE.of (pe_ifExp hc ha hb) fun σ H Q ⟨w, e, h, p⟩ => ?_
  refine ⟨w, e, h, (pre_ite p).imp fun k H1 ⟨w1, h1, q⟩ => ?_⟩
  cases k with
  | true => rw [if_pos rfl] at q ⊢; exact ⟨w1, e, h1, q⟩
  | false => rw [if_neg (by simp)] at q ⊢; exact ⟨w1, e, h1, q⟩

/-! ### lists of arguments, displays -/
variable {es : List Expr} {fr : Ev → Hs → R (List D)}
theorem sa_nil : SA X px W [] (fun _ h => .ok [] h) := PA.of pa_nil fun σ H Q ⟨w, e, h, p⟩ => p.done .nil
theorem sa_cons (ha : SE X px W a fa) (hr : SA X px W es fr) (hs : starEach (a :: es) X.env = (false, eval a X.env) :: starEach es X.env) : SA X px W (a :: es) (fun e h => (fa e h).bind fun x h => (fr e h).bind fun xs h => .ok (x :: xs) h) := by
  refine PA.of (pa_cons ha hr hs) fun σ H Q ⟨w, e, h, p⟩ => ?_
  refine ⟨w, e, h, p.bind.imp fun x H1 ⟨d1, h1, w1, _, x1, v1, p1⟩ => ⟨w1, e, h1, p1.bind.imp fun y H2 ⟨d2, h2, w2, _, x2, v2, p2⟩ => ?_⟩⟩
  exact p2.done (.cons (v1.ext x2) v2)
theorem len_ok {X : Cx} {pins : List (Addr × Obj)} {s : Shared} {σ : L2.St} {H : Hp} : True := trivial
theorem se_tup {x1 : Nat} (ha : SA X px W es fr) (hl : es.length ≤ 1000) (hn : ∀ e h ds h', fr e h = .ok ds h' → ds.length = es.length) : SE X px W (.Tuple es x1 pos) (fun e h => (fr e h).bind fun ds h => if ds.all D.keep then .ok (.tup ds) h else .bad) := by
  refine PE.of (pe_tup ha) fun σ H Q ⟨w, e, h, p⟩ => ?_
  refine ⟨w, e, h, p.bind.imp fun x H1 ⟨d1, h1, w1, e1, x1, v1, p1⟩ => ?_⟩
  split at p1
  · rename_i hk
    have v2 := v1.keep hk
    refine ⟨by rw [← v2.length, hn _ _ _ _ e1, sizeLine_eq]; omega, fun q hq => p1.newT hq v2⟩
  · exact p1.po.elim
theorem se_lst (ha : SA X px W es fr) (hl : es.length ≤ 1000) (hn : ∀ e h ds h', fr e h = .ok ds h' → ds.length = es.length) : SE X px W (.List es pos) (fun e h => (fr e h).bind fun ds h => if ds.all D.keep then .ok (.lst ds) h else .bad) := by
  refine PE.of (pe_lst ha) fun σ H Q ⟨w, e, h, p⟩ => ?_
  refine ⟨w, e, h, p.bind.imp fun x H1 ⟨d1, h1, w1, e1, x1, v1, p1⟩ => ?_⟩
  split at p1
  · rename_i hk
    have v2 := v1.keep hk
    refine ⟨by rw [← v2.length, hn _ _ _ _ e1, sizeLine_eq]; omega, fun q hq => p1.newL hq v2⟩
  · exact p1.po.elim
end
end Tv
end

section
set_option autoImplicit false
set_option maxHeartbeats 1000000
/-! Subscripts, built-in calls, further displays. -/
namespace Tv
open PySem PySem.Spec PyProof.Rows L2
def nst : Expr → Bool
  | .Starred .. => false
  | _ => true
def nsl : Expr → Bool
  | .Slice .. => false
  | _ => true
theorem star_ok {a : Expr} {es : List Expr} {env : Env} (h : nst a = true) : starEach (a :: es) env = (false, eval a env) :: starEach es env := by
  cases a <;> first | rfl | cases h
theorem sl_ok {a : Expr} (h : nsl a = true) : PlainIx a := by
  intro o i
  cases a <;> first | rfl | cases h
theorem stars_any {pos : Pos} {env : Env} : ∀ {es : List Expr}, es.all nst = true → (backTo pos (starEach es env)).any (·.1) = false
  | [], _ => rfl
  | a :: r, h => by
    rw [List.all_cons, Bool.and_eq_true] at h
    rw [star_ok h.1]
    show (false || (backTo pos (starEach r env)).any (·.1)) = false
    rw [stars_any h.2]; rfl
theorem stars_all {pos : Pos} {env : Env} : ∀ {es : List Expr}, es.all nst = true → (backTo pos (starEach es env)).all (fun x => !x.1) = true
  | [], _ => rfl
  | a :: r, h => by
    rw [List.all_cons, Bool.and_eq_true] at h
    rw [star_ok h.1]
    show (true && (backTo pos (starEach r env)).all (fun x => !x.1)) = true
    rw [stars_all h.2]; rfl
/-- a receiver of a method -/
def rcv : Expr → Bool
  | .Call _ [] _ _ => false
  | _ => true
theorem base_ok {o : Expr} {m : Str} {env : Env} {w : Sem Value} (h : rcv o = true) : attributeBase o m env w = w := by
  cases o <;> first | rfl | (cases h; done) | skip
  rename_i f es kws p
  cases es with
  | nil => cases h
  | cons a as => cases f <;> rfl
section
variable {X : Cx} {px : Px} {W : WX} {a b c : Expr} {fa fb fc : Ev → Hs → R D} {pos apos : Pos} {es : List Expr} {fr : Ev → Hs → R (List D)}
/-! ### a[b] -/
def fIx (x y : D) (h : Hs) : R D := match x with
    | .ref i => (match h[i]? with
      | some (.lst xs) => (match y with
        | .int j => R.of (L2.atI xs j) h
        | _ => .bad)
      | _ => .bad)
    | x => R.of (dIx x y) h
def rIxD (K : PySem.W.Frag) (px : Px) (W : WX) : R2 := fun x y H Q => ∃ σ w e h d1 d2, VT K w H d1 x ∧ VT K w H d2 y ∧ Pre K px W σ (relV K) w e h H Q (fIx d1 d2 h)
theorem ix_D : IxR X (rIxD X.K px W) := by
  intro vE sE pins s σ H x y v u Q I rx ry q hs
  obtain ⟨σ', w, e, h, d1, d2, v1, v2, p0⟩ := q
  have fin : ∀ {ds : List D} {d : D} {j : Int}, d1.sq? = some ds → d2 = .int j → L2.atI ds j = some d → Pre X.K px W σ' (relV X.K) w e h H Q (.ok d h) → wpAny (model X.prog X.w) X.A (subscriptTail vE sE v u) (EP X pins σ Q) X.xe s := by
    intro ds d j h1 h2 h3 p
    subst h2
    obtain ⟨a, xs, rfl, hq, ha⟩ := v1.sq h1
    obtain rfl := vInt v2
    obtain ⟨vv, e1, e2⟩ := ha.at h3
    have qq : Q vv H := p.done (VT.of (VS.of e2))
    rcases hq with hq | hq
    · exact ix_list vE sE pins s σ H _ _ v u Q I rx ry ⟨a, xs, j, vv, rfl, rfl, hq, e1, qq⟩ hs
    · exact ix_tup vE sE pins s σ H _ _ v u Q I rx ry ⟨a, xs, j, vv, rfl, rfl, hq, e1, qq⟩ hs
  unfold fIx at p0
  split at p0
  · rename_i i
    split at p0
    · rename_i xs hx
      split at p0
      · rename_i j
        obtain ⟨d, ed, p⟩ := p0.nobad
        cases v1 with
        | of v1 =>
          cases v1 with
          | of v1 =>
            cases v1 with
            | ref hi =>
              obtain ⟨ys, h1, h2, _⟩ := p.rr.hr.ob _ _ _ hi hx
              obtain rfl := vInt v2
              obtain ⟨vv, e1, e2⟩ := h2.at ed
              exact ix_list vE sE pins s σ H _ _ v u Q I rx ry ⟨_, ys, j, vv, rfl, rfl, .inl (.inl h1), e1, p.done (VT.of (VS.of e2))⟩ hs
      · exact p0.po.elim
    · exact p0.po.elim
  · obtain ⟨d, ed, p⟩ := p0.nobad
    clear p0
    unfold dIx at ed
    split at ed
    · rename_i j
      split at ed
      · rename_i st _
        split at ed
        · rename_i hl
          cases e1 : L2.atI st.cps.toList j with
          | none => rw [e1] at ed; cases ed
          | some cc =>
            rw [e1] at ed
            cases ed
            obtain rfl := vStr v1
            obtain rfl := vInt v2
            exact ix_str vE sE pins s σ H _ _ v u Q I rx ry ⟨st, j, cc, rfl, rfl, by rw [← LIM_eq]; exact hl, e1, p.done (.str _)⟩ hs
        · cases ed
      · split at ed
        · rename_i ds hd
          exact fin hd rfl ed p
        · cases ed
    · cases ed
theorem se_ix (ha : SE X px W a fa) (hb : SE X px W b fb) (hs : nsl b = true) : SE X px W (.Subscript a b pos) (fun e h => (fa e h).bind fun x h => (fb e h).bind fun y h => fIx x y h) := by
  refine PE.of (pe_ix (ix_D (px := px) (W := W)) ha hb (sl_ok hs)) fun σ H Q ⟨w, e, h, p⟩ => ?_
  refine ⟨w, e, h, p.bind.imp fun x H1 ⟨d1, h1, w1, _, x1, v1, p1⟩ => ⟨w1, e, h1, p1.bind.imp fun y H2 ⟨d2, h2, w2, _, x2, v2, p2⟩ => ?_⟩⟩
  exact ⟨σ, w2, e, h2, d1, d2, v1.ext x2, v2, p2⟩
/-! ### slices -/
def rSlD (K : PySem.W.Frag) (px : Px) (W : WX) : V → Option Int → Option Int → Hp → VK → Prop := fun x lo hi H Q => ∃ σ w e h d1, VT K w H d1 x ∧ Pre K px W σ (relV K) w e h H Q (R.of (dSl d1 lo hi) h)
theorem cut_whole {α : Type} (xs : List α) {lo hi : Option Int} (h1 : HT.sIx xs.length 0 lo = 0) (h2 : HT.sIx xs.length xs.length hi = xs.length) : cutD xs lo hi = xs := by
  unfold cutD
  rw [h1, h2, List.drop_zero, Nat.sub_zero, List.take_length]
theorem sl_D : L2.SlR X (rSlD X.K px W) := by
  intro pins s σ H x v vl vu lo hi sl Q I rx hs pl pu q
  obtain ⟨σ', w, e, h, d1, v1, p0⟩ := q
  obtain ⟨d, ed, p⟩ := p0.nobad
  clear p0
  unfold dSl at ed
  split at ed
  · rename_i ds
    cases ed
    obtain ⟨a, xs, rfl, hq, ha⟩ := vTup v1
    refine sl_tupA pins s σ H _ v vl vu lo hi sl Q I rx hs pl pu ⟨a, xs, rfl, sqt hq, fun hw => ?_, fun _ q hq => p.newT hq (ha.cut lo hi)⟩
    rw [← ha.length] at hw
    rw [cut_whole ds hw.1 hw.2] at p
    exact p.done (.of (.of (.tup hq ha)))
  · cases e1 : d1.ls? with
    | none => rw [e1] at ed; cases ed
    | some ds =>
      rw [e1] at ed
      cases ed
      obtain ⟨a, xs, rfl, hq, ha⟩ := v1.ls e1
      exact sl_list pins s σ H _ v vl vu lo hi sl Q I rx hs pl pu ⟨a, xs, rfl, hq, fun q hq => p.newL hq (ha.cut lo hi)⟩
theorem se_sl {p2 : Pos} (ha : SE X px W a fa) (hb : SE X px W b fb) (hc : SE X px W c fc) : SE X px W (.Subscript a (.Slice (some b) (some c) none p2) pos) (fun e h => (fa e h).bind fun x h => (fb e h).bind fun y h => (match y with
    | .int i => (fc e h).bind fun z h => (match z with
      | .int j => R.of (dSl x (some i) (some j)) h
      | _ => .bad)
    | _ => .bad)) := by
  refine PE.of (pe_slice (sl_D (px := px) (W := W)) ha (po_some hb) (po_some hc)) fun σ H Q ⟨w, e, h, p⟩ => ?_
  refine ⟨w, e, h, p.bind.imp fun x H1 ⟨d1, h1, w1, _, x1, v1, p1⟩ => ⟨w1, e, h1, p1.bind.imp fun y H2 ⟨d2, h2, w2, _, x2, v2, p2⟩ => ?_⟩⟩
  obtain ⟨i, rfl⟩ : ∃ i, d2 = .int i := by cases d2 <;> first | exact ⟨_, rfl⟩ | exact p2.po.elim
  refine ⟨i, vInt v2, w2, e, h2, p2.bind.imp fun z H3 ⟨d3, h3, w3, _, x3, v3, p3⟩ => ?_⟩
  obtain ⟨j, rfl⟩ : ∃ i, d3 = .int i := by cases d3 <;> first | exact ⟨_, rfl⟩ | exact p3.po.elim
  exact ⟨j, vInt v3, σ, w3, e, h3, d1, (v1.ext x2).ext x3, p3⟩
theorem se_slf {p2 : Pos} (ha : SE X px W a fa) (hb : SE X px W b fb) : SE X px W (.Subscript a (.Slice (some b) none none p2) pos) (fun e h => (fa e h).bind fun x h => (fb e h).bind fun y h => (match y with
    | .int i => R.of (dSl x (some i) none) h
    | _ => .bad)) := by
  refine PE.of (pe_slice (sl_D (px := px) (W := W)) ha (po_some hb) po_none) fun σ H Q ⟨w, e, h, p⟩ => ?_
  refine ⟨w, e, h, p.bind.imp fun x H1 ⟨d1, h1, w1, _, x1, v1, p1⟩ => ⟨w1, e, h1, p1.bind.imp fun y H2 ⟨d2, h2, w2, _, x2, v2, p2⟩ => ?_⟩⟩
  obtain ⟨i, rfl⟩ : ∃ i, d2 = .int i := by cases d2 <;> first | exact ⟨_, rfl⟩ | exact p2.po.elim
  exact ⟨i, vInt v2, σ, w2, e, h2, d1, v1.ext x2, p2⟩
theorem se_slt {p2 : Pos} (ha : SE X px W a fa) (hb : SE X px W b fb) : SE X px W (.Subscript a (.Slice none (some b) none p2) pos) (fun e h => (fa e h).bind fun x h => (fb e h).bind fun y h => (match y with
    | .int i => R.of (dSl x none (some i)) h
    | _ => .bad)) := by
  refine PE.of (pe_slice (sl_D (px := px) (W := W)) ha po_none (po_some hb)) fun σ H Q ⟨w, e, h, p⟩ => ?_
  refine ⟨w, e, h, p.bind.imp fun x H1 ⟨d1, h1, w1, _, x1, v1, p1⟩ => ⟨w1, e, h1, p1.bind.imp fun y H2 ⟨d2, h2, w2, _, x2, v2, p2⟩ => ?_⟩⟩
  obtain ⟨i, rfl⟩ : ∃ i, d2 = .int i := by cases d2 <;> first | exact ⟨_, rfl⟩ | exact p2.po.elim
  exact ⟨i, vInt v2, σ, w2, e, h2, d1, v1.ext x2, p2⟩

/-! ### calls of built-ins -/
theorem se_callB {x : Str} {id : String} {bi : Bi} {p : Pos} (hc : CallR X (.builtin id) (rBi X.K px W bi)) (hg : Gl X x) (hm : X.mg x = none) (hv : bootBuiltins x = some (.builtin id)) (ha : SA X px W (a :: es) fr) (hs : (a :: es).all nst = true)
    (hn : x ≠ "__name__") (hdb : (x == ("__debug__" : Str)) = false) : SE X px W (.Call (.Name x p) (a :: es) [] pos) (fun e h => (fr e h).bind fun ds h => R.of (dBi bi ds) h) := by
  rw [List.all_cons, Bool.and_eq_true] at hs
  refine PE.of (pe_callB hc hg hm hv ha hn hdb (star_ok hs.1) (stars_any hs.2)) fun σ H Q ⟨w, e, h, p⟩ => ?_
  exact ⟨w, e, h, p.bind.imp fun x H1 ⟨d1, h1, w1, _, x1, v1, p1⟩ => ⟨σ, w1, e, h1, d1, v1, p1⟩⟩
theorem se_callTy {x : Str} {T : String} {bi : Bi} {p : Pos} (hc : CallR X (.type T) (rBi X.K px W bi)) (hg : Gl X x) (hm : X.mg x = none) (hv : bootBuiltins x = some (.type T)) (ha : SA X px W (a :: es) fr) (hs : (a :: es).all nst = true)
    (hn : x ≠ "__name__") (hdb : (x == ("__debug__" : Str)) = false) : SE X px W (.Call (.Name x p) (a :: es) [] pos) (fun e h => (fr e h).bind fun ds h => R.of (dBi bi ds) h) := by
  rw [List.all_cons, Bool.and_eq_true] at hs
  refine PE.of (pe_callTy hc hg hm hv ha hn hdb (star_ok hs.1) (stars_any hs.2)) fun σ H Q ⟨w, e, h, p⟩ => ?_
  exact ⟨w, e, h, p.bind.imp fun x H1 ⟨d1, h1, w1, _, x1, v1, p1⟩ => ⟨σ, w1, e, h1, d1, v1, p1⟩⟩
/-- o.m(e), m a method of lists or texts -/
def meTy : Bi → String
  | .join => "str"
  | _ => "list"
theorem rcv_ty {K : PySem.W.Frag} {w : Wd} {H : Hp} {m : Bi} {d : D} {v : V} (h : VT K w H d v) (k : rcvOk m d = true) : tyV K (meTy m) v H := by
  have go : (meTy m = "list") → d.ls?.isSome = true → tyV K (meTy m) v H := by
    intro e k
    obtain ⟨ds, hd⟩ := Option.isSome_iff_exists.mp k
    obtain ⟨a, xs, rfl, hq, _⟩ := h.ls hd
    exact .inl ⟨e, xs, hq⟩
  cases m <;> first
    | exact go rfl k
    | (cases d <;> first | (cases k; done) | (obtain rfl := vStr h; rfl))
def fMe (m : Bi) (fa fb : Ev → Hs → R D) : Ev → Hs → R D := fun e h => (fa e h).bind fun x h => if rcvOk m x then (fb e h).bind fun y h => R.of (dBi m [x, y]) h else .bad
theorem se_meth {mn : Str} {id : String} {m : Bi} {cpos : Pos} (pa : PlainAttrs (meTy m)) (slot : Slot (meTy m) mn id) (hty : typeOf (.builtin id) = pure (.type "method_descriptor")) (hm : MtR X id (fun x xs H Q => rBi X.K px W m (x :: xs) H Q))
    (ha : SE X px W a fa) (hb : SE X px W b fb) (hr : rcv a = true) (hs : nst b = true) (hl : (apos.endLine == cpos.line) = true) :
    SE X px W (.Call (.Attribute a mn apos) [b] [] cpos) (fMe m fa fb) := by
  have hst : starEach [b] X.env = (false, eval b X.env) :: starEach [] X.env := star_ok hs
  refine PE.of (pe_bm pa slot hty hm ha (sa_cons hb sa_nil hst) (base_ok hr) ?_ hl hst rfl) fun σ H Q ⟨w, e, h, p⟩ => ?_
  · rw [hst]; rfl
  refine ⟨w, e, h, p.bind.imp fun x H1 ⟨d1, h1, w1, _, x1, v1, p1⟩ => ?_⟩
  split at p1
  · rename_i hk
    refine ⟨rcv_ty v1 hk, w1, e, h1, ?_⟩
    refine ⟨p1.rr, ?_⟩
    have q := p1.po
    show Post X.K px W σ (relVs X.K) w1 H1 _ ((fb e h1).bind fun x h => (R.ok [] h).bind fun xs h => R.ok (x :: xs) h)
    cases e1 : fb e h1 with
    | bad => rw [e1] at q; exact q
    | exc x h2 => rw [e1] at q; exact q
    | ok d2 h2 =>
      rw [e1] at q
      simp only [R.bind_ok] at q ⊢
      intro vs w2 H2 y1 y2 y3 y4
      cases y4 with
      | cons y4 y5 =>
        cases y5
        exact ⟨σ, w2, e, h2, [d1, d2], .cons (v1.ext y1) (.cons y4 .nil), p1.rr.ext y1 y2 y3, Post.later q y1⟩
  · exact p1.po.elim
/-! ### isinstance(a, T) -/
theorem se_isi {t : Ty} {x : Str} {p p2 : Pos} (ht : plainTy t = true) (hg : Gl X "isinstance") (hm : X.mg "isinstance" = none) (hgt : Gl X x) (hmt : X.mg x = none) (hv : bootBuiltins x = some (.type (tyOf t))) (hn : x ≠ "__name__") (hd : (x == ("__debug__" : Str)) = false)
    (ha : SE X px W a fa) (hs : nst a = true) : SE X px W (.Call (.Name "isinstance" p) [a, .Name x p2] [] pos) (fun e h => (fa e h).bind fun x h => R.of ((dIsi t x).map .bl) h) := by
  have hc : CallR X (.builtin "isinstance") (fun vs H Q => ∃ σ w e h d v, vs = [v, .ty (tyOf t)] ∧ VT X.K w H d v ∧ Pre X.K px W σ (relV X.K) w e h H Q (R.of ((dIsi t d).map .bl) h)) := by
    intro pins s σ H vs us Q I r q
    obtain ⟨σ', w, e, h, d, v, rfl, hv, p0⟩ := q
    obtain ⟨d', ed, p⟩ := p0.nobad
    obtain ⟨u1, u2, rfl, r1, r2⟩ := vals2 r
    cases r2
    cases e1 : dIsi t d with
    | none => rw [e1] at ed; cases ed
    | some k =>
      rw [e1] at ed
      cases ed
      exact nr_reads I hv r1 ht e1 fun tk => ⟨.bl k, H, I.tok tk, rfl, p.done (.bl _)⟩
  have hta : PA X [.Name x p2] (tCons (tC (.ty (tyOf t))) tNil) := pa_cons (pe_bltn hgt hmt hv rfl hn hd) pa_nil
  refine PE.of (pe_callB hc hg hm (by decide +kernel) (pa_cons ha hta (star_ok hs)) (by decide) (by decide) (star_ok hs)) fun σ H Q ⟨w, e, h, p⟩ => ?_
  refine ⟨w, e, h, p.bind.imp fun v H1 ⟨d1, h1, w1, _, x1, v1, p1⟩ => ?_⟩
  exact ⟨σ, w1, e, h1, d1, v, rfl, v1, p1⟩
end
end Tv
end

section
set_option autoImplicit false
set_option maxHeartbeats 1000000
/-! What is walked, targets, comprehensions. -/
namespace Tv
open PySem PySem.Spec PyProof.Rows L2
/-! ### names' slots -/
theorem Ev.length_put : ∀ (e : Ev) (i : Nat) (x : Sl), (e.put i x).length = e.length
  | [], _, _ => rfl
  | _ :: r, 0, _ => rfl
  | _ :: r, n + 1, x => congrArg (· + 1) (Ev.length_put r n x)
theorem Ev.get_put_ne : ∀ (e : Ev) {i j : Nat} (x : Sl), i ≠ j → (e.put i x).get j = e.get j
  | [], _, _, _, _ => rfl
  | _ :: r, 0, 0, _, h => absurd rfl h
  | _ :: r, 0, j + 1, _, h => rfl
  | _ :: r, n + 1, 0, _, h => rfl
  | _ :: r, n + 1, j + 1, x, h => Ev.get_put_ne r x fun e => h (congrArg (· + 1) e)
theorem Ev.get_put : ∀ (e : Ev) (i : Nat) (x : Sl), (e.put i x).get i = .u ∨ (i < e.length ∧ (e.put i x).get i = x)
  | [], _, _ => .inl rfl
  | _ :: r, 0, x => .inr ⟨by simp, rfl⟩
  | _ :: r, n + 1, x => by
    rcases Ev.get_put r n x with h | ⟨h1, h2⟩
    · exact .inl h
    · exact .inr ⟨by simpa using h1, h2⟩
section
variable {K : PySem.W.Frag} {w w' : Wd} {e : Ev} {σ : L2.St} {H H' : Hp}
theorem ER.putI (r : ER K w e σ H) {i : Nat} {x : Sl} {y : Option V} (h : i < e.length → SlR K w H i (some y) x) : ER K w (e.put i x) (σ.set i y) H where
  len := by rw [Ev.length_put, List.length_set]; exact r.len
  wl := by rw [List.length_set]; exact r.wl
  sl := fun j => by
    by_cases hj : i = j
    · subst hj
      rcases Ev.get_put e i x with q | ⟨q1, q2⟩
      · rw [q]; trivial
      · rw [q2, List.getElem?_set_self (by rw [← r.len]; exact q1)]
        exact h q1
    · rw [Ev.get_put_ne e x hj, List.getElem?_set_ne hj]
      exact r.sl j
  inj := r.inj
  ot := r.ot
theorem ER.put (r : ER K w e σ H) (i : Nat) {d : D} {v : V} (h : VS K w H d v) : ER K w (e.put i (.v d)) (σ.set i (some v)) H := r.putI fun _ => ⟨v, rfl, h⟩
theorem ER.wipe (r : ER K w e σ H) : ∀ vs : List Nat, ER K w (e.wipe vs) (L2.wipe σ vs) H
  | [] => r
  | v :: vs => (ER.wipe r vs).putI fun _ => trivial
end
theorem set_wipe {σ : L2.St} {x : Option V} {i : Nat} : ∀ {vs : List Nat}, i ∈ vs → L2.wipe (σ.set i x) vs = L2.wipe σ vs
  | v :: vs, h => by
    have go : ∀ (vs : List Nat), (L2.wipe (σ.set i x) vs).set i none = (L2.wipe σ vs).set i none := by
      intro vs
      induction vs with
      | nil => show (σ.set i x).set i none = σ.set i none; rw [List.set_set]
      | cons u us ih =>
        show ((L2.wipe (σ.set i x) us).set u none).set i none = ((L2.wipe σ us).set u none).set i none
        by_cases hu : u = i
        · subst hu; rw [List.set_set, List.set_set]; exact ih
        · rw [List.set_comm _ _ hu, List.set_comm _ _ hu, ih]
    show (L2.wipe (σ.set i x) vs).set v none = (L2.wipe σ vs).set v none
    by_cases hv : v = i
    · subst hv; exact go vs
    · rcases List.mem_cons.mp h with e | h
      · exact absurd e.symm hv
      · rw [set_wipe h]
theorem wipe_wipe {σ : L2.St} : ∀ (vs us : List Nat), (∀ u ∈ us, u ∈ vs) → L2.wipe (L2.wipe σ us) vs = L2.wipe σ vs
  | vs, [], _ => rfl
  | vs, u :: us, h => by
    show L2.wipe ((L2.wipe σ us).set u none) vs = _
    rw [set_wipe (h u List.mem_cons_self)]
    exact wipe_wipe vs us fun z hz => h z (List.mem_cons_of_mem _ hz)
/-- slots that were set -/
def sets (σ : L2.St) (l : List (Nat × V)) : L2.St := l.foldl (fun σ p => σ.set p.1 (some p.2)) σ
theorem sets_wipe {vs : List Nat} : ∀ (l : List (Nat × V)) (σ : L2.St), (∀ p ∈ l, p.1 ∈ vs) → L2.wipe (sets σ l) vs = L2.wipe σ vs
  | [], _, _ => rfl
  | p :: l, σ, h => by
    show L2.wipe (sets (σ.set p.1 (some p.2)) l) vs = _
    rw [sets_wipe l _ fun q hq => h q (List.mem_cons_of_mem _ hq), set_wipe (h p List.mem_cons_self)]
/-! ### targets -/
def T.is : T → List Nat
  | .n i => [i]
  | .t is => is
def rdG (K : PySem.W.Frag) (T : T) : TG := fun v σ H Q => ∃ w e d e', VR K w H d v ∧ ER K w e σ H ∧ putT T d e = some e' ∧ ∀ σ' l, σ' = sets σ l → (∀ p ∈ l, p.1 ∈ T.is) → ER K w e' σ' H → Q σ' H
abbrev SG (X : Cx) (t : Expr) (T : T) : Prop := PG X t (rdG X.K T)
theorem PG.of {X : Cx} {e : Expr} {t t' : TG} (h : PG X e t) (i : ∀ v σ H Q, t' v σ H Q → t v σ H Q) : PG X e t' := ⟨fun pins s σ H v u Q I r q => h.run pins s σ H v u Q I r (i v σ H Q q)⟩
theorem PGs.of {X : Cx} {e : List Expr} {t t' : TGs} (h : PGs X e t) (i : ∀ v σ H Q, t' v σ H Q → t v σ H Q) : PGs X e t' := ⟨fun pins s σ H v u Q I r q => h.run pins s σ H v u Q I r (i v σ H Q q)⟩
/-- a name that may be stored -/
def NmOk (X : Cx) (x : Str) (i : Nat) : Prop := X.N[i]? = some x ∧ Loc X.env.scope x ∧ (X.fn x = true ∨ X.env.scope.names.lookup x = some .local)
section
variable {X : Cx} {pos : Pos}
theorem sg_name {x : Str} {i : Nat} (hN : X.N.Nodup) (h : NmOk X x i) : SG X (.Name x pos) (.n i) := by
  refine PG.of (pg_name hN h.1 h.2.1 h.2.2) fun v σ H Q ⟨w, e, d, e', hv, he, hp, hq⟩ => ?_
  have hp : (if d.keep = true then some (e.put i (.v d)) else none) = some e' := hp
  split at hp
  · cases hp
    exact hq _ [(i, v)] rfl (by simp [T.is]) (he.put i (.of hv))
  · cases hp
inductive NmsOk (X : Cx) : List Expr → List Nat → Prop
  | nil : NmsOk X [] []
  | cons {x : Str} {p : Pos} {i : Nat} {es : List Expr} {is : List Nat} : NmOk X x i → NmsOk X es is → NmsOk X (.Name x p :: es) (i :: is)
def putsE (e : Ev) (l : List (Nat × D)) : Ev := l.foldl (fun e p => e.put p.1 (.v p.2)) e
def rdGs (K : PySem.W.Frag) (is : List Nat) : TGs := fun vs σ H Q => ∃ w e ds, VRs K w H ds vs ∧ ER K w e σ H ∧ ds.length = is.length ∧ ∀ σ' l, σ' = sets σ l → (∀ p ∈ l, p.1 ∈ is) → ER K w (putsE e (is.zip ds)) σ' H → Q σ' H
theorem sgs {es : List Expr} {is : List Nat} (hN : X.N.Nodup) (h : NmsOk X es is) : PGs X es (rdGs X.K is) := by
  induction h with
  | nil =>
    refine PGs.of pgs_nil fun v σ H Q ⟨w, e, ds, hv, he, hl, hq⟩ => ?_
    cases hv with
    | nil => exact ⟨rfl, hq σ [] rfl (by simp) he⟩
    | cons => cases hl
  | @cons x p i es is h1 h2 ih =>
    refine PGs.of (pgs_cons (pg_name hN h1.1 h1.2.1 h1.2.2) ih) fun v σ H Q ⟨w, e, ds, hv, he, hl, hq⟩ => ?_
    cases hv with
    | nil => cases hl
    | @cons d v ds vs a b =>
      refine ⟨v, vs, rfl, w, e.put i (.v d), ds, b, he.put i (.of a), by simpa using hl, fun σ' l hs hm he' => hq σ' ((i, v) :: l) hs (fun p hp => ?_) he'⟩
      rcases List.mem_cons.mp hp with z | z
      · rw [z]; exact List.mem_cons_self
      · exact List.mem_cons_of_mem _ (hm p z)
theorem NmsOk.len {es : List Expr} {is : List Nat} (h : NmsOk X es is) : (assignEach es X.env).length = is.length := by
  induction h with
  | nil => rfl
  | @cons x p i es is h1 h2 ih => exact congrArg (· + 1) ih
theorem find_none {α : Type} {p : α → Bool} : ∀ {l : List α}, (∀ a ∈ l, p a = false) → l.findIdx? p = none
  | [], _ => rfl
  | a :: l, h => by
    rw [List.findIdx?_cons, h a List.mem_cons_self]
    rw [find_none fun b hb => h b (List.mem_cons_of_mem _ hb)]
    rfl
theorem NmsOk.nost {es : List Expr} {is : List Nat} (h : NmsOk X es is) : ∀ q ∈ assignEach es X.env, q.1 = false := by
  induction h with
  | nil => intro q hq; cases hq
  | @cons x p i es is h1 h2 ih =>
    intro q hq
    have hq : q ∈ (false, assign (.Name x p) X.env) :: assignEach es X.env := hq
    rcases List.mem_cons.mp hq with z | z
    · rw [z]
    · exact ih q z
theorem putT_t {is : List Nat} {d : D} {e e' : Ev} (h : putT (.t is) d e = some e') : ∃ ds, d = .tup ds ∧ ds.length = is.length ∧ e' = putsE e (is.zip ds) := by
  unfold putT at h
  cases d <;> try (cases h; done)
  dsimp only at h
  split at h
  · cases h
    exact ⟨_, rfl, by assumption, rfl⟩
  · cases h
theorem sg_tup {es : List Expr} {is : List Nat} {k : Nat} (hc : X.calm = true) (hN : X.N.Nodup) (h : NmsOk X es is) : SG X (.Tuple es k pos) (.t is) := by
  refine PG.of (pg_tup (n := is.length) hc (sgs hN h) h.len (find_none h.nost)) fun v σ H Q ⟨w, e, d, e', hv, he, hp, hq⟩ => ?_
  obtain ⟨ds, rfl, hl, rfl⟩ := putT_t hp
  cases hv with
  | @tup a xs _ q r => exact ⟨a, xs, rfl, sqt q, by rw [← r.length]; exact hl, w, e, ds, r, he, hl, hq⟩
end
end Tv
end

section
set_option autoImplicit false
set_option maxHeartbeats 1000000
/-! What is walked. -/
namespace Tv
open PySem PySem.Spec PyProof.Rows L2
/-- what a walk's parts stand: any step (st), or an expression's -/
def XX (st : Bool) (w : Wd) (H : Hp) (w' : Wd) (H' : Hp) : Prop := if st = true then ExtS w H w' H' else Ext w H w' H'
theorem XX.s {st : Bool} {w w' : Wd} {H H' : Hp} (x : XX st w H w' H') : ExtS w H w' H' := by
  cases st with
  | true => exact x
  | false => exact Ext.s x
theorem XX.of {st : Bool} {w w' : Wd} {H H' : Hp} (x : Ext w H w' H') : XX st w H w' H' := by
  cases st with
  | true => exact x.s
  | false => exact x
theorem XX.trans {st : Bool} {w w1 w2 : Wd} {H H1 H2 : Hp} (a : XX st w H w1 H1) (b : XX st w1 H1 w2 H2) : XX st w H w2 H2 := by
  cases st with
  | true => exact ExtS.trans a b
  | false => exact Ext.trans a b
/-- a new tuple, or nothing -/
def Nw (H H' : Hp) : Prop := H' = H ∨ ∃ T xs, H T = none ∧ H' = upd H T (.tup xs)
theorem Ext.new0 {w : Wd} {H : Hp} {p : Addr} {o : HO} (hp : H p = none) : Ext w H w (upd H p o) := by
  refine ⟨⟨[], by simp, fun _ h => by cases h⟩, rfl, fun _ h => h, fun _ h => .inl h, fun a u q _ _ => by rw [upd_ne (ne_of_none q hp)]; exact q, fun a xs q => ?_, fun a q => ?_⟩
  · rw [upd_ne (ne_of_none q hp)]; exact q
  · by_cases ha : a = p
    · rw [ha]; exact hp
    · rw [upd_ne ha] at q; exact q
theorem Nw.ext {w : Wd} {H H' : Hp} (n : Nw H H') : Ext w H w H' := by
  rcases n with rfl | ⟨T, xs, h, rfl⟩
  · exact Ext.refl _ _
  · exact Ext.new0 h
structure IR (K : PySem.W.Frag) (st : Bool) (w : Wd) (H : Hp) (ds : List D) (J : L2.It) : Prop where
  ex : ∃ G Y, Walk J ds.length G Y ∧ (∀ w' H', XX st w H w' H' → G H') ∧ ∀ (i : Nat) (w' : Wd) (H' : Hp) (v : V) (H'' : Hp), i < ds.length → XX st w H w' H' → Y i H' v H'' → ∃ d, ds[i]? = some d ∧ Nw H' H'' ∧ VR K w' H'' d v
abbrev relI (K : PySem.W.Frag) (st : Bool) : Wd → Hp → List D → L2.It → Prop := fun w H ds J => IR K st w H ds J
def rdI (K : PySem.W.Frag) (px : Px) (W : WX) (st : Bool) (f : Ev → Hs → R (List D)) : TI := fun σ H Q => ∃ w e h, Pre K px W σ (relI K st) w e h H Q (f e h)
abbrev SI (X : Cx) (px : Px) (W : WX) (st : Bool) (tg e : Expr) (f : Ev → Hs → R (List D)) : Prop := PI X tg e (rdI X.K px W st f)
theorem PI.of {X : Cx} {tg e : Expr} {t t' : TI} (h : PI X tg e t) (i : ∀ σ H R, t' σ H R → t σ H R) : PI X tg e t' := ⟨fun pins s σ H R I q => h.run pins s σ H R I (i σ H R q)⟩
/-- anything that may be walked -/
def iAny (K : PySem.W.Frag) (te : TE) : TI := fun σ H R => te σ H fun x H1 => (∃ a xs, x = .ref a ∧ SqL K H1 a xs ∧ R (Itl K a) H1) ∨ (∃ a xs, x = .ref a ∧ SqT K H1 a xs ∧ R (Itt K a) H1) ∨ ∃ z, x = .str z ∧ R (Its z) H1
theorem pi_any {X : Cx} {tg l : Expr} {tl : TE} (hl : PE X l tl) : PI X tg l (iAny X.K tl) := by
  refine ⟨fun pins s σ H R I h => ?_⟩
  refine thn (hl.run pins s σ H _ I h) fun v s1 ⟨x, H1, I1, r1, q1⟩ => ?_
  rcases q1 with ⟨a, xs, e, hq, q⟩ | ⟨a, xs, e, hq, q⟩ | ⟨z, e, q⟩
  · subst e
    cases r1
    obtain ⟨its, rv, p, hz⟩ := I1.list hq
    refine wpAny_pyIter_list p.isList ?_
    refine ⟨s1.heap.objs.size, [s1.heap.objs.size], _, _, H1, rfl, I1.kept (t' := s1.toks) fun b o e => Heap.get?_push_of_some _ e, turn_list a _, ⟨_, Heap.get?_push_size _ rfl, rfl, rfl⟩, fun b hb => ?_, q⟩
    have e : b = s1.heap.objs.size := by simpa using hb
    subst e
    exact I1.fpOk (Nat.le_refl _) (I1.hok.fresh (Nat.le_refl _))
  · subst e
    cases r1
    obtain ⟨its, rv, p, hz⟩ := I1.tuple hq
    refine wpAny_pyIter_tuple (show s1.heap.IsTuple a its.toArray from p) ?_
    refine ⟨s1.heap.objs.size, [s1.heap.objs.size], _, _, H1, rfl, I1.kept (t' := s1.toks) fun b o e => Heap.get?_push_of_some _ e, turn_tuple a _, ⟨_, Heap.get?_push_size _ rfl, rfl, rfl⟩, fun b hb => ?_, q⟩
    have e : b = s1.heap.objs.size := by simpa using hb
    subst e
    exact I1.fpOk (Nat.le_refl _) (I1.hok.fresh (Nat.le_refl _))
  · subst e
    obtain ⟨t, rfl⟩ := r1
    cases ha : z.cps.all (· < 128)
    · exact wpAny_pyIter_wide ha (pi_one (tk := s1.toks) I1 _ (turn_str _ z t "str_iterator" (.inr rfl)) ⟨_, Heap.get?_push_size _ rfl, rfl, rfl⟩ q)
    · exact wpAny_pyIter_ascii ha (pi_one (tk := s1.toks) I1 _ (turn_str _ z t "str_ascii_iterator" (.inl rfl)) ⟨_, Heap.get?_push_size _ rfl, rfl, rfl⟩ q)
section
variable {K : PySem.W.Frag} {st : Bool} {w : Wd} {H : Hp}
theorem VRs.at_ {ds : List D} {vs : List V} (h : VRs K w H ds vs) : ∀ {i : Nat} {v : V}, vs[i]? = some v → ∃ d, ds[i]? = some d ∧ VR K w H d v := by
  intro i
  induction i generalizing ds vs with
  | zero =>
    intro v hv
    cases h with
    | nil => cases hv
    | cons a b => cases hv; exact ⟨_, rfl, a⟩
  | succ n ih =>
    intro v hv
    cases h with
    | nil => cases hv
    | cons a b => exact ih b hv
theorem ir_list {a : Addr} {xs : List V} {ds : List D} (hq : ∀ w' H', XX st w H w' H' → SqL K H' a xs) (r : VRs K w H ds xs) : IR K st w H ds (Itl K a) := by
  refine ⟨_, (YAt xs), ?_, hq, fun i w' H' v H'' hi x y => ?_⟩
  · rw [r.length]; exact walk_list
  · obtain ⟨e, y⟩ := y
    subst e
    obtain ⟨d, h1, h2⟩ := r.at_ y
    exact ⟨d, h1, .inl rfl, h2.exts x.s⟩
theorem ir_tup {a : Addr} {xs : List V} {ds : List D} (hq : ∀ w' H', XX st w H w' H' → SqT K H' a xs) (r : VRs K w H ds xs) : IR K st w H ds (Itt K a) := by
  refine ⟨_, (YAt xs), ?_, hq, fun i w' H' v H'' hi x y => ?_⟩
  · rw [r.length]; exact walk_tup
  · obtain ⟨e, y⟩ := y
    subst e
    obtain ⟨d, h1, h2⟩ := r.at_ y
    exact ⟨d, h1, .inl rfl, h2.exts x.s⟩
theorem ir_str {z : Str} : IR K st w H (z.cps.toList.map fun c => D.str ⟨#[c]⟩) (Its z) := by
  refine ⟨_, (fun i H v H' => H' = H ∧ ∃ c, z.cps[i]? = some c ∧ v = .str ⟨#[c]⟩), ?_, fun _ _ _ => trivial, fun i w' H' v H'' hi x y => ?_⟩
  · rw [List.length_map, Array.length_toList]; exact walk_str
  · obtain ⟨e, c, hc, rfl⟩ := y
    subst e
    refine ⟨.str ⟨#[c]⟩, ?_, .inl rfl, .str _⟩
    rw [List.getElem?_map, Array.getElem?_toList, hc]; rfl
/-- a list that may be walked stays -/
theorem VT.sqs {d : D} {v : V} {ds : List D} (h : VT K w H d v) (hs : ∀ a, a ∈ w.hp → some a ∉ w.ow) (hb : (st && isBor d) = false) (k : d.sq? = some ds) :
    ∃ a xs, v = .ref a ∧ VRs K w H ds xs ∧ ((d.ls? = some ds ∧ ∀ w' H', XX st w H w' H' → SqL K H' a xs) ∨ (d = .tup ds ∧ ∀ w' H', XX st w H w' H' → SqT K H' a xs)) := by
  cases h with
  | of h =>
    cases h with
    | of h =>
      cases h with
      | @lst a xs ds n q r =>
        cases k
        exact ⟨a, xs, rfl, r, .inl ⟨rfl, fun w' H' x => .inl (.inl (x.s.keep _ _ q (fun z => n (.inl z)) (fun z => n (.inr (.inl z))) fun ps e => by cases e))⟩⟩
      | @tup a xs ds q r =>
        cases k
        refine ⟨a, xs, rfl, r, .inr ⟨rfl, fun w' H' x => ?_⟩⟩
        exact .inl (.inl (x.s.tups _ _ q))
      | _ => cases k
    | @scr a xs ds n1 n2 q r =>
      cases k
      refine ⟨a, xs, rfl, r, .inl ⟨rfl, fun w' H' x => ?_⟩⟩
      rcases q with q | ⟨o, q⟩
      · exact .inl (.inl (x.s.keep _ _ q n1 n2 fun ps e => by cases e))
      · exact .inl (.inr ⟨o, x.s.keep _ _ q n1 n2 fun ps e => by cases e⟩)
    | @scrK a xs ds q r =>
      cases k
      exact ⟨a, xs, rfl, r, .inl ⟨rfl, fun w' H' x => .inr q⟩⟩
  | @bor a xs ds m n q r =>
    cases k
    have e : st = false := by
      cases st with
      | false => rfl
      | true => cases hb
    subst e
    refine ⟨a, xs, rfl, r, .inl ⟨rfl, fun w' H' x => ?_⟩⟩
    exact .inl (.inl (Ext.keep x _ _ q n fun ps e => by cases e))
theorem nb_some {d d' : D} (h : nb st d = some d') : d' = d ∧ (st && isBor d) = false := by
  unfold nb at h
  split at h
  · cases h
  · rename_i q
    cases h
    exact ⟨rfl, by simpa using q⟩
theorem zip_len : ∀ xs ys : List D, (zipD xs ys).length = min xs.length ys.length
  | [], _ => by simp [zipD]
  | _ :: _, [] => by simp [zipD]
  | x :: xs, y :: ys => by
    show (zipD xs ys).length + 1 = _
    rw [zip_len xs ys]
    simp only [List.length_cons]
    omega
theorem zip_at : ∀ {xs ys : List D} {i : Nat} {x y : D}, xs[i]? = some x → ys[i]? = some y → (zipD xs ys)[i]? = some (.tup [x, y])
  | [], _, _, _, _, h, _ => by simp at h
  | _ :: _, [], _, _, _, _, h => by simp at h
  | x :: xs, y :: ys, 0, _, _, h1, h2 => by cases h1; cases h2; rfl
  | x :: xs, y :: ys, i + 1, _, _, h1, h2 => zip_at (xs := xs) (ys := ys) (i := i) h1 h2
theorem vr_pair {w' : Wd} {H' : Hp} {T : Addr} {x y : D} {v u : V} (h : H' T = none) (h1 : VR K w' H' x v) (h2 : VR K w' H' y u) : VR K w' (upd H' T (.tup [v, u])) (.tup [x, y]) (.ref T) :=
  .tup (upd_same ..) (.cons (h1.ext (Ext.new0 h)) (.cons (h2.ext (Ext.new0 h)) .nil))
theorem ir_zip {J : L2.It} {xs ys : List V} {ds es : List D} {G : Hp → Prop} (hw : Walk J (min xs.length ys.length) G (YPair (fun i => xs[i]?) (fun i => ys[i]?))) (hg : ∀ w' H', XX st w H w' H' → G H') (r : VRs K w H ds xs) (r2 : VRs K w H es ys) : IR K st w H (zipD ds es) J := by
  refine ⟨G, (YPair (fun i => xs[i]?) (fun i => ys[i]?)), ?_, hg, fun i w' H' v H'' hi x y => ?_⟩
  · rw [zip_len, r.length, r2.length]; exact hw
  · obtain ⟨T, x1, y1, rfl, hT, rfl, hx, hy⟩ := y
    obtain ⟨d1, e1, v1⟩ := r.at_ hx
    obtain ⟨d2, e2, v2⟩ := r2.at_ hy
    exact ⟨_, zip_at e1 e2, .inr ⟨T, _, hT, rfl⟩, vr_pair hT (v1.exts x.s) (v2.exts x.s)⟩
theorem walk_zipT {a b : Addr} {xs ys : List V} {n : Nat} (hn : n = min xs.length ys.length) : Walk (RZ.ItzT K a b) n (fun H => SqT K H a xs ∧ SqT K H b ys) (YPair (fun i => xs[i]?) (fun i => ys[i]?)) := by
  subst hn
  refine ⟨fun i _ hi q => ?_, fun _ q => ⟨xs, ys, q.1, q.2, by omega⟩, fun i H v H' _ q y => ?_⟩
  · have h1 : i < xs.length := by omega
    have h2 : i < ys.length := by omega
    exact ⟨xs, ys, xs[i], ys[i], q.1, q.2, by simp [h1], by simp [h2]⟩
  · obtain ⟨T, x, z, h1, h2, h3, h4, h5⟩ := y
    exact ⟨T, x, z, h1, h2, h3, h4 xs q.1, h5 ys q.2⟩
theorem sq_of_ls {d : D} {xs : List D} (h : d.ls? = some xs) : d.sq? = some xs := by
  cases d <;> first | (cases h; done) | (cases h; rfl)
def ZipG (X : Cx) (R : L2.It → Hp → Prop) (H : Hp) (vs : List V) : Prop := ∃ a b xs ys, vs = [.ref a, .ref b] ∧ ((SqL X.K H a xs ∧ SqL X.K H b ys ∧ R (Itz X.K a b) H) ∨ (SqT X.K H a xs ∧ SqT X.K H b ys ∧ R (RZ.ItzT X.K a b) H))
theorem enm_len : ∀ (i : Nat) (xs : List D), (enmD i xs).length = xs.length
  | _, [] => rfl
  | i, x :: xs => congrArg (· + 1) (enm_len (i + 1) xs)
theorem enm_at : ∀ {xs : List D} {k i : Nat} {x : D}, xs[i]? = some x → (enmD k xs)[i]? = some (.tup [.int ((k + i : Nat) : Int), x])
  | [], _, _, _, h => by simp at h
  | x :: xs, k, 0, _, h => by cases h; rfl
  | x :: xs, k, i + 1, _, h => by
    have q := enm_at (xs := xs) (k := k + 1) (i := i) h
    rw [show k + 1 + i = k + (i + 1) by omega] at q
    exact q
theorem ir_enm {a : Addr} {xs : List V} {ds : List D} (hq : ∀ w' H', XX st w H w' H' → SqL K H' a xs) (r : VRs K w H ds xs) : IR K st w H (enmD 0 ds) (Ite K a) := by
  refine ⟨_, (YPair (fun i => some (.int (i : Nat))) (fun i => xs[i]?)), ?_, hq, fun i w' H' v H'' hi x y => ?_⟩
  · rw [enm_len, r.length]; exact walk_enum
  · obtain ⟨T, x1, y1, rfl, hT, rfl, hx, hy⟩ := y
    cases hx
    obtain ⟨d2, e2, v2⟩ := r.at_ hy
    have q := enm_at (k := 0) e2
    rw [Nat.zero_add] at q
    exact ⟨_, q, .inr ⟨T, _, hT, rfl⟩, vr_pair hT (.int _) (v2.exts x.s)⟩
theorem ir_enmT {a : Addr} {xs : List V} {ds : List D} (hq : ∀ w' H', XX st w H w' H' → SqT K H' a xs) (r : VRs K w H ds xs) : IR K st w H (enmD 0 ds) (IteT K a) := by
  refine ⟨_, (YPair (fun i => some (.int (i : Nat))) (fun i => xs[i]?)), ?_, hq, fun i w' H' v H'' hi x y => ?_⟩
  · rw [enm_len, r.length]; exact walk_enumT
  · obtain ⟨T, x1, y1, rfl, hT, rfl, hx, hy⟩ := y
    cases hx
    obtain ⟨d2, e2, v2⟩ := r.at_ hy
    have q := enm_at (k := 0) e2
    rw [Nat.zero_add] at q
    exact ⟨_, q, .inr ⟨T, _, hT, rfl⟩, vr_pair hT (.int _) (v2.exts x.s)⟩
theorem rangeL_len : ∀ (lo : Int) (n : Nat), (rangeL lo n).length = n
  | _, 0 => rfl
  | lo, n + 1 => congrArg (· + 1) (rangeL_len (lo + 1) n)
theorem rangeL_at : ∀ (lo : Int) {n i : Nat}, i < n → (rangeL lo n)[i]? = some (.int (lo + i))
  | lo, 0, i, h => by omega
  | lo, n + 1, 0, h => by show some (D.int lo) = _; simp
  | lo, n + 1, i + 1, h => by
    show (rangeL (lo + 1) n)[i]? = _
    rw [rangeL_at (lo + 1) (by omega : i < n)]
    congr 2; omega
theorem ir_range {lo : Int} {n : Nat} : IR K st w H (rangeL lo n) (Itr lo n) := by
  refine ⟨_, (YFn fun i => .int (lo + i)), ?_, fun _ _ _ => trivial, fun i w' H' v H'' hi x y => ?_⟩
  · rw [rangeL_len]; exact walk_range
  · rw [rangeL_len] at hi
    obtain ⟨rfl, rfl⟩ := y
    exact ⟨_, rangeL_at lo hi, .inl rfl, .int _⟩
theorem downL_len : ∀ (lo : Int) (n : Nat), (downL lo n).length = n
  | _, 0 => rfl
  | lo, n + 1 => congrArg (· + 1) (downL_len (lo - 1) n)
theorem downL_at : ∀ (lo : Int) {n i : Nat}, i < n → (downL lo n)[i]? = some (.int (lo + (i : Nat) * (-1)))
  | lo, 0, i, h => by omega
  | lo, n + 1, 0, h => by show some (D.int lo) = _; simp
  | lo, n + 1, i + 1, h => by
    show (downL (lo - 1) n)[i]? = _
    rw [downL_at (lo - 1) (by omega : i < n)]
    congr 2; omega
theorem ir_down {lo : Int} {n : Nat} : IR K st w H (downL lo n) (Itc lo (-1) n) := by
  refine ⟨_, (YFn fun i => .int (lo + (i : Nat) * (-1))), ?_, fun _ _ _ => trivial, fun i w' H' v H'' hi x y => ?_⟩
  · rw [downL_len]; exact walk_rangeC
  · rw [downL_len] at hi
    obtain ⟨rfl, rfl⟩ := y
    exact ⟨_, downL_at lo hi, .inl rfl, .int _⟩
end
section
variable {X : Cx} {px : Px} {W : WX} {st : Bool} {tg a b c : Expr} {fa fb fc : Ev → Hs → R D} {p pos tpos : Pos}
theorem si_seq (ha : SE X px W a fa) : SI X px W st tg a (fun e h => (fa e h).bind fun x h => R.of ((nb st x).bind itSeq) h) := by
  refine PI.of (pi_any ha) fun σ H R ⟨w, e, h, p⟩ => ⟨w, e, h, p.bind.imp fun x H1 ⟨d, h1, w1, _, x1, v1, p1⟩ => ?_⟩
  obtain ⟨ds, ed, p2⟩ := p1.nobad
  cases e1 : nb st d with
  | none => rw [e1] at ed; cases ed
  | some d' =>
    rw [e1] at ed
    obtain ⟨rfl, hb⟩ := nb_some e1
    have ed : itSeq d' = some ds := ed
    by_cases hs : ∃ z, d' = .str z
    · obtain ⟨z, rfl⟩ := hs
      cases ed
      exact .inr (.inr ⟨z, vStr v1, p2.done ir_str⟩)
    · have ed : d'.sq? = some ds := by
        unfold itSeq at ed
        cases d' <;> first | exact ed | exact absurd ⟨_, rfl⟩ hs
      obtain ⟨q, xs, rfl, r, ⟨_, hq⟩ | ⟨_, hq⟩⟩ := v1.sqs (fun a m => (p2.rr.hr.sep a m).1) hb ed
      · exact .inl ⟨q, xs, rfl, hq _ _ (XX.of (Ext.refl _ _)), p2.done (ir_list hq r)⟩
      · exact .inr (.inl ⟨q, xs, rfl, hq _ _ (XX.of (Ext.refl _ _)), p2.done (ir_tup hq r)⟩)
theorem inB_of {i : Int} (h : inB i = true) : -(2 ^ 62) ≤ i ∧ i < 2 ^ 62 := by unfold inB at h; exact of_decide_eq_true h
theorem itRng_of {a b : D} {ds : List D} (h : itRng a b = some ds) : ∃ i j : Int, a = .int i ∧ b = .int j ∧ (-(2 ^ 62) ≤ i ∧ i < 2 ^ 62) ∧ (-(2 ^ 62) ≤ j ∧ j < 2 ^ 62) ∧ ds = rangeL i (j - i).toNat := by
  unfold itRng at h
  cases a <;> try (cases h; done)
  cases b <;> try (cases h; done)
  dsimp only at h
  split at h
  · rename_i q
    rw [Bool.and_eq_true, Bool.and_eq_true] at q
    cases h
    exact ⟨_, _, rfl, rfl, inB_of q.1.1, inB_of q.1.2, rfl⟩
  · cases h
theorem si_rng (ha : SE X px W a fa) (hg : Gl X "range") (hm : X.mg "range" = none) (hs : nst a = true) : SI X px W st tg (.Call (.Name "range" p) [a] [] pos) (fun e h => (fa e h).bind fun x h => R.of (itRng (.int 0) x) h) := by
  refine PI.of (pi_range1 hg hm (pa_cons ha pa_nil (star_ok hs)) (star_ok hs)) fun σ H R ⟨w, e, h, p⟩ => ⟨w, e, h, p.bind.imp fun x H1 ⟨d, h1, w1, _, x1, v1, p1⟩ => ?_⟩
  obtain ⟨ds, ed, p2⟩ := p1.nobad
  obtain ⟨i, j, e1, rfl, hi, hj, rfl⟩ := itRng_of ed
  cases e1
  obtain rfl := vInt v1
  refine ⟨j, rfl, hj.1, hj.2, ?_⟩
  have q := p2.done (v := Itr 0 j.toNat) (by rw [show (j - 0 : Int) = j by omega]; exact ir_range)
  exact q
theorem si_rngs (ha : SE X px W a fa) (hb : SE X px W b fb) (hg : Gl X "range") (hm : X.mg "range" = none) (hs : nst a = true) (hs2 : nst b = true) : SI X px W st tg (.Call (.Name "range" p) [a, b] [] pos) (fun e h => (fa e h).bind fun x h => (fb e h).bind fun y h => R.of (itRng x y) h) := by
  have hs12 : [a, b].all nst = true := by simp [hs, hs2]
  refine PI.of (pi_range2 hg hm (pa_cons ha (pa_cons hb pa_nil (star_ok hs2)) (star_ok hs)) (by rw [star_ok hs, star_ok hs2]; rfl) (star_ok hs2)) fun σ H R ⟨w, e, h, p⟩ => ⟨w, e, h, p.bind.imp fun x H1 ⟨d, h1, w1, _, x1, v1, p1⟩ => ⟨w1, e, h1, p1.bind.imp fun y H2 ⟨d2, h2, w2, _, x2, v2, p2⟩ => ?_⟩⟩
  obtain ⟨ds, ed, p3⟩ := p2.nobad
  obtain ⟨i, j, rfl, rfl, hi, hj, rfl⟩ := itRng_of ed
  obtain rfl := vInt v1
  obtain rfl := vInt v2
  exact ⟨i, j, rfl, ⟨hi.1, hi.2, hj.1, hj.2⟩, p3.done ir_range⟩
theorem si_rng3 (ha : SE X px W a fa) (hb : SE X px W b fb) (hc : SE X px W c fc) (hg : Gl X "range") (hm : X.mg "range" = none) (hs : nst a = true) (hs2 : nst b = true) (hs3 : nst c = true) : SI X px W st tg (.Call (.Name "range" p) [a, b, c] [] pos) (fun e h => (fa e h).bind fun x h => (fb e h).bind fun y h => (fc e h).bind fun z h => R.of (itDown x y z) h) := by
  refine PI.of (pi_range3 hg hm (pa_cons ha (pa_cons hb (pa_cons hc pa_nil (star_ok hs3)) (star_ok hs2)) (star_ok hs)) (star_ok hs) (stars_any (by simp [hs2, hs3]))) fun σ H R ⟨w, e, h, p⟩ => ⟨w, e, h, p.bind.imp fun x H1 ⟨d, h1, w1, _, x1, v1, p1⟩ => ⟨w1, e, h1, p1.bind.imp fun y H2 ⟨d2, h2, w2, _, x2, v2, p2⟩ => ⟨w2, e, h2, p2.bind.imp fun z H3 ⟨d3, h3, w3, _, x3, v3, p3⟩ => ?_⟩⟩⟩
  obtain ⟨ds, ed, p4⟩ := p3.nobad
  obtain ⟨i, rfl⟩ : ∃ i, d = .int i := by unfold itDown at ed; cases d <;> first | exact ⟨_, rfl⟩ | cases ed
  obtain ⟨j, rfl⟩ : ∃ i, d2 = .int i := by unfold itDown at ed; cases d2 <;> first | exact ⟨_, rfl⟩ | cases ed
  obtain ⟨k, rfl⟩ : ∃ i, d3 = .int i := by unfold itDown at ed; cases d3 <;> first | exact ⟨_, rfl⟩ | cases ed
  unfold itDown at ed
  dsimp only at ed
  split at ed
  · rename_i q
    rw [Bool.and_eq_true, Bool.and_eq_true, Bool.and_eq_true] at q
    cases ed
    have hi := inB_of q.1.1.1
    have hj := inB_of q.1.1.2
    have hk : k = -1 := of_decide_eq_true q.1.2
    subst hk
    obtain rfl := vInt v1
    obtain rfl := vInt v2
    obtain rfl := vInt v3
    exact ⟨i, j, -1, _, rfl, RgC.neg hi.1 hi.2 hj.1 hj.2, p4.done ir_down⟩
  · cases ed
theorem si_zip {elts : List Expr} {kk : Nat} (ha : SE X px W a fa) (hb : SE X px W b fb) (hg : Gl X "zip") (hm : X.mg "zip" = none) (hs : nst a = true) (hs2 : nst b = true) : SI X px W st (.Tuple elts kk tpos) (.Call (.Name "zip" p) [a, b] [] pos) (fun e h => (fa e h).bind fun x h => (fb e h).bind fun y h => R.of ((nb st x).bind fun x => (nb st y).bind fun y => itZip x y) h) := by
  refine PI.of (RZ.pi_zipA hg hm (pa_cons ha (pa_cons hb pa_nil (star_ok hs2)) (star_ok hs)) (star_ok hs) (stars_any (by simp [hs2]))) fun σ H R ⟨w, e, h, p⟩ => ⟨w, e, h, p.bind.imp fun x H1 ⟨d, h1, w1, _, x1, v1, p1⟩ => ⟨w1, e, h1, p1.bind.imp fun y H2 ⟨d2, h2, w2, _, x2, v2, p2⟩ => ?_⟩⟩
  obtain ⟨ds, ed, p3⟩ := p2.nobad
  cases e1 : nb st d with
  | none => rw [e1] at ed; cases ed
  | some d' =>
    cases e2 : nb st d2 with
    | none => rw [e1, e2] at ed; cases ed
    | some d2' =>
      rw [e1, e2] at ed
      obtain ⟨rfl, b1⟩ := nb_some e1
      obtain ⟨rfl, b2⟩ := nb_some e2
      have ed : itZip d' d2' = some ds := ed
      have v1 := v1.ext x2
      have sep : ∀ a, a ∈ w2.hp → some a ∉ w2.ow := fun a m => (p3.rr.hr.sep a m).1
      unfold itZip at ed
      have key : ∀ {xs ys : List D}, d'.ls? = some xs → d2'.ls? = some ys → ds = zipD xs ys → ZipG X R H2 [x, y] := fun {xs ys} k1 k2 k3 => by
        obtain ⟨q, us, rfl, r, ⟨_, hq⟩ | ⟨hz, _⟩⟩ := v1.sqs sep b1 (sq_of_ls k1)
        · obtain ⟨q', us', rfl, r', ⟨_, hq'⟩ | ⟨hz, _⟩⟩ := v2.sqs sep b2 (sq_of_ls k2)
          · rw [k3] at p3
            exact ⟨q, q', us, us', rfl, .inl ⟨hq _ _ (XX.of (Ext.refl _ _)), hq' _ _ (XX.of (Ext.refl _ _)), p3.done (ir_zip (walk_zip rfl) (fun w' H' x => ⟨hq w' H' x, hq' w' H' x⟩) r r')⟩⟩
          · subst hz; cases k2
        · subst hz; cases k1
      split at ed
      · cases ed
        obtain ⟨q, us, rfl, r, ⟨hz, _⟩ | ⟨_, hq⟩⟩ := v1.sqs sep b1 rfl
        · cases hz
        · obtain ⟨q', us', rfl, r', ⟨hz, _⟩ | ⟨_, hq'⟩⟩ := v2.sqs sep b2 rfl
          · cases hz
          · exact ⟨q, q', us, us', rfl, .inr ⟨hq _ _ (XX.of (Ext.refl _ _)), hq' _ _ (XX.of (Ext.refl _ _)), p3.done (ir_zip (walk_zipT rfl) (fun w' H' x => ⟨hq w' H' x, hq' w' H' x⟩) r r')⟩⟩
      · split at ed
        · rename_i xs ys k1 k2
          cases ed
          exact key k1 k2 rfl
        · cases ed
theorem si_enm {elts : List Expr} {kk : Nat} (ha : SE X px W a fa) (hg : Gl X "enumerate") (hm : X.mg "enumerate" = none) (hs : nst a = true) : SI X px W st (.Tuple elts kk tpos) (.Call (.Name "enumerate" p) [a] [] pos) (fun e h => (fa e h).bind fun x h => R.of ((nb st x).bind fun x => x.sq?.map (enmD 0)) h) := by
  refine PI.of (pi_enumA hg hm (pa_cons ha pa_nil (star_ok hs)) (star_ok hs)) fun σ H R ⟨w, e, h, p⟩ => ⟨w, e, h, p.bind.imp fun x H1 ⟨d, h1, w1, _, x1, v1, p1⟩ => ?_⟩
  obtain ⟨ds, ed, p2⟩ := p1.nobad
  cases e1 : nb st d with
  | none => rw [e1] at ed; cases ed
  | some d' =>
    rw [e1] at ed
    obtain ⟨rfl, hb⟩ := nb_some e1
    have ed : d'.sq?.map (enmD 0) = some ds := ed
    cases k1 : d'.sq? with
    | none => rw [k1] at ed; cases ed
    | some xs =>
      rw [k1] at ed
      cases ed
      obtain ⟨q, us, rfl, r, ⟨_, hq⟩ | ⟨_, hq⟩⟩ := v1.sqs (fun a m => (p2.rr.hr.sep a m).1) hb k1
      · exact ⟨q, us, rfl, .inl ⟨hq _ _ (XX.of (Ext.refl _ _)), p2.done (ir_enm hq r)⟩⟩
      · exact ⟨q, us, rfl, .inr ⟨hq _ _ (XX.of (Ext.refl _ _)), p2.done (ir_enmT hq r)⟩⟩
end
end Tv
end

section
set_option autoImplicit false
set_option maxHeartbeats 1000000
/-! Comprehensions. -/
namespace Tv
open PySem PySem.Spec PyProof.Rows L2
section
variable {K : PySem.W.Frag} {w w' : Wd} {H : Hp}
mutual
theorem VR.weak (hh : w'.hp = w.hp) (hf : ∀ a, w'.forb a → w.forb a) : ∀ {d : D} {v : V}, VR K w H d v → VR K w' H d v
  | _, _, .non => .non
  | _, _, .bl b => .bl b
  | _, _, .int i => .int i
  | _, _, .str s => .str s
  | _, _, .tup q r => .tup q (VRs.weak hh hf r)
  | _, _, .lst n q r => .lst (fun z => n (hf _ z)) q (VRs.weak hh hf r)
  | _, _, .dct n nd q => .dct (fun z => n (hf _ z)) nd q
  | _, _, .ref q => .ref (by rw [hh]; exact q)
theorem VRs.weak (hh : w'.hp = w.hp) (hf : ∀ a, w'.forb a → w.forb a) : ∀ {ds : List D} {vs : List V}, VRs K w H ds vs → VRs K w' H ds vs
  | _, _, .nil => .nil
  | _, _, .cons a b => .cons (VR.weak hh hf a) (VRs.weak hh hf b)
end
/-- what may change: lists, dicts -/
def muB : HO → Bool
  | .lst _ => true | .dK _ => true | .dT _ => true
  | _ => false
class Mu (o : HO) : Prop where
  h : muB o = true
instance {xs : List V} : Mu (.lst xs) := ⟨rfl⟩
instance {xs : List (Key × V)} : Mu (.dK xs) := ⟨rfl⟩
instance {xs : List (List Key × V)} : Mu (.dT xs) := ⟨rfl⟩
theorem Mu.no {H : Hp} {D : Addr} {o u : HO} [hm : Mu o] (hD : H D = some o) (q : H D = some u) (n : muB u = false) : False := by
  have e : o = u := Option.some.inj (hD.symm.trans q)
  have := hm.h
  rw [e, n] at this
  cases this
theorem SqT.updD {D : Addr} {o0 o1 : HO} [Mu o0] (hD : H D = some o0) {a : Addr} {xs : List V} (h : SqT K H a xs) : SqT K (upd H D o1) a xs := by
  rcases h with (h | ⟨o, h⟩) | h
  · exact .inl (.inl (by rw [upd_ne (fun e => by rw [e] at h; exact Mu.no hD h rfl)]; exact h))
  · exact .inl (.inr ⟨o, by rw [upd_ne (fun e => by rw [e] at h; exact Mu.no hD h rfl)]; exact h⟩)
  · exact .inr h
mutual
theorem VR.updD {D : Addr} {o0 o1 : HO} [Mu o0] (hp : w.forb D) (hD : H D = some o0) : ∀ {d : Tv.D} {v : V}, VR K w H d v → VR K w (upd H D o1) d v
  | _, _, .non => .non
  | _, _, .bl b => .bl b
  | _, _, .int i => .int i
  | _, _, .str s => .str s
  | _, _, .tup q r => .tup (by rw [upd_ne (fun e => by rw [e] at q; exact Mu.no hD q rfl)]; exact q) (VRs.updD hp hD r)
  | _, _, .lst (a := a) n q r => .lst n (by have ha : a ≠ D := (fun e => n (by rw [e]; exact hp)); rw [upd_ne ha]; exact q) (VRs.updD hp hD r)
  | _, _, .dct (a := a) n nd q => .dct n nd (by have ha : a ≠ D := (fun e => n (by rw [e]; exact hp)); rw [upd_ne ha]; exact q)
  | _, _, .ref q => .ref q
theorem VRs.updD {D : Addr} {o0 o1 : HO} [Mu o0] (hp : w.forb D) (hD : H D = some o0) : ∀ {ds : List Tv.D} {vs : List V}, VRs K w H ds vs → VRs K w (upd H D o1) ds vs
  | _, _, .nil => .nil
  | _, _, .cons a b => .cons (VR.updD hp hD a) (VRs.updD hp hD b)
end
theorem tabs_updD {T : List (Addr × Str)} {D : Addr} {o0 o1 : HO} [Mu o0] (hD : H D = some o0) (t : LamX.Tabs T H) : LamX.Tabs T (upd H D o1) := by
  intro p hp
  obtain ⟨ps, h1, h2, h3⟩ := t p hp
  refine ⟨ps, ?_, h2, fun pos cv hc => ?_⟩
  · rw [upd_ne (fun e => by rw [e] at h1; exact Mu.no hD h1 rfl)]; exact h1
  · obtain ⟨c, e1, e2⟩ := h3 pos cv hc
    exact ⟨c, e1, by rw [upd_ne (fun e => by rw [e] at e2; exact Mu.no hD e2 rfl)]; exact e2⟩
/-- a list of nobody's changes -/
theorem HR.updD {D : Addr} {o0 o1 : HO} [Mu o0] {h : Hs} (r : HR K w h H) (hp : w.forb D) (hn : D ∉ w.hp) (hD : H D = some o0) : HR K w h (upd H D o1) where
  len := r.len
  nd := r.nd
  ob := fun i a o h1 h2 => by
    have q := r.ob i a o h1 h2
    cases o with
    | lst ds =>
      obtain ⟨xs, q1, q2, q3⟩ := q
      exact ⟨xs, by rw [upd_ne (fun e => hn (by rw [← e]; exact List.mem_iff_getElem?.mpr ⟨i, h1⟩))]; exact q1, q2.updD hp hD, q3⟩
    | ins c fs => exact q
  sep := r.sep
  prd := fun a q z => by
    by_cases ha : a = D
    · rw [ha, upd_same] at z; cases z
    · rw [upd_ne ha] at z; exact r.prd a q z
/-- w, with D out of reach -/
def Wd.gd (w : Wd) (D : Addr) : Wd := { w with pr := fun a => w.pr a ∨ a = D }
theorem Ext.guard {D : Addr} {o : HO} (hD : H D = none) : Ext w H (w.gd D) (upd H D o) where
  pre := ⟨[], by simp [Wd.gd], fun _ h => by cases h⟩
  ow := rfl
  pr := fun a h => .inl h
  prf := fun a h => by
    rcases h with h | h
    · exact .inl h
    · exact .inr (by rw [h]; exact hD)
  keep := fun a u q _ _ => by rw [upd_ne (ne_of_none q hD)]; exact q
  tups := fun a xs q => (Ext.new0 (w := w) hD).tups a xs q
  dom := fun a q => (Ext.new0 (w := w) (o := o) hD).dom a q
theorem HR.guard {D : Addr} {o : HO} {h : Hs} (r : HR K w h H) (hD : H D = none) : HR K (w.gd D) h (upd H D o) where
  len := r.len
  nd := r.nd
  ob := fun i a ob h1 h2 => by
    have q := r.ob i a ob h1 h2
    cases ob with
    | lst ds =>
      obtain ⟨xs, q1, q2, q3⟩ := q
      exact ⟨xs, by rw [upd_ne (ne_of_none q1 hD)]; exact q1, q2.ext (Ext.guard hD), q3⟩
    | ins c fs => exact q
  sep := fun a ha => ⟨(r.sep a ha).1, fun z => by
    rcases z with z | z
    · exact (r.sep a ha).2 z
    · obtain ⟨xs, q⟩ := r.there ha
      rw [z, hD] at q; cases q⟩
  prd := fun a q z => by
    by_cases ha : a = D
    · rw [ha, upd_same] at z; cases z
    · rw [upd_ne ha] at z
      rcases q with q | q
      · exact r.prd a q z
      · exact ha q
theorem Ext.updD {w1 : Wd} {H1 : Hp} {D : Addr} {o : HO} (x : Ext w H w1 H1) (hD : H D = none) : Ext w H w1 (upd H1 D o) where
  pre := x.pre
  ow := x.ow
  pr := x.pr
  prf := x.prf
  keep := fun a u q h1 h2 => by rw [upd_ne (ne_of_none q hD)]; exact x.keep a u q h1 h2
  tups := fun a xs q => by
    rw [upd_ne (ne_of_none q hD)]
    exact x.tups a xs q
  dom := fun a q => by
    by_cases ha : a = D
    · rw [ha]; exact hD
    · rw [upd_ne ha] at q; exact x.dom a q
/-- w, with D in reach again -/
def Wd.ug (w : Wd) (D : Addr) : Wd := { w with pr := fun a => w.pr a ∧ a ≠ D }
theorem Ext.ug {w1 : Wd} {H1 : Hp} {D : Addr} (x : Ext w H w1 H1) (hp : ∀ a, w.pr a → H a ≠ none) (hD : H D = none) : Ext w H (w1.ug D) H1 where
  pre := x.pre
  ow := x.ow
  pr := fun a h => ⟨x.pr a h, fun e => hp a h (by rw [e]; exact hD)⟩
  prf := fun a h => x.prf a h.1
  keep := x.keep
  tups := x.tups
  dom := x.dom
theorem Wd.ug_forb {D a : Addr} (h : (w.ug D).forb a) : w.forb a := by
  rcases h with h | h | h
  · exact .inl h
  · exact .inr (.inl h)
  · exact .inr (.inr h.1)
theorem VRs.ugw {D : Addr} {ds : List Tv.D} {vs : List V} (h : VRs K w H ds vs) : VRs K (w.ug D) H ds vs := by
  have e : (w.ug D).hp = w.hp := rfl
  exact VRs.weak e (fun a => Wd.ug_forb) h
theorem HR.ug {D : Addr} {h : Hs} (r : HR K w h H) : HR K (w.ug D) h H where
  len := r.len
  nd := r.nd
  ob := fun i a ob h1 h2 => by
    have q := r.ob i a ob h1 h2
    cases ob with
    | lst ds =>
      obtain ⟨xs, q1, q2, q3⟩ := q
      exact ⟨xs, q1, VRs.ugw q2, q3⟩
    | ins c fs => exact q
  sep := fun a ha => ⟨(r.sep a ha).1, fun z => (r.sep a ha).2 z.1⟩
  prd := fun a q => r.prd a q.1
theorem HR.nw {h : Hs} {H' : Hp} (r : HR K w h H) (n : Nw H H') : HR K w h H' := by
  rcases n with rfl | ⟨T, xs, hT, rfl⟩
  · exact r
  · exact r.new hT
theorem Nw.tabs {T : List (Addr × Str)} {H' : Hp} (n : Nw H H') (t : LamX.Tabs T H) : LamX.Tabs T H' := by
  rcases n with rfl | ⟨q, xs, hT, rfl⟩
  · exact t
  · exact t.ext fun b u z => by rw [upd_ne (ne_of_none z hT)]; exact z
end
/-! ### the comprehension -/
def turnC (t : T) (vs : List Nat) (fc fe : Ev → Hs → R D) (e : Ev) : D → Hs → R (Option D) := fun x h => match putT t x (e.wipe vs) with
  | none => .bad
  | some e' => (fc e' h).bind fun c h => match c.tru with
    | some true => (fe e' h).bind fun y h => if y.keep then .ok (some y) h else .bad
    | some false => .ok none h
    | none => .bad
def fComp (fi : Ev → Hs → R (List D)) (t : T) (vs : List Nat) (fc fe : Ev → Hs → R D) : Ev → Hs → R D := fun e h => (fi e h).bind fun xs h => if xs.length ≤ LIM then (compL (turnC t vs fc fe e) xs h).calm.bind fun ys h => .ok (.lst ys) h else .bad
theorem compL_cons {f : D → Hs → R (Option D)} {x : D} {xs zs : List D} {h h' : Hs} (q : compL f (x :: xs) h = .ok zs h') : ∃ o h1 ys, f x h = .ok o h1 ∧ compL f xs h1 = .ok ys h' ∧ zs = (match o with | some y => y :: ys | none => ys) := by
  unfold compL at q
  cases e1 : f x h with
  | bad => rw [e1] at q; cases q
  | exc x h1 => rw [e1] at q; cases q
  | ok o h1 =>
    rw [e1, R.bind_ok] at q
    cases e2 : compL f xs h1 with
    | bad => rw [e2] at q; cases q
    | exc x h1 => rw [e2] at q; cases q
    | ok ys h2 =>
      rw [e2, R.bind_ok] at q
      cases q
      exact ⟨o, h1, ys, rfl, e2, rfl⟩
theorem turnC_ok {t : T} {vs : List Nat} {fc fe : Ev → Hs → R D} {e : Ev} {x : D} {h h' : Hs} {o : Option D} (q : turnC t vs fc fe e x h = .ok o h') :
    ∃ e' c h1, putT t x (e.wipe vs) = some e' ∧ fc e' h = .ok c h1 ∧ ((c.tru = some true ∧ ∃ y, fe e' h1 = .ok y h' ∧ y.keep = true ∧ o = some y) ∨ (c.tru = some false ∧ h' = h1 ∧ o = none)) := by
  unfold turnC at q
  cases e1 : putT t x (e.wipe vs) with
  | none => rw [e1] at q; cases q
  | some e' =>
    rw [e1] at q
    dsimp only at q
    cases e2 : fc e' h with
    | bad => rw [e2] at q; cases q
    | exc x h1 => rw [e2] at q; cases q
    | ok c h1 =>
      rw [e2, R.bind_ok] at q
      refine ⟨e', c, h1, rfl, e2, ?_⟩
      split at q
      · rename_i hb
        cases e3 : fe e' h1 with
        | bad => rw [e3] at q; cases q
        | exc x h1 => rw [e3] at q; cases q
        | ok y h2 =>
          rw [e3, R.bind_ok] at q
          split at q
          · rename_i hk
            cases q
            exact .inl ⟨hb, y, rfl, hk, rfl⟩
          · cases q
      · rename_i hb
        cases q
        exact .inr ⟨hb, rfl, rfl⟩
      · cases q
/-- a list made from H on, as yet out of everyone's reach -/
def relF (K : PySem.W.Frag) (H0 : Hp) (w : Wd) (H : Hp) (d : D) (v : V) : Prop := ∃ a xs ds, d = .lst ds ∧ v = .ref a ∧ H0 a = none ∧ w.pr a ∧ H a = some (.lst xs) ∧ VRs K w H ds xs
def rdF (K : PySem.W.Frag) (px : Px) (W : WX) (f : Ev → Hs → R D) : TE := fun σ H Q => ∃ w e h, Pre K px W σ (relF K H) w e h H Q (f e h)
theorem Pre.rel {α β : Type} {K : PySem.W.Frag} {px : Px} {W : WX} {σ : L2.St} {rel rel' : Wd → Hp → α → β → Prop} {w : Wd} {e : Ev} {h : Hs} {H : Hp} {Q : β → Hp → Prop} {r : R α} (p : Pre K px W σ rel w e h H Q r) (i : ∀ w H a b, rel' w H a b → rel w H a b) : Pre K px W σ rel' w e h H Q r := ⟨p.rr, by
  have q := p.po
  cases r with
  | ok a h' => exact fun b w' H' x1 x2 x3 x4 => q b w' H' x1 x2 x3 (i _ _ _ _ x4)
  | exc x h' => exact q
  | bad => exact q⟩
abbrev SEF (X : Cx) (px : Px) (W : WX) (e : Expr) (f : Ev → Hs → R D) : Prop := PE X e (rdF X.K px W f)
abbrev Wno : WX := fun _ _ _ _ => False
def rdTs (K : PySem.W.Frag) (px : Px) (W : WX) (f : Ev → Hs → R D) : TT := rdT K px W (tst f)
abbrev STs (X : Cx) (px : Px) (W : WX) (es : List Expr) (f : Ev → Hs → R D) : Prop := PTs X es (rdTs X.K px W f)
section
variable {X : Cx} {px : Px} {W : WX} {e : Expr} {f : Ev → Hs → R D}
theorem SEF.rd {K : PySem.W.Frag} {σ : L2.St} {H : Hp} {Q : VK} (q : rdE K px W f σ H Q) : rdF K px W f σ H Q := by
  obtain ⟨w, e, hh, p⟩ := q
  refine ⟨w, e, hh, p.rr, ?_⟩
  have q := p.po
  cases e1 : f e hh with
  | bad => rw [e1] at q; exact q
  | exc x h' => rw [e1] at q; exact q
  | ok d h' =>
    rw [e1] at q
    rintro v w' H' x1 x2 x3 ⟨a, xs, ds, rfl, rfl, h0, h1, h2, h3⟩
    refine q _ (w'.ug a) H' (x1.ug p.rr.hr.prd h0) x2.ug x3 (.of (.of (.lst ?_ h2 (VRs.ugw h3))))
    rintro (z | z | z)
    · exact (x2.sep a z).2 h1
    · have z : some a ∈ w'.ow := z
      rw [x1.ow] at z
      obtain ⟨i, hi⟩ := List.mem_iff_getElem?.mp z
      exact (p.rr.er.ot i a hi).1 h0
    · exact z.2 rfl
theorem SEF.se (h : SEF X px W e f) : SE X px W e f := PE.of h fun σ H Q q => SEF.rd q
theorem PTs.of {es : List Expr} {t t' : TT} (h : PTs X es t) (i : ∀ σ H Q, t' σ H Q → t σ H Q) : PTs X es t' := ⟨fun pins s σ H Q I q => h.run pins s σ H Q I (i σ H Q q)⟩
theorem sts_nil : STs X px W [] (fun _ h => .ok (.bl true) h) := PTs.of pts_nil fun σ H Q ⟨w, e, h, p⟩ => p.po true w H (Ext.refl _ _) p.rr.hr p.rr.tb rfl
theorem sts_one (h : ST X px W e f) : STs X px W [e] f := pts_one h
end
theorem comp_rd {K : PySem.W.Frag} {px : Px} {W : WX} {vs : List Nat} {fi : Ev → Hs → R (List D)} {t : T} {fc fe : Ev → Hs → R D} (htv : ∀ i ∈ t.is, i ∈ vs) {σ : L2.St} {H : Hp} {Q : VK} (q : rdF K px W (fComp fi t vs fc fe) σ H Q) :
    tLc (rdI K px W false fi) (rdG K t) (rdTs K px Wno fc) (rdE K px Wno fe) vs σ H Q := by
  obtain ⟨w, e, h, p⟩ := q
  refine ⟨w, e, h, p.bind.imp fun J H1 ⟨xs, h1, w1, _, x1, ir, p1⟩ => fun D hD => ?_⟩
  split at p1
  · rename_i hlen
    obtain ⟨zs, hz, ezs⟩ : ∃ zs hz, compL (turnC t vs fc fe e) xs h1 = .ok zs hz := by
      have q := p1.po
      cases e1 : compL (turnC t vs fc fe e) xs h1 with
      | bad => rw [e1] at q; exact q.elim
      | exc x h2 => rw [e1] at q; exact q.elim
      | ok zs hz => exact ⟨zs, hz, rfl⟩
    rw [ezs, R.calm_ok, R.bind_ok] at p1
    obtain ⟨G, Y, hw, hG, hY⟩ := ir.ex
    refine lc_it hw (fun i H2 => ∃ w2 h2 acc ys zs', Ext w1 H1 w2 H2 ∧ HR K w2 h2 H2 ∧ LamX.Tabs px.T H2 ∧ w2.pr D ∧ H2 D = some (.lst acc) ∧ VRs K w2 H2 ys acc ∧ acc.length ≤ i ∧ compL (turnC t vs fc fe e) (xs.drop i) h2 = .ok zs' hz ∧ zs = ys ++ zs') ?_ ?_ ?_ ?_
    · exact ⟨w1.gd D, h1, [], [], zs, Ext.guard hD, p1.rr.hr.guard hD, (p1.rr.new hD).tb, .inr rfl, upd_same, .nil, Nat.le_refl _, ezs, rfl⟩
    · rintro i H2 _ ⟨w2, h2, acc, ys, zs', a1, _⟩
      exact hG w2 H2 a1
    · rintro i x H2 H3 hin ⟨w2, h2, acc, ys, zs', a1, a2, a3, a4, a5, a6, a7, a8, a9⟩ hy
      obtain ⟨d, hd, nw, hv⟩ := hY i w2 H2 x H3 hin a1 hy
      have edrop : xs.drop i = d :: xs.drop (i + 1) := by
        rw [List.drop_eq_getElem_cons hin]
        congr 1
        rw [List.getElem?_eq_getElem hin] at hd
        exact Option.some.inj hd
      rw [edrop] at a8
      obtain ⟨o, h3, zs2, b1, b2, b3⟩ := compL_cons a8
      obtain ⟨e', c, h4, c1, c2, c3⟩ := turnC_ok b1
      have x3 : Ext w1 H1 w2 H3 := a1.trans nw.ext
      have r3 : HR K w2 h2 H3 := a2.nw nw
      have t3 : LamX.Tabs px.T H3 := nw.tabs a3
      have nD : D ∉ w2.hp := fun z => (a2.sep D z).2 a4
      have d3 : H3 D = some (.lst acc) := (nw.ext (w := w2)).keep D _ a5 nD fun ps z => by cases z
      have v3 : VRs K w2 H3 ys acc := a6.ext nw.ext
      have er3 : ER K w2 (e.wipe vs) (L2.wipe σ vs) H3 := (p1.rr.er.ext x3 fun a m => (p1.rr.hr.sep a m).1).wipe _
      refine ⟨w2, e.wipe vs, d, e', hv, er3, c1, fun σ' l hl hm he' => ⟨?_, ?_⟩⟩
      · rw [hl, sets_wipe l _ fun p hp => htv _ (hm p hp), wipe_wipe _ _ fun u hu => hu]
      have done : ∀ {w5 : Wd} {H5 : Hp} {h5 : Hs}, Ext w2 H3 w5 H5 → HR K w5 h5 H5 → LamX.Tabs px.T H5 → Ext w1 H1 w5 H5 ∧ w5.pr D ∧ D ∉ w5.hp ∧ H5 D = some (.lst acc) ∧ VRs K w5 H5 ys acc := fun {w5 H5 h5} y1 y2 y3 => by
        have k1 := y1.pr D a4
        exact ⟨x3.trans y1, k1, fun z => (y2.sep D z).2 k1, y1.keep D _ d3 nD (fun ps z => by cases z), v3.ext y1⟩
      refine ⟨w2, e', h2, ⟨⟨r3, he', t3⟩, ?_⟩⟩
      unfold tst
      rw [c2, R.bind_ok]
      rcases c3 with ⟨c4, y, c5, c6, c7⟩ | ⟨c4, c5, c6⟩
      · rw [c4]
        intro b w5 H5 y1 y2 y3 y4
        cases y4
        rw [if_pos rfl]
        refine ⟨w5, e', h4, ⟨⟨y2, he'.ext y1 fun a m => (r3.sep a m).1, y3⟩, ?_⟩⟩
        rw [c5]
        intro v w6 H6 y5 y6 y7 y8
        obtain ⟨k1, k2, k3, k4, k5⟩ := done (y1.trans y5) y6 y7
        refine ⟨acc, k4, ?_, w6, h3, acc ++ [v], ys ++ [y], zs2, k1.updD hD, y6.updD (.inr (.inr k2)) k3 k4, tabs_updD k4 y7, k2, upd_same, (k5.snoc (VT.keep y8 c6)).updD (.inr (.inr k2)) k4, ?_, b2, ?_⟩
        · rw [← LIM_eq]; exact Nat.lt_of_le_of_lt a7 (Nat.lt_of_lt_of_le hin hlen)
        · rw [List.length_append]; exact Nat.add_le_add_right a7 1
        · rw [a9, b3, c7, List.append_assoc]; rfl
      · rw [c4]
        intro b w5 H5 y1 y2 y3 y4
        cases y4
        rw [if_neg (by simp)]
        obtain ⟨k1, k2, k3, k4, k5⟩ := done y1 y2 y3
        refine ⟨w5, h4, acc, ys, zs2, k1, y2, y3, k2, k4, k5, Nat.le_succ_of_le a7, ?_, ?_⟩
        · rw [← c5]; exact b2
        · rw [a9, b3, c6]
    · rintro H2 ⟨w2, h2, acc, ys, zs', a1, a2, a3, a4, a5, a6, a7, a8, a9⟩
      rw [List.drop_length] at a8
      cases a8
      rw [List.append_nil] at a9
      subst a9
      exact p1.po (.ref D) w2 H2 a1 a2 a3 ⟨D, acc, zs, rfl, rfl, x1.dom D hD, a4, a5, a6⟩
  · exact p1.po.elim
theorem se_compF {X : Cx} {px : Px} {W : WX} {elt tg iter : Expr} {ifs : List Expr} {scope : Scope} {own : List (Str × Nat)} {pos : Pos} {fi : Ev → Hs → R (List D)} {t : T} {fc fe : Ev → Hs → R D} (hc : X.calm = true) (hN : X.N.Nodup) (hi : SI X px W false tg iter fi) (ok : BlkOk X.N X.env.scope scope own)
    (htv : ∀ i ∈ t.is, i ∈ own.map (·.2))
    (hg : ∀ (s : Shared) (H : Hp) (C : Addr) (cl : List (Str × Addr)) (fp : List Addr), SG (X.blk s H scope (compEnvC scope cl C X.env) fp) tg t) (ht : ∀ (s : Shared) (H : Hp) (C : Addr) (cl : List (Str × Addr)) (fp : List Addr), STs (X.blk s H scope (compEnvC scope cl C X.env) fp) px Wno ifs fc)
    (he : ∀ (s : Shared) (H : Hp) (C : Addr) (cl : List (Str × Addr)) (fp : List Addr), SE (X.blk s H scope (compEnvC scope cl C X.env) fp) px Wno elt fe) (hs : ∀ x, foldedSetIterable iter X.env x = pure x) :
    SEF X px W (.ListComp elt [⟨tg, iter, ifs, 0⟩] scope pos) (fComp fi t (own.map (·.2)) fc fe) :=
  PE.of (pe_lc (g := rdG X.K t) (tt := rdTs X.K px Wno fc) (te := rdE X.K px Wno fe) hc hN hi ok hg ht he hs) fun σ H Q q => comp_rd htv q
theorem se_lstF {X : Cx} {px : Px} {W : WX} {es : List Expr} {fr : Ev → Hs → R (List D)} {pos : Pos} (ha : SA X px W es fr) (hl : es.length ≤ 1000) (hn : ∀ e h ds h', fr e h = .ok ds h' → ds.length = es.length) : SEF X px W (.List es pos) (fun e h => (fr e h).bind fun ds h => if ds.all D.keep then .ok (.lst ds) h else .bad) := by
  refine PE.of (pe_lst ha) fun σ H Q ⟨w, e, h, p⟩ => ?_
  refine ⟨w, e, h, p.bind.imp fun x H1 ⟨d1, h1, w1, e1, x1, v1, p1⟩ => ?_⟩
  split at p1
  · rename_i hk
    have v2 := VTs.keep v1 hk
    refine ⟨by rw [← v2.length, hn _ _ _ _ e1, sizeLine_eq]; omega, fun q hq => ?_⟩
    exact p1.po (.ref q) (w1.gd q) _ (Ext.guard hq) (p1.rr.hr.guard hq) (p1.rr.new hq).tb ⟨q, x, d1, rfl, rfl, x1.dom q hq, .inr rfl, upd_same, v2.ext (Ext.guard hq)⟩
  · exact p1.po.elim
end Tv
end

section
set_option autoImplicit false
set_option maxHeartbeats 1000000
/-! Statements. -/
namespace Tv
open PySem PySem.Spec PyProof.Rows L2
def PoS (K : PySem.W.Frag) (px : Px) (W : WX) (D : Ends) (w : Wd) (H : Hp) : R Fl → Prop
  | .ok (.nx e') h' => ∀ w' σ' H', ExtS w H w' H' → RR K px w' e' h' σ' H' → D.nx σ' H'
  | .ok (.rt d) h' => ∀ w' v H', ExtS w H w' H' → HR K w' h' H' → LamX.Tabs px.T H' → VR K w' H' d v → D.rt v H'
  | .exc x h' => ∀ cls dd w' σ' H', ExtS w H w' H' → HR K w' h' H' → LamX.Tabs px.T H' → XR px H' x cls dd → W cls dd σ' H'
  | .bad => False
structure PrS (K : PySem.W.Frag) (px : Px) (W : WX) (D : Ends) (w : Wd) (e : Ev) (h : Hs) (σ : L2.St) (H : Hp) (r : R Fl) : Prop where
  rr : RR K px w e h σ H
  po : PoS K px W D w H r
def rdS (K : PySem.W.Frag) (px : Px) (W : WX) (f : Ev → Hs → R Fl) : TS := fun D σ H => ∃ w e h, PrS K px W D w e h σ H (f e h)
abbrev SS (X : Cx) (px : Px) (W : WX) (s : Stmt) (f : Ev → Hs → R Fl) : Prop := PS X s (rdS X.K px W f)
abbrev SB (X : Cx) (px : Px) (W : WX) (s : List Stmt) (f : Ev → Hs → R Fl) : Prop := PSs X s (rdS X.K px W f)
theorem PS.of {X : Cx} {s : Stmt} {t t' : TS} (h : PS X s t) (i : ∀ D σ H, t' D σ H → t D σ H) : PS X s t' := ⟨fun pins s σ H D I q => h.run pins s σ H D I (i D σ H q)⟩
theorem PSs.of {X : Cx} {s : List Stmt} {t t' : TS} (h : PSs X s t) (i : ∀ D σ H, t' D σ H → t D σ H) : PSs X s t' := ⟨fun pins s σ H D I q => h.run pins s σ H D I (i D σ H q)⟩
section
variable {K : PySem.W.Frag} {px : Px} {W : WX} {D : Ends} {w w1 : Wd} {e : Ev} {h : Hs} {σ : L2.St} {H H1 : Hp} {r : R Fl}
theorem PoS.later (q : PoS K px W D w H r) (x : ExtS w H w1 H1) : PoS K px W D w1 H1 r := by
  cases r with
  | bad => exact q
  | exc y h' => exact fun cls dd w' σ' H' a => q cls dd w' σ' H' (x.trans a)
  | ok f h' =>
    cases f with
    | nx e' => exact fun w' σ' H' a => q w' σ' H' (x.trans a)
    | rt d => exact fun w' v H' a => q w' v H' (x.trans a)
/-- an expression first -/
theorem PrS.bind {α β : Type} {rel : Wd → Hp → α → β → Prop} {a : R α} {k : α → Hs → R Fl} (p : PrS K px W D w e h σ H (a.bind k)) :
    Pre K px W σ rel w e h H (fun v H1 => ∃ d h1 w1, a = .ok d h1 ∧ Ext w H w1 H1 ∧ rel w1 H1 d v ∧ PrS K px W D w1 e h1 σ H1 (k d h1)) a := by
  refine ⟨p.rr, ?_⟩
  have q := p.po
  cases a with
  | bad => exact q
  | exc y h' => exact fun cls dd w' H' x1 x2 x3 x4 => q cls dd w' σ H' x1.s x2 x3 x4
  | ok d h' =>
    intro v w1 H1 x1 x2 x3 x4
    exact ⟨d, h', w1, rfl, x1, x4, p.rr.ext x1 x2 x3, PoS.later q x1.s⟩
theorem PrS.done {e' : Ev} {h' : Hs} (p : PrS K px W D w e h σ H (.ok (.nx e') h')) {w' : Wd} {σ' : L2.St} {H' : Hp} (x : ExtS w H w' H') (r : RR K px w' e' h' σ' H') : D.nx σ' H' := p.po w' σ' H' x r
theorem PoS.mono {D' : Ends} (q : PoS K px W D w H r) (hn : ∀ σ H, D.nx σ H → D'.nx σ H) (hr : ∀ v H, D.rt v H → D'.rt v H) : PoS K px W D' w H r := by
  cases r with
  | bad => exact q
  | exc y h' => exact q
  | ok f h' =>
    cases f with
    | nx e' => exact fun w' σ' H' a b => hn _ _ (q w' σ' H' a b)
    | rt d => exact fun w' v H' a b c d => hr _ _ (q w' v H' a b c d)
theorem PrS.seqX {a : R Fl} {k : Ev → Hs → R Fl} (p : PrS K px W D w e h σ H (a.fl k)) : PrS K px W { D with nx := fun σ' H' => ∃ w' e' h', ExtS w H w' H' ∧ PrS K px W D w' e' h' σ' H' (k e' h') } w e h σ H a := by
  refine ⟨p.rr, ?_⟩
  have q := p.po
  cases a with
  | bad => exact q
  | exc y h' => exact q
  | ok f h' =>
    cases f with
    | nx e' => exact fun w' σ' H' x r => ⟨w', e', h', x, r, PoS.later q x⟩
    | rt d => exact q
theorem PrS.seq {a : R Fl} {k : Ev → Hs → R Fl} (p : PrS K px W D w e h σ H (a.fl k)) : PrS K px W { D with nx := fun σ' H' => ∃ w' e' h', PrS K px W D w' e' h' σ' H' (k e' h') } w e h σ H a :=
  ⟨p.rr, p.seqX.po.mono (fun _ _ ⟨w', e', h', _, q⟩ => ⟨w', e', h', q⟩) (fun _ _ q => q)⟩
end
section
variable {X : Cx} {px : Px} {W : WX} {st : Stmt} {sts : List Stmt} {f g : Ev → Hs → R Fl} {a b c : Expr} {fa fb fc : Ev → Hs → R D} {pos pos' : Pos}
theorem sb_nil : SB X px W [] (fun e h => .ok (.nx e) h) := PSs.of pss_nil fun D σ H ⟨w, e, h, p⟩ => p.done (ExtS.refl _ _) p.rr
theorem sb_cons (h1 : SS X px W st f) (h2 : SB X px W sts g) : SB X px W (st :: sts) (fun e h => (f e h).fl g) :=
  PSs.of (pss_cons h1 h2) fun D σ H ⟨w, e, h, p⟩ => ⟨w, e, h, p.seq⟩
theorem ss_if {ga gb : Ev → Hs → R Fl} {sa sb : List Stmt} (hc : ST X px W c fc) (ha : SB X px W sa ga) (hb : SB X px W sb gb) : SS X px W (.If c sa sb pos) (fun e h => (fc e h).bind fun x h => match x.tru with
    | some true => ga e h
    | some false => gb e h
    | none => .bad) := by
  refine PS.of (ps_if hc ha hb) fun D σ H ⟨w, e, h, p⟩ => ⟨w, e, h, p.rr, ?_⟩
  have q : PoS X.K px W D w H ((fc e h).bind fun x h => match x.tru with
    | some true => ga e h
    | some false => gb e h
    | none => .bad) := p.po
  unfold tst
  cases e1 : fc e h with
  | bad => rw [e1] at q; exact q.elim
  | exc y h' => rw [e1] at q; exact fun cls dd w' H' x1 x2 x3 x4 => q cls dd w' σ H' x1.s x2 x3 x4
  | ok d h' =>
    rw [e1, R.bind_ok] at q
    rw [R.bind_ok]
    cases e2 : d.tru with
    | none => rw [e2] at q; exact q.elim
    | some k =>
      rw [e2] at q
      intro b w1 H1 x1 x2 x3 x4
      cases x4
      cases k with
      | true => rw [if_pos rfl]; exact ⟨w1, e, h', p.rr.ext x1 x2 x3, PoS.later q x1.s⟩
      | false => rw [if_neg (by simp)]; exact ⟨w1, e, h', p.rr.ext x1 x2 x3, PoS.later q x1.s⟩
theorem ss_ex (ha : SE X px W a fa) (hs : swapsWith a none pos.line X.env = pure false) : SS X px W (.Expr a pos) (fun e h => (fa e h).bind fun _ h => .ok (.nx e) h) :=
  PS.of (ps_expr ha hs) fun D σ H ⟨w, e, h, p⟩ => ⟨w, e, h, p.bind.imp fun x H1 ⟨d, h1, w1, _, x1, v1, p1⟩ => p1.done (ExtS.refl _ _) p1.rr⟩
theorem ss_set {i : Nat} {x : Str} (hN : X.N.Nodup) (hn : NmOk X x i) (ha : SE X px W a fa) (hs : swapsWith a (some (.Name x pos')) pos.line X.env = pure false) : SS X px W (.Assign [.Name x pos'] a pos) (fun e h => (fa e h).bind fun x h => if x.keep then .ok (.nx (e.put i (.v x))) h else .bad) := by
  refine PS.of (ps_set hN hn.1 hn.2.1 ha hs hn.2.2) fun D σ H ⟨w, e, h, p⟩ => ⟨w, e, h, p.bind.imp fun x H1 ⟨d, h1, w1, _, x1, v1, p1⟩ => ?_⟩
  split at p1
  · rename_i hk
    exact p1.done (ExtS.refl _ _) ⟨p1.rr.hr, p1.rr.er.put i (.of (VT.keep v1 hk)), p1.rr.tb⟩
  · exact p1.po.elim
theorem ss_asg {t : T} {tg : Expr} (ha : SE X px W a fa) (hg : SG X tg t) (hs : swapsWithSole [tg] a pos.line X.env = pure false) (hw : swappedStores [tg] a X.env = pure none) (h1 : (assignEach [tg] X.env).map (·.2) = [assign tg X.env]) :
    SS X px W (.Assign [tg] a pos) (fun e h => (fa e h).bind fun x h => if x.keep then match putT t x e with
      | some e' => .ok (.nx e') h
      | none => .bad else .bad) := by
  refine PS.of (ps_asg ha hg hs hw h1) fun D σ H ⟨w, e, h, p⟩ => ⟨w, e, h, p.bind.imp fun x H1 ⟨d, h1, w1, _, x1, v1, p1⟩ => ?_⟩
  split at p1
  · rename_i hk
    cases e1 : putT t d e with
    | none => rw [e1] at p1; exact p1.po.elim
    | some e' =>
      rw [e1] at p1
      exact ⟨w1, e, d, e', VT.keep v1 hk, p1.rr.er, e1, fun σ' l hl hm he => p1.done (ExtS.refl _ _) ⟨p1.rr.hr, he, p1.rr.tb⟩⟩
  · exact p1.po.elim
/-! ### loops -/
theorem ss_while {gb : Ev → Hs → R Fl} {body : List Stmt} (n : Nat) (hp : PassesOwn (model X.prog X.w) X.A X.env X.xe) (hc : ST X px W c fc) (hb : SB X px W body gb) : SS X px W (.While c body [] pos) (whlL (fun e h => (fc e h).bind fun x h => R.of x.tru h) gb n) := by
  refine PS.of (ps_while hp hc hb) fun D σ H ⟨w, e, h, p⟩ => ?_
  refine ⟨fun m σ H => ∃ w e h, PrS X.K px W D w e h σ H (whlL (fun e h => (fc e h).bind fun x h => R.of x.tru h) gb m e h), ⟨n, w, e, h, p⟩, ?_⟩
  rintro m σ1 H1 ⟨w1, e1, h1, p1⟩
  cases m with
  | zero => exact p1.po.elim
  | succ m =>
    refine ⟨w1, e1, h1, p1.bind.imp fun b H2 ⟨d, h2, w2, _, x1, v1, p2⟩ => ?_⟩
    cases v1
    cases b with
    | true =>
      rw [if_pos rfl] at p2 ⊢
      exact ⟨fun σ H => ∃ w e h, PrS X.K px W D w e h σ H (whlL (fun e h => (fc e h).bind fun x h => R.of x.tru h) gb m e h), fun σ' H' q => ⟨m, Nat.lt_succ_self m, q⟩, w2, e1, h2, ⟨p2.rr, p2.seq.po.mono (fun _ _ q => q) (fun _ _ q => q)⟩⟩
    | false =>
      rw [if_neg (by simp)] at p2 ⊢
      exact p2.done (ExtS.refl _ _) p2.rr
theorem ss_for {gb : Ev → Hs → R Fl} {body : List Stmt} {tg it : Expr} {t : T} {fi : Ev → Hs → R (List D)} (hp : PassesOwn (model X.prog X.w) X.A X.env X.xe) (hc : X.calm = true) (hi : SI X px W true tg it fi) (hg : SG X tg t) (hb : SB X px W body gb) (hs : ∀ x, foldedSetIterable it X.env x = pure x) :
    SS X px W (.For tg it body [] pos) (fun e h => (fi e h).bind fun xs h => forL (fun x e h => match putT t x e with
      | none => .bad
      | some e' => gb e' h) xs e h) := by
  refine PS.of (ps_for hp hc hi hg hb hs) fun D σ H ⟨w, e, h, p⟩ => ⟨w, e, h, p.bind.imp fun J H1 ⟨xs, h1, w1, _, x1, ir, p1⟩ => ?_⟩
  obtain ⟨G, Y, hw, hG, hY⟩ := ir.ex
  refine for_it hw (fun i σ2 H2 => ∃ w2 e2 h2, ExtS w1 H1 w2 H2 ∧ PrS X.K px W D w2 e2 h2 σ2 H2 (forL (fun x e h => match putT t x e with
      | none => .bad
      | some e' => gb e' h) (xs.drop i) e2 h2)) ⟨w1, e, h1, ExtS.refl _ _, p1⟩ ?_ ?_ ?_
  · rintro i σ2 H2 hi ⟨w2, e2, h2, x2, p2⟩
    exact hG w2 H2 x2
  · rintro i x σ2 H2 H3 hin ⟨w2, e2, h2, x2, p2⟩ hy
    obtain ⟨d, hd, nw, hv⟩ := hY i w2 H2 x H3 hin x2 hy
    have edrop : xs.drop i = d :: xs.drop (i + 1) := by
      rw [List.drop_eq_getElem_cons hin]
      congr 1
      rw [List.getElem?_eq_getElem hin] at hd
      exact Option.some.inj hd
    rw [edrop] at p2
    have x3 : ExtS w1 H1 w2 H3 := x2.trans (nw.ext (w := w2)).s
    have r3 : RR X.K px w2 e2 h2 σ2 H3 := p2.rr.ext nw.ext (p2.rr.hr.nw nw) (nw.tabs p2.rr.tb)
    have p3 : PrS X.K px W D w2 e2 h2 σ2 H3 _ := ⟨r3, PoS.later p2.po (nw.ext (w := w2)).s⟩
    unfold forL at p3
    have p4 := p3.seqX
    cases e1 : putT t d e2 with
    | none => rw [e1] at p4; exact p4.po.elim
    | some e' =>
      rw [e1] at p4
      refine ⟨w2, e2, d, e', hv, r3.er, e1, fun σ' l hl hm he => ⟨w2, e', h2, ⟨r3.hr, he, r3.tb⟩, ?_⟩⟩
      exact p4.po.mono (fun σ H ⟨w', e', h', x4, q⟩ => ⟨w', e', h', x3.trans x4, q⟩) (fun _ _ q => q)
  · rintro σ2 H2 ⟨w2, e2, h2, x2, p2⟩
    rw [List.drop_length] at p2
    exact p2.done (ExtS.refl _ _) p2.rr
/-! ### return -/
def Wd.fin (w : Wd) : Wd := { w with ow := w.ow.map fun _ => none }
theorem fin_none {l : List (Option Addr)} {a : Addr} : ¬ some a ∈ l.map fun _ => (none : Option Addr) := by
  intro z
  obtain ⟨x, _, e⟩ := List.mem_map.mp z
  cases e
theorem ext_fin {w : Wd} {H : Hp} : ExtS w H w.fin H where
  pre := ⟨[], by simp [Wd.fin], fun _ h => by cases h⟩
  fo := fun a h => by
    rcases h with h | h | h
    · exact .inl (.inl h)
    · exact (fin_none h).elim
    · exact .inl (.inr (.inr h))
  keep := fun _ _ h _ _ _ => h
  tups := fun _ _ h => h
  mi := fun a h => (fin_none h).elim
  pr := fun _ h => h
  dom := fun _ h => h
theorem get_fin : ∀ (e : Ev) (i : Nat), e.fin.get i = (e.get i).fin
  | [], _ => rfl
  | x :: r, 0 => rfl
  | x :: r, n + 1 => get_fin r n
theorem HR.exts {K : PySem.W.Frag} {w w' : Wd} {h : Hs} {H : Hp} (r : HR K w h H) (x : ExtS w H w' H) (e : w'.hp = w.hp) (ow : ∀ a, some a ∈ w'.ow → a ∉ w.hp) (pr : ∀ a, w'.pr a ↔ w.pr a) : HR K w' h H where
  len := by rw [e]; exact r.len
  nd := by rw [e]; exact r.nd
  ob := fun i a o h1 h2 => by
    rw [e] at h1
    have q := r.ob i a o h1 h2
    cases o with
    | lst ds =>
      obtain ⟨xs, q1, q2, q3⟩ := q
      exact ⟨xs, q1, q2.exts x, q3⟩
    | ins c fs => exact q
  sep := fun a ha => ⟨fun z => ow a z (by rw [← e]; exact ha), fun z => (r.sep a (by rw [← e]; exact ha)).2 ((pr a).mp z)⟩
  prd := fun a q => r.prd a ((pr a).mp q)
theorem RR.fin {K : PySem.W.Frag} {w : Wd} {e : Ev} {h : Hs} {σ : L2.St} {H : Hp} (r : RR K px w e h σ H) : RR K px w.fin e.fin h σ H where
  hr := r.hr.exts ext_fin rfl (fun a z => (fin_none z).elim) fun a => Iff.rfl
  er := {
    len := by unfold Ev.fin; rw [List.length_map]; exact r.er.len
    wl := by show (w.ow.map _).length = _; rw [List.length_map]; exact r.er.wl
    sl := fun i => by
      rw [get_fin]
      have q := r.er.sl i
      cases e1 : e.get i with
      | u => trivial
      | v d =>
        rw [e1] at q
        obtain ⟨v, h1, h2⟩ := q
        exact ⟨v, h1, h2.exts ext_fin⟩
      | k kvs => trivial
      | o ds =>
        rw [e1] at q
        obtain ⟨a, xs, h1, h2, h3, h4, _⟩ := q
        have m : some a ∈ w.ow := List.mem_iff_getElem?.mpr ⟨i, h2⟩
        refine ⟨.ref a, h1, .of (.lst ?_ h3 (h4.exts ext_fin))⟩
        rintro (z | z | z)
        · exact (r.hr.sep a z).1 m
        · exact fin_none z
        · exact (r.er.ot i a h2).2 z
    inj := fun i j a h => (fin_none (List.mem_iff_getElem?.mpr ⟨i, h⟩)).elim
    ot := fun i a h => (fin_none (List.mem_iff_getElem?.mpr ⟨i, h⟩)).elim }
  tb := r.tb
theorem ss_ret (ha : SE X px W a fa) : SS X px W (.Return (some a) pos) (fun e h => (fa e.fin h).bind fun x h => if x.keep then .ok (.rt x) h else .bad) := by
  refine PS.of (ps_ret ha) fun D σ H ⟨w, e, h, p⟩ => ?_
  refine ⟨w.fin, e.fin, h, p.rr.fin, ?_⟩
  have q : PoS X.K px W D w.fin H ((fa e.fin h).bind fun x h => if x.keep then .ok (.rt x) h else .bad) := PoS.later p.po ext_fin
  cases e1 : fa e.fin h with
  | bad => rw [e1] at q; exact q
  | exc y h' => rw [e1] at q; exact fun cls dd w' H' x1 x2 x3 x4 => q cls dd w' σ H' x1.s x2 x3 x4
  | ok d h' =>
    rw [e1, R.bind_ok] at q
    intro v w1 H1 x1 x2 x3 x4
    split at q
    · rename_i hk
      exact q w1 v H1 x1.s x2 x3 (VT.keep x4 hk)
    · exact q.elim
theorem ss_retP (ha : SE X px W a fa) : SS X px W (.Return (some a) pos) (fun e h => (fa e h).bind fun x h => if x.keep then .ok (.rt x) h else .bad) := by
  refine PS.of (ps_ret ha) fun D σ H ⟨w, e, h, p⟩ => ?_
  refine ⟨w, e, h, p.rr, ?_⟩
  have q : PoS X.K px W D w H ((fa e h).bind fun x h => if x.keep then .ok (.rt x) h else .bad) := p.po
  cases e1 : fa e h with
  | bad => rw [e1] at q; exact q
  | exc y h' => rw [e1] at q; exact fun cls dd w' H' x1 x2 x3 x4 => q cls dd w' σ H' x1.s x2 x3 x4
  | ok d h' =>
    rw [e1, R.bind_ok] at q
    intro v w1 H1 x1 x2 x3 x4
    split at q
    · rename_i hk
      exact q w1 v H1 x1.s x2 x3 (VT.keep x4 hk)
    · exact q.elim
theorem ss_retN : SS X px W (.Return none pos) (fun _ h => .ok (.rt .non) h) :=
  PS.of ps_retN fun D σ H ⟨w, e, h, p⟩ => p.po w .non H (ExtS.refl _ _) p.rr.hr p.rr.tb .non
/-! ### lists of a name's own -/
/-- slot i's own list at a (or none) -/
def Wd.put (w : Wd) (i : Nat) (a : Option Addr) : Wd := { w with ow := w.ow.set i a }
theorem mem_set {α : Type} {l : List α} {i : Nat} {x y : α} (h : y ∈ l.set i x) : y ∈ l ∨ y = x := List.mem_or_eq_of_mem_set h
theorem ext_put {w : Wd} {H : Hp} {i : Nat} {a : Option Addr} (h : ∀ b, a = some b → w.forb b ∨ True) (hm : ∀ b, a = some b → some b ∈ w.ow) : ExtS w H (w.put i a) H where
  pre := ⟨[], by simp [Wd.put], fun _ h => by cases h⟩
  fo := fun b z => by
    rcases z with z | z | z
    · exact .inl (.inl z)
    · rcases mem_set z with q | q
      · exact .inl (.inr (.inl q))
      · exact .inl (.inr (.inl (hm b q.symm)))
    · exact .inl (.inr (.inr z))
  keep := fun _ _ h _ _ _ => h
  tups := fun _ _ h => h
  mi := fun b z => by
    rcases mem_set z with q | q
    · exact .inl q
    · exact .inl (hm b q.symm)
  pr := fun _ h => h
  dom := fun _ h => h
theorem ow_set {w : Wd} {i j : Nat} {a : Option Addr} {b : Addr} (h : (w.put i a).ow[j]? = some (some b)) : (j = i ∧ a = some b) ∨ (j ≠ i ∧ w.ow[j]? = some (some b)) := by
  have h : (w.ow.set i a)[j]? = some (some b) := h
  by_cases hj : i = j
  · subst hj
    by_cases hl : i < w.ow.length
    · rw [List.getElem?_set_self hl] at h
      exact .inl ⟨rfl, Option.some.inj h⟩
    · rw [List.getElem?_eq_none (by rw [List.length_set]; omega)] at h; cases h
  · rw [List.getElem?_set_ne hj] at h
    exact .inr ⟨fun e => hj e.symm, h⟩
end
end Tv
end

section
set_option autoImplicit false
set_option maxHeartbeats 1000000
/-! Lists that names own; the heap's own lists. -/
namespace Tv
open PySem PySem.Spec PyProof.Rows L2
section
variable {K : PySem.W.Frag} {px : Px} {W : WX} {w w1 : Wd} {e : Ev} {h h1 : Hs} {σ : L2.St} {H H1 : Hp}
/-- the list at a is slot i's own from now on -/
def Wd.own (w : Wd) (i : Nat) (a : Addr) : Wd := { w.ug a with ow := w.ow.set i (some a) }
theorem Wd.own_forb {i : Nat} {a b : Addr} (ha : w.pr a) (h : (w.own i a).forb b) : w.forb b := by
  rcases h with z | z | z
  · exact .inl z
  · rcases mem_set z with q | q
    · exact .inr (.inl q)
    · rw [Option.some.inj q]; exact .inr (.inr ha)
  · exact .inr (.inr z.1)
theorem ext_own {i : Nat} {a : Addr} (x : Ext w H w1 H1) (hp : ∀ b, w.pr b → H b ≠ none) (ha : H a = none) (h1 : w1.pr a) : ExtS w H (w1.own i a) H1 where
  pre := x.pre
  fo := fun b z => x.s.fo b (Wd.own_forb h1 z)
  keep := x.s.keep
  tups := x.tups
  mi := fun b z => by
    rcases mem_set z with q | q
    · exact .inl (by rw [← x.ow]; exact q)
    · rw [Option.some.inj q]; exact .inr ha
  pr := fun b z => ⟨x.pr b z, fun e => hp b z (by rw [e]; exact ha)⟩
  dom := x.dom
theorem get_set {α : Type} {l : List α} {i j : Nat} {x y : α} (h : (l.set i x)[j]? = some y) : (j = i ∧ y = x ∧ i < l.length) ∨ (j ≠ i ∧ l[j]? = some y) := by
  by_cases hj : i = j
  · subst hj
    by_cases hl : i < l.length
    · rw [List.getElem?_set_self hl] at h
      exact .inl ⟨rfl, (Option.some.inj h).symm, hl⟩
    · rw [List.getElem?_eq_none (by rw [List.length_set]; omega)] at h; cases h
  · rw [List.getElem?_set_ne hj] at h
    exact .inr ⟨fun e => hj e.symm, h⟩
/-- a slot other than the one that changes -/
theorem SlR.oth {w' : Wd} {H' : Hp} (x : ExtS w H w' H') {j : Nat} {s : Option (Option V)} (ho : ∀ a, w.ow[j]? = some (some a) → w'.ow[j]? = some (some a) ∧ ∀ o, H a = some o → (∀ ps, o ≠ .tbl ps) → H' a = some o) : ∀ {y : Sl}, SlR K w H j s y → SlR K w' H' j s y
  | .u, _ => trivial
  | .v d, ⟨v, q1, q2⟩ => ⟨v, q1, q2.exts x⟩
  | .o ds, ⟨a, xs, q1, q2, q3, q4, q5⟩ => ⟨a, xs, q1, (ho a q2).1, (ho a q2).2 _ q3 (fun ps z => by cases z), q4.exts x, q5⟩
  | .k t kvs, ⟨a, o, q1, q2, z, q4⟩ => ⟨a, o, q1, (ho a q2).1, (ho a q2).2 _ z q4.nt, q4.mapP fun y => y.exts x⟩
/-- a new list, owned -/
theorem RR.ownG (r : RR K px w e h σ H) (x : Ext w H w1 H1) (hr : HR K w1 h1 H1) (tb : LamX.Tabs px.T H1) (i : Nat) {a : Addr} {o : HO} {s : Sl} (ha : H a = none) (hf : w1.pr a) (hl : H1 a = some o) (hs : (w1.own i a).ow[i]? = some (some a) → SlR K (w1.own i a) H1 i (some (some (.ref a))) s) :
    RR K px (w1.own i a) (e.put i s) h1 (σ.set i (some (.ref a))) H1 := by
  have xs1 := ext_own (i := i) x r.hr.prd ha hf
  have sep : ∀ b, b ∈ w.hp → some b ∉ w.ow := fun b m => (r.hr.sep b m).1
  have hweak : ∀ {ds : List D} {xs : List V}, VRs K w1 H1 ds xs → VRs K (w1.own i a) H1 ds xs := fun {ds xs} q => by
    have e : (w1.own i a).hp = w1.hp := rfl
    exact VRs.weak e (fun b => Wd.own_forb hf) q
  have ot1 := (r.er.ext x sep).ot
  refine ⟨?_, ⟨?_, ?_, fun j => ?_, fun j k b q1 q2 => ?_, fun j b q => ?_⟩, tb⟩
  · refine ⟨hr.len, hr.nd, fun j b o q1 q2 => ?_, fun b hb => ⟨fun z => ?_, fun z => (hr.sep b hb).2 z.1⟩, fun b z => hr.prd b z.1⟩
    · have q := hr.ob j b o q1 q2
      cases o with
      | lst es =>
        obtain ⟨ys, z1, z2, z3⟩ := q
        exact ⟨ys, z1, hweak z2, z3⟩
      | ins c fs => exact q
    · rcases mem_set z with q | q
      · exact (hr.sep b hb).1 q
      · rw [Option.some.inj q] at hb; exact (hr.sep a hb).2 hf
  · rw [Ev.length_put, List.length_set]; exact r.er.len
  · show (w1.ow.set i _).length = _
    rw [List.length_set, List.length_set, x.ow]; exact r.er.wl
  · by_cases hj : i = j
    · subst hj
      rcases Ev.get_put e i s with q | ⟨q1, q2⟩
      · rw [q]; trivial
      · rw [q2]
        have h2 : i < σ.length := by rw [← r.er.len]; exact q1
        rw [List.getElem?_set_self h2]
        exact hs (List.getElem?_set_self (by rw [x.ow, r.er.wl]; exact h2))
    · rw [Ev.get_put_ne e _ hj, List.getElem?_set_ne hj]
      refine SlR.oth xs1 (fun b q => ⟨?_, fun o z zt => ?_⟩) (r.er.sl j)
      · show (w1.ow.set i _)[j]? = _
        rw [List.getElem?_set_ne hj, x.ow]; exact q
      · exact x.keep b o z (fun m => sep b m (List.mem_iff_getElem?.mpr ⟨j, q⟩)) zt
  · rcases get_set q1 with ⟨a1, a2, _⟩ | ⟨a1, a2⟩ <;> rcases get_set q2 with ⟨b1, b2, _⟩ | ⟨b1, b2⟩
    · rw [a1, b1]
    · rw [x.ow] at b2
      cases a2
      exact ((r.er.ot _ _ b2).1 ha).elim
    · rw [x.ow] at a2
      cases b2
      exact ((r.er.ot _ _ a2).1 ha).elim
    · rw [x.ow] at a2 b2
      exact r.er.inj j k b a2 b2
  · rcases get_set q with ⟨a1, a2, _⟩ | ⟨a1, a2⟩
    · cases a2
      exact ⟨(by rw [hl]; exact Option.some_ne_none _), fun z => z.2 rfl⟩
    · have z := ot1 j b a2
      exact ⟨z.1, fun y => z.2 y.1⟩
theorem RR.own (r : RR K px w e h σ H) (x : Ext w H w1 H1) (hr : HR K w1 h1 H1) (tb : LamX.Tabs px.T H1) (i : Nat) {a : Addr} {xs : List V} {ds : List D} (ha : H a = none) (hf : w1.pr a) (hl : H1 a = some (.lst xs)) (hv : VRs K w1 H1 ds xs) (hk : ds.all D.keep = true) :
    RR K px (w1.own i a) (e.put i (.o ds)) h1 (σ.set i (some (.ref a))) H1 := by
  refine r.ownG x hr tb i ha hf hl fun z => ?_
  have e : (w1.own i a).hp = w1.hp := rfl
  exact ⟨a, xs, rfl, z, hl, VRs.weak e (fun b => Wd.own_forb hf) hv, hk⟩
theorem RR.ownK (r : RR K px w e h σ H) (x : Ext w H w1 H1) (hr : HR K w1 h1 H1) (tb : LamX.Tabs px.T H1) (i : Nat) {a : Addr} {t : Bool} {o : HO} (ha : H a = none) (hf : w1.pr a) (hl : H1 a = some o) (hv : KvR K (w1.own i a) H1 [] t o) :
    RR K px (w1.own i a) (e.put i (.k t [])) h1 (σ.set i (some (.ref a))) H1 :=
  r.ownG x hr tb i ha hf hl fun z => ⟨a, o, rfl, z, hl, hv⟩
theorem VS.updD {D : Addr} {o0 o1 : HO} [Mu o0] (hp : w.forb D) (hD : H D = some o0) (hs : ∀ b, b ∉ w.hp → some b ∉ w.ow → b ≠ D) {d : Tv.D} {v : V} (q : VS K w H d v) : VS K w (upd H D o1) d v := by
  cases q with
  | of q => exact .of (q.updD hp hD)
  | scrK q r => exact .scrK q (r.updD hp hD)
  | @scr a xs ds n1 n2 q r =>
    refine .scr n1 n2 ?_ (r.updD hp hD)
    rcases q with q | ⟨o, q⟩
    · exact .inl (by rw [upd_ne (hs a n1 n2)]; exact q)
    · exact .inr ⟨o, by rw [upd_ne (hs a n1 n2)]; exact q⟩
theorem SlR.updD {D : Addr} {o0 o1 : HO} [Mu o0] (hp : w.forb D) (hD : H D = some o0) (hs : ∀ b, b ∉ w.hp → some b ∉ w.ow → b ≠ D) {j : Nat} (ho : ∀ b, w.ow[j]? = some (some b) → b ≠ D) {s : Option (Option V)} : ∀ {y : Sl}, SlR K w H j s y → SlR K w (upd H D o1) j s y
  | .u, _ => trivial
  | .v d, ⟨v, q1, q2⟩ => ⟨v, q1, q2.updD hp hD hs⟩
  | .o ds, ⟨a, xs, q1, q2, q3, q4, q5⟩ => ⟨a, xs, q1, q2, by rw [upd_ne (ho a q2)]; exact q3, q4.updD hp hD, q5⟩
  | .k t kvs, ⟨a, o, q1, q2, z, q4⟩ => ⟨a, o, q1, q2, by rw [upd_ne (ho a q2)]; exact z, q4.mapP fun y => y.updD hp hD⟩
theorem ext_updD {D : Addr} {o0 o1 : HO} [Mu o0] (hp : D ∈ w.hp ∨ some D ∈ w.ow) (hD : H D = some o0) : ExtS w H w (upd H D o1) where
  pre := ⟨[], by simp, fun _ h => by cases h⟩
  fo := fun a h => .inl h
  keep := fun a o q n1 n2 _ => by
    have ha : a ≠ D := fun e => by
      rcases hp with z | z
      · exact n1 (by rw [e]; exact z)
      · exact n2 (by rw [e]; exact z)
    rw [upd_ne ha]; exact q
  tups := fun a xs q => by
    rw [upd_ne (fun e => by rw [e] at q; exact Mu.no hD q rfl)]; exact q
  mi := fun _ h => .inl h
  pr := fun _ h => h
  dom := fun a q => by
    by_cases ha : a = D
    · rw [ha, upd_same] at q; cases q
    · rw [upd_ne ha] at q; exact q
/-- slot i's own list changes -/
theorem RR.slot (r : RR K px w e h σ H) {i : Nat} {ds : List D} (hi : e.get i = .o ds) : ∃ a xs, σ[i]? = some (some (.ref a)) ∧ H a = some (.lst xs) ∧ VRs K w H ds xs ∧ ds.all D.keep = true ∧ some a ∈ w.ow ∧ w.ow[i]? = some (some a) ∧
    ∀ ds' xs', VRs K w H ds' xs' → ds'.all D.keep = true → RR K px w (e.put i (.o ds')) h σ (upd H a (.lst xs')) ∧ ExtS w H w (upd H a (.lst xs')) := by
  have q := r.er.sl i
  rw [hi] at q
  obtain ⟨a, xs, q1, q2, q3, q4, q5⟩ := q
  have m : some a ∈ w.ow := List.mem_iff_getElem?.mpr ⟨i, q2⟩
  have nh : a ∉ w.hp := fun z => (r.hr.sep a z).1 m
  refine ⟨a, xs, q1, q3, q4, q5, m, q2, fun ds' xs' hv hk => ⟨⟨r.hr.updD (.inr (.inl m)) nh q3, ⟨?_, r.er.wl, fun j => ?_, r.er.inj, fun j b z => ⟨fun y => ?_, (r.er.ot j b z).2⟩⟩, tabs_updD q3 r.tb⟩, ext_updD (.inr m) q3⟩⟩
  · rw [Ev.length_put]; exact r.er.len
  · by_cases hj : i = j
    · subst hj
      rcases Ev.get_put e i (.o ds') with z | ⟨z1, z2⟩
      · rw [z]; trivial
      · rw [z2]
        exact ⟨a, xs', q1, q2, upd_same, hv.updD (.inr (.inl m)) q3, hk⟩
    · rw [Ev.get_put_ne e _ hj]
      refine SlR.updD (.inr (.inl m)) q3 (fun b n1 n2 z => n2 (by rw [z]; exact m)) (fun b z y => hj ?_) (r.er.sl j)
      rw [y] at z
      exact r.er.inj i j a q2 z
  · by_cases hb : b = a
    · rw [hb, upd_same] at y; cases y
    · rw [upd_ne hb] at y; exact (r.er.ot j b z).1 y
theorem KvR.mu {kvs : List (D × D)} : ∀ {t : Bool} {o : HO}, KvR K w H kvs t o → Mu o
  | false, _, ⟨_, h, _⟩ => by rw [h]; exact inferInstance
  | true, _, ⟨_, h, _⟩ => by rw [h]; exact inferInstance
/-- slot i's own dict changes -/
theorem RR.slotK (r : RR K px w e h σ H) {i : Nat} {t : Bool} {kvs : List (D × D)} (hi : e.get i = .k t kvs) : ∃ a o, σ[i]? = some (some (.ref a)) ∧ H a = some o ∧ KvR K w H kvs t o ∧ some a ∈ w.ow ∧ w.ow[i]? = some (some a) ∧
    ∀ kvs' o', KvR K w H kvs' t o' → RR K px w (e.put i (.k t kvs')) h σ (upd H a o') ∧ ExtS w H w (upd H a o') := by
  have q := r.er.sl i
  rw [hi] at q
  obtain ⟨a, o, q1, q2, q3, q4⟩ := q
  have mu : Mu o := q4.mu
  have m : some a ∈ w.ow := List.mem_iff_getElem?.mpr ⟨i, q2⟩
  have nh : a ∉ w.hp := fun z => (r.hr.sep a z).1 m
  refine ⟨a, o, q1, q3, q4, m, q2, fun kvs' o' hv => ⟨⟨r.hr.updD (.inr (.inl m)) nh q3, ⟨?_, r.er.wl, fun j => ?_, r.er.inj, fun j b z => ⟨fun y => ?_, (r.er.ot j b z).2⟩⟩, tabs_updD q3 r.tb⟩, ext_updD (.inr m) q3⟩⟩
  · rw [Ev.length_put]; exact r.er.len
  · by_cases hj : i = j
    · subst hj
      rcases Ev.get_put e i (.k t kvs') with z | ⟨z1, z2⟩
      · rw [z]; trivial
      · rw [z2]
        exact ⟨a, o', q1, q2, upd_same, hv.mapP fun y => y.updD (.inr (.inl m)) q3⟩
    · rw [Ev.get_put_ne e _ hj]
      refine SlR.updD (.inr (.inl m)) q3 (fun b n1 n2 z => n2 (by rw [z]; exact m)) (fun b z y => hj ?_) (r.er.sl j)
      rw [y] at z
      exact r.er.inj i j a q2 z
  · by_cases hb : b = a
    · rw [hb, upd_same] at y; cases y
    · rw [upd_ne hb] at y; exact (r.er.ot j b z).1 y
/-- a list of the small heap changes -/
theorem RR.heap (r : RR K px w e h σ H) {k : Nat} {ds : List D} (hi : h[k]? = some (.lst ds)) {v : V} (hv : VR K w H (.ref k) v) : ∃ a xs, v = .ref a ∧ H a = some (.lst xs) ∧ VRs K w H ds xs ∧ ds.all D.keep = true ∧
    ∀ ds' xs', VRs K w H ds' xs' → ds'.all D.keep = true → RR K px w e (h.set k (.lst ds')) σ (upd H a (.lst xs')) ∧ ExtS w H w (upd H a (.lst xs')) := by
  cases hv with
  | @ref _ a ha =>
    obtain ⟨xs, q3, q4, q5⟩ := r.hr.ob k a _ ha hi
    have m : a ∈ w.hp := List.mem_iff_getElem?.mpr ⟨k, ha⟩
    refine ⟨a, xs, rfl, q3, q4, q5, fun ds' xs' hv hk => ⟨⟨⟨?_, r.hr.nd, fun j b o z1 z2 => ?_, r.hr.sep, fun b z y => ?_⟩, ⟨r.er.len, r.er.wl, fun j => ?_, r.er.inj, fun j b z => ⟨fun y => ?_, (r.er.ot j b z).2⟩⟩, tabs_updD q3 r.tb⟩, ext_updD (.inl m) q3⟩⟩
    · rw [List.length_set]; exact r.hr.len
    · rcases get_set z2 with ⟨b1, b2, _⟩ | ⟨b1, b2⟩
      · subst b1 b2
        rw [ha] at z1
        cases z1
        exact ⟨xs', upd_same, hv.updD (.inl m) q3, hk⟩
      · have q := r.hr.ob j b o z1 b2
        cases o with
        | lst es =>
          obtain ⟨ys, c1, c2, c3⟩ := q
          have hb : b ≠ a := fun z => b1 (by
            rw [z] at z1
            obtain ⟨l1, e1⟩ := List.getElem?_eq_some_iff.mp z1
            obtain ⟨l2, e2⟩ := List.getElem?_eq_some_iff.mp ha
            exact (List.getElem_inj r.hr.nd).mp (e1.trans e2.symm))
          exact ⟨ys, by rw [upd_ne hb]; exact c1, c2.updD (.inl m) q3, c3⟩
        | ins c fs => exact q
    · by_cases hb : b = a
      · rw [hb, upd_same] at y; cases y
      · rw [upd_ne hb] at y; exact r.hr.prd b z y
    · refine SlR.updD (.inl m) q3 (fun b n1 n2 z => n1 (by rw [z]; exact m)) (fun b z y => ?_) (r.er.sl j)
      rw [y] at z
      exact (r.hr.sep a m).1 (List.mem_iff_getElem?.mpr ⟨j, z⟩)
    · by_cases hb : b = a
      · rw [hb, upd_same] at y; cases y
      · rw [upd_ne hb] at y; exact (r.er.ot j b z).1 y
/-- slot i's own list is a value from now on -/
theorem ext_drop {i : Nat} : ExtS w H (w.put i none) H := ext_put (fun _ h => by cases h) (fun _ h => by cases h)
theorem RR.frz (r : RR K px w e h σ H) {i : Nat} {ds : List D} (hi : e.get i = .o ds) : RR K px (w.put i none) (e.put i (.v (.lst ds))) h σ H := by
  have q := r.er.sl i
  rw [hi] at q
  obtain ⟨a, xs, q1, q2, q3, q4, q5⟩ := q
  have m : some a ∈ w.ow := List.mem_iff_getElem?.mpr ⟨i, q2⟩
  have sub : ∀ b, some b ∈ (w.put i none).ow → some b ∈ w.ow := fun b z => by
    rcases mem_set z with y | y
    · exact y
    · cases y
  refine ⟨r.hr.exts ext_drop rfl (fun b z y => (r.hr.sep b y).1 (sub b z)) fun b => Iff.rfl, ⟨?_, ?_, fun j => ?_, fun j k b z1 z2 => ?_, fun j b z => ?_⟩, r.tb⟩
  · rw [Ev.length_put]; exact r.er.len
  · show (w.ow.set i none).length = _
    rw [List.length_set]; exact r.er.wl
  · by_cases hj : i = j
    · subst hj
      rcases Ev.get_put e i (.v (.lst ds)) with z | ⟨z1, z2⟩
      · rw [z]; trivial
      · rw [z2]
        refine ⟨.ref a, q1, .of (.lst ?_ q3 (q4.exts ext_drop))⟩
        rintro (z | z | z)
        · exact (r.hr.sep a z).1 m
        · obtain ⟨j, hj⟩ := List.mem_iff_getElem?.mp z
          rcases get_set hj with ⟨_, b2, _⟩ | ⟨b1, b2⟩
          · cases b2
          · exact b1 (r.er.inj j i a b2 q2)
        · exact (r.er.ot i a q2).2 z
    · rw [Ev.get_put_ne e _ hj]
      refine SlR.oth ext_drop (fun b q => ⟨?_, fun o z _ => z⟩) (r.er.sl j)
      show (w.ow.set i none)[j]? = _
      rw [List.getElem?_set_ne hj]; exact q
  · rcases get_set z1 with ⟨_, b, _⟩ | ⟨_, b⟩
    · cases b
    · rcases get_set z2 with ⟨_, c, _⟩ | ⟨_, c⟩
      · cases c
      · exact r.er.inj j k _ b c
  · rcases get_set z with ⟨_, b, _⟩ | ⟨_, b⟩
    · cases b
    · exact r.er.ot j _ b
end
end Tv
end

section
set_option autoImplicit false
set_option maxHeartbeats 1000000
/-! Statements over lists that change; raise. -/
namespace Tv
open PySem PySem.Spec PyProof.Rows L2
section
variable {X : Cx} {px : Px} {W : WX} {sts : List Stmt} {f g : Ev → Hs → R Fl} {a b c : Expr} {fa fb fc : Ev → Hs → R D} {pos pos' pos2 p apos cpos : Pos} {i j : Nat} {x y : Str}
/-- a name that may be read -/
structure RdOk (X : Cx) (x : Str) (i : Nat) : Prop where
  ix : X.N[i]? = some x
  vis : Vis X.env.scope x
  db : (x == ("__debug__" : Str)) = false
  cd : (x == ("__classdict__" : Str)) = false
theorem RdOk.pe (h : RdOk X x i) {p : Pos} : PE X (.Name x p) (tVar i) := pe_var h.ix h.vis h.db h.cd
/-- ghosts -/
def fFrz (i : Nat) : Ev → Hs → R Fl := fun e h => (match e.get i with
    | .o xs => .ok (.nx (e.put i (.v (.lst xs)))) h
    | _ => .bad)
theorem sb_frz (i : Nat) (h : SB X px W sts g) : SB X px W sts (fun e h => (fFrz i e h).fl g) := by
  refine PSs.of h fun D σ H ⟨w, e, h, p⟩ => ?_
  unfold fFrz at p
  dsimp only at p
  cases e1 : e.get i with
  | o xs =>
    rw [e1] at p
    exact ⟨w.put i none, _, h, p.rr.frz e1, PoS.later p.po ext_drop⟩
  | u => rw [e1] at p; exact p.po.elim
  | v d => rw [e1] at p; exact p.po.elim
  | k kvs => rw [e1] at p; exact p.po.elim
/-! ### x = [..], the list x's own -/
def fOwn (i : Nat) (fa : Ev → Hs → R D) : Ev → Hs → R Fl := fun e h => (fa e h).bind fun x h => (match x with
    | .lst xs => if xs.all D.keep then .ok (.nx (e.put i (.o xs))) h else .bad
    | _ => .bad)
theorem own_rd {K : PySem.W.Frag} {En : Ends} {σ : L2.St} {H : Hp} (q : rdS K px W (fOwn i fa) En σ H) : tAsg (rdF K px W fa) (gName i) En σ H := by
  obtain ⟨w, e, h, p⟩ := q
  refine ⟨w, e, h, p.rr, ?_⟩
  have q := p.po
  unfold fOwn at q
  cases e1 : fa e h with
  | bad => rw [e1] at q; exact q
  | exc y h' => rw [e1] at q; exact fun cls dd w' H' x1 x2 x3 x4 => q cls dd w' σ H' x1.s x2 x3 x4
  | ok d h' =>
    rw [e1, R.bind_ok] at q
    rintro v w1 H1 x1 x2 x3 ⟨a, xs, ds, rfl, rfl, h0, h1, h2, h3⟩
    dsimp only at q
    split at q
    · rename_i hk
      exact q (w1.own i a) _ H1 (ext_own x1 p.rr.hr.prd h0 h1) (p.rr.own x1 x2 x3 i h0 h1 h2 h3 hk)
    · exact q.elim
theorem ss_own (hN : X.N.Nodup) (hn : NmOk X x i) (ha : SEF X px W a fa) (hs : swapsWith a (some (.Name x pos')) pos.line X.env = pure false) : SS X px W (.Assign [.Name x pos'] a pos) (fOwn i fa) :=
  PS.of (ps_set hN hn.1 hn.2.1 ha hs hn.2.2) fun D σ H q => own_rd q
/-! ### a new list by an operator -/
def lstO (d : D) (h : Hs) : R D := match d with
  | .lst xs => .ok (.lst xs) h
  | _ => .bad
def rdL (K : PySem.W.Frag) (px : Px) (W : WX) (f : Ev → Hs → R D) : TE := fun σ H Q => ∃ w e h, Pre K px W σ (relF K H) w e h H Q ((f e h).bind lstO)
abbrev SEL (X : Cx) (px : Px) (W : WX) (e : Expr) (f : Ev → Hs → R D) : Prop := PE X e (rdL X.K px W f)
theorem SEF.sel (h : SEF X px W a fa) : SEL X px W a fa := PE.of h fun σ H Q ⟨w, e, hh, p⟩ => ⟨w, e, hh, p.rr, by
  have q := p.po
  cases e1 : fa e hh with
  | bad => rw [e1] at q; exact q
  | exc x h' => rw [e1] at q; exact q
  | ok d h' =>
    rw [e1] at q
    rintro v w' H' x1 x2 x3 ⟨l, xs, ds, rfl, rfl, r⟩
    exact q _ w' H' x1 x2 x3 ⟨l, xs, ds, rfl, rfl, r⟩⟩
theorem ownL_rd {K : PySem.W.Frag} {En : Ends} {σ : L2.St} {H : Hp} (q : rdS K px W (fOwn i fa) En σ H) : tAsg (rdL K px W fa) (gName i) En σ H := by
  obtain ⟨w, e, h, p⟩ := q
  refine ⟨w, e, h, p.rr, ?_⟩
  have q := p.po
  unfold fOwn at q
  cases e1 : fa e h with
  | bad => rw [e1] at q; exact q
  | exc y h' => rw [e1] at q; exact fun cls dd w' H' x1 x2 x3 x4 => q cls dd w' σ H' x1.s x2 x3 x4
  | ok d h' =>
    rw [e1, R.bind_ok] at q
    rw [R.bind_ok]
    by_cases hd : ∃ xs, d = .lst xs
    · obtain ⟨ys, rfl⟩ := hd
      dsimp only at q
      split at q
      · rename_i hk
        rintro v w1 H1 x1 x2 x3 ⟨l, xs, ds, ed, rfl, h0, h1, h2, h3⟩
        cases ed
        exact q (w1.own i l) _ H1 (ext_own x1 p.rr.hr.prd h0 h1) (p.rr.own x1 x2 x3 i h0 h1 h2 h3 hk)
      · exact q.elim
    · cases d <;> first | exact absurd ⟨_, rfl⟩ hd | exact q.elim
theorem ss_ownL (hN : X.N.Nodup) (hn : NmOk X x i) (ha : SEL X px W a fa) (hs : swapsWith a (some (.Name x pos')) pos.line X.env = pure false) : SS X px W (.Assign [.Name x pos'] a pos) (fOwn i fa) :=
  PS.of (ps_set hN hn.1 hn.2.1 ha hs hn.2.2) fun D σ H q => ownL_rd q
theorem Pre.newF {K : PySem.W.Frag} {σ : L2.St} {w : Wd} {e : Ev} {h : Hs} {H H0 : Hp} {Q : VK} {ds : List D} {q : Addr} {xs : List V} (p : Pre K px W σ (relF K H0) w e h H Q (.ok (.lst ds) h)) (h0 : ∀ a, H a = none → H0 a = none) (hq : H q = none) (hv : VRs K w H ds xs) : Q (.ref q) (upd H q (.lst xs)) :=
  p.po (.ref q) (w.gd q) _ (Ext.guard hq) (p.rr.hr.guard hq) (p.rr.new hq).tb ⟨q, xs, ds, rfl, rfl, h0 q hq, .inr rfl, upd_same, hv.ext (Ext.guard hq)⟩
def rL2 (K : PySem.W.Frag) (px : Px) (W : WX) (f : D → D → Option D) : R2 := fun x y H Q => ∃ σ w e h H0 d1 d2, VT K w H d1 x ∧ VT K w H d2 y ∧ (∀ a, H a = none → H0 a = none) ∧ Pre K px W σ (relF K H0) w e h H Q ((R.of (f d1 d2) h).bind lstO)
theorem rL_of {K : PySem.W.Frag} {σ : L2.St} {w : Wd} {e : Ev} {h : Hs} {H H0 : Hp} {Q : VK} {o : Option D} (p : Pre K px W σ (relF K H0) w e h H Q ((R.of o h).bind lstO)) : ∃ ds, o = some (.lst ds) ∧ Pre K px W σ (relF K H0) w e h H Q (.ok (.lst ds) h) := by
  cases o with
  | none => exact p.po.elim
  | some d =>
    by_cases hd : ∃ xs, d = .lst xs
    · obtain ⟨ys, rfl⟩ := hd
      exact ⟨ys, rfl, p⟩
    · cases d <;> first | exact absurd ⟨_, rfl⟩ hd | exact p.po.elim
theorem op_addL : OpR X (binaryOp .Add) (rL2 X.K px W dAdd) := by
  intro pins s σ H x y v u Q I rx ry q
  obtain ⟨σ', w, e, h, H0, d1, d2, v1, v2, hd, p0⟩ := q
  obtain ⟨ds, ed, p⟩ := rL_of p0
  unfold dAdd at ed
  split at ed <;> first | (cases ed; done) | skip
  · have := (ofLen_some ed).1; cases this
  · have := (ofLen_some ed).1; cases this
  · split at ed
    · rename_i q1 q2
      obtain ⟨a, xs, rfl, h1, r1⟩ := v1.la q1
      obtain ⟨b, ys, rfl, h2, r2⟩ := v2.la q2
      obtain ⟨eq, hz⟩ := ofLen_some ed
      cases eq
      exact op_catR pins s σ H _ _ v u Q I rx ry ⟨a, b, xs, ys, rfl, rfl, h1, h2, by rw [← r1.length, ← r2.length]; exact hz, fun p' hp' => p.newF hd hp' (r1.append r2)⟩
    · cases ed
theorem op_mulL : OpR X (binaryOp .Mult) (rL2 X.K px W dMul) := by
  intro pins s σ H x y v u Q I rx ry q
  obtain ⟨σ', w, e, h, H0, d1, d2, v1, v2, hd, p0⟩ := q
  obtain ⟨ds, ed, p⟩ := rL_of p0
  unfold dMul at ed
  split at ed
  · split at ed <;> cases ed
  · split at ed
    · rename_i hc
      obtain ⟨a, xs, rfl, n1, h1, r1⟩ := vLst v1
      obtain rfl := vInt v2
      cases ed
      exact op_repR pins s σ H _ _ v u Q I rx ry ⟨_, _, _, rfl, rfl, h1, hc.1, hc.2.1, by rw [← r1.length]; exact hc.2.2, fun p' hp' => p.newF hd hp' (r1.flat _)⟩
    · cases ed
  · split at ed
    · cases ed
    · split at ed <;> cases ed
  · cases ed
theorem sel_bin {o : Bop} {r : OpR X (binaryOp (bopOf o)) (rL2 X.K px W (dBin o))} (ha : SE X px W a fa) (hb : SE X px W b fb) : SEL X px W (.BinOp a (bopOf o) b pos) (fun e h => (fa e h).bind fun x h => (fb e h).bind fun y h => R.of (dBin o x y) h) := by
  refine PE.of (pe_op r ha hb) fun σ H Q ⟨w, e, h, p⟩ => ?_
  have p : Pre X.K px W σ (relF X.K H) w e h H Q ((fa e h).bind fun x h => ((fb e h).bind fun y h => R.of (dBin o x y) h).bind lstO) := by
    rw [R.bind_assoc] at p
    exact p
  refine ⟨w, e, h, p.bind.imp fun x H1 ⟨d1, h1, w1, _, x1, v1, p1⟩ => ⟨w1, e, h1, ?_⟩⟩
  rw [R.bind_assoc] at p1
  refine p1.bind.imp fun y H2 ⟨d2, h2, w2, _, x2, v2, p2⟩ => ?_
  exact ⟨σ, w2, e, h2, H, d1, d2, v1.ext x2, v2, fun a ha => x1.dom a (x2.dom a ha), p2⟩
/-! ### x.append(a), x.extend(a), x.pop() -/
theorem own_ty {K : PySem.W.Frag} {a : Addr} {xs : List V} {H : Hp} (h : H a = some (.lst xs)) : tyV K "list" (.ref a) H := .inl ⟨rfl, xs, .inl (.inl h)⟩
theorem keep_snoc {ds : List D} {d : D} (h : ds.all D.keep = true) (k : d.keep = true) : (ds ++ [d]).all D.keep = true := by
  rw [List.all_append, h]; simp [k]
theorem slot_bad {K : PySem.W.Frag} {En : Ends} {w : Wd} {H : Hp} {e : Ev} {h : Hs} {σ : L2.St} {k : List D → R Fl} (p : PrS K px W En w e h σ H (match e.get i with
    | .o xs => k xs
    | _ => .bad)) : ∃ xs, e.get i = .o xs ∧ PrS K px W En w e h σ H (k xs) := by
  cases e1 : e.get i with
  | o xs => rw [e1] at p; exact ⟨xs, rfl, p⟩
  | u => rw [e1] at p; exact p.po.elim
  | v d => rw [e1] at p; exact p.po.elim
  | k kvs => rw [e1] at p; exact p.po.elim
theorem own_keep {K : PySem.W.Frag} {w w' : Wd} {H H' : Hp} (hr : ∀ a, a ∈ w.hp → some a ∉ w.ow) {a : Addr} {o : HO} (m : some a ∈ w.ow) (h : H a = some o) (x : Ext w H w' H') (ht : ∀ ps, o ≠ .tbl ps) : H' a = some o := x.keep a o h (fun z => hr a z m) ht
def fApp (i : Nat) (fa : Ev → Hs → R D) : Ev → Hs → R Fl := fun e h => (match e.get i with
    | .o xs => (fa e h).bind fun x h => if x.keep && decide (xs.length < LIM) then .ok (.nx (e.put i (.o (xs ++ [x])))) h else .bad
    | _ => .bad)
theorem ss_app (hr : RdOk X x i) (ha : SE X px W a fa) (hl : (apos.endLine == cpos.line) = true) (hs : nst a = true) : SS X px W (.Expr (.Call (.Attribute (.Name x p) "append" apos) [a] [] cpos) pos) (fApp i fa) := by
  refine PS.of (ps_expr (pe_bm PySem.F.plainAttrs_list PySem.F.slot_list_append PySem.F.type_list_append mt_append hr.pe (pa_cons ha pa_nil (star_ok hs)) rfl (by rw [star_ok hs]; rfl) hl (star_ok hs) rfl)) fun En σ H ⟨w, e, h, p⟩ => ?_
  obtain ⟨xs, e1, p⟩ := slot_bad p
  obtain ⟨q, us, s1, s2, s3, s4, s5, s6, _⟩ := p.rr.slot e1
  refine ⟨.ref q, s1, own_ty s2, w, e, h, p.bind.imp fun v H1 ⟨d, h1, w1, _, x1, v1, p1⟩ => ?_⟩
  obtain ⟨q', us', t1, t2, t3, t4, t5, t6, t7⟩ := p1.rr.slot e1
  rw [s1] at t1
  cases t1
  split at p1
  · rename_i hk
    rw [Bool.and_eq_true] at hk
    have hlt : xs.length < LIM := of_decide_eq_true hk.2
    obtain ⟨r1, x2⟩ := t7 (xs ++ [d]) (us' ++ [v]) (t3.snoc (VT.keep v1 hk.1)) (keep_snoc t4 hk.1)
    exact ⟨q, us', v, rfl, rfl, t2, by rw [← t3.length, ← LIM_eq]; exact hlt, p1.done x2 r1⟩
  · exact p1.po.elim
def fExt (i : Nat) (fa : Ev → Hs → R D) : Ev → Hs → R Fl := fun e h => (match e.get i with
    | .o xs => (fa e h).bind fun x h => (match x with
      | .lst ys => if ys.all D.keep && decide (xs.length + ys.length ≤ LIM) then .ok (.nx (e.put i (.o (xs ++ ys)))) h else .bad
      | _ => .bad)
    | _ => .bad)
theorem lst_at {K : PySem.W.Frag} {w : Wd} {H : Hp} {v : V} {ds : List D} (h : VT K w H (.lst ds) v) : ∃ b xs, v = .ref b ∧ H b = some (.lst xs) ∧ VRs K w H ds xs := by
  cases h with
  | of h => cases h with
    | of h => cases h with
      | lst n q r => exact ⟨_, _, rfl, q, r⟩
theorem ss_ext (hr : RdOk X x i) (ha : SE X px W a fa) (hl : (apos.endLine == cpos.line) = true) (hs : nst a = true) : SS X px W (.Expr (.Call (.Attribute (.Name x p) "extend" apos) [a] [] cpos) pos) (fExt i fa) := by
  refine PS.of (ps_expr (pe_bm PySem.F.plainAttrs_list PySem.F.slot_list_extend PySem.F.type_list_extend mt_extend hr.pe (pa_cons ha pa_nil (star_ok hs)) rfl (by rw [star_ok hs]; rfl) hl (star_ok hs) rfl)) fun En σ H ⟨w, e, h, p⟩ => ?_
  obtain ⟨xs, e1, p⟩ := slot_bad p
  obtain ⟨q, us, s1, s2, s3, s4, s5, s6, _⟩ := p.rr.slot e1
  refine ⟨.ref q, s1, own_ty s2, w, e, h, p.bind.imp fun v H1 ⟨d, h1, w1, _, x1, v1, p1⟩ => ?_⟩
  obtain ⟨q', us', t1, t2, t3, t4, t5, t6, t7⟩ := p1.rr.slot e1
  rw [s1] at t1
  cases t1
  by_cases hd : ∃ ys, d = .lst ys
  · obtain ⟨ys, rfl⟩ := hd
    dsimp only at p1
    split at p1
    · rename_i hk
      rw [Bool.and_eq_true] at hk
      have hlt : xs.length + ys.length ≤ LIM := of_decide_eq_true hk.2
      obtain ⟨b, zs, rfl, z1, z2⟩ := lst_at v1
      obtain ⟨r1, x2⟩ := t7 (xs ++ ys) (us' ++ zs) (t3.append z2) (by rw [List.all_append, t4, hk.1]; rfl)
      exact ⟨q, b, us', zs, rfl, rfl, t2, z1, by rw [← t3.length, ← z2.length, ← LIM_eq]; exact hlt, p1.done x2 r1⟩
    · exact p1.po.elim
  · cases d <;> first | exact p1.po.elim | exact absurd ⟨_, rfl⟩ hd
def fPop (i : Nat) : Ev → Hs → R Fl := fun e h => (match e.get i with
    | .o xs => if xs.isEmpty then .bad else .ok (.nx (e.put i (.o xs.dropLast))) h
    | _ => .bad)
theorem VRs.dropLast {K : PySem.W.Frag} {w : Wd} {H : Hp} : ∀ {ds : List D} {vs : List V}, VRs K w H ds vs → VRs K w H ds.dropLast vs.dropLast
  | _, _, .nil => .nil
  | _, _, .cons a .nil => .nil
  | _, _, .cons a (.cons b r) => .cons a (VRs.dropLast (.cons b r))
theorem keep_dropLast {ds : List D} (h : ds.all D.keep = true) : ds.dropLast.all D.keep = true := by
  rw [List.all_eq_true] at h ⊢
  exact fun d hd => h d (List.dropLast_subset _ hd)
theorem ss_pop (hr : RdOk X x i) (hl : (apos.endLine == cpos.line) = true) : SS X px W (.Expr (.Call (.Attribute (.Name x p) "pop" apos) [] [] cpos) pos) (fPop i) := by
  refine PS.of (ps_expr (pe_bm0 PySem.F.plainAttrs_list PySem.F.slot_list_pop PySem.F.type_list_pop mt_pop hr.pe rfl hl)) fun En σ H ⟨w, e, h, p⟩ => ?_
  obtain ⟨xs, e1, p⟩ := slot_bad p
  obtain ⟨q, us, s1, s2, s3, s4, s5, s6, s7⟩ := p.rr.slot e1
  split at p
  · exact p.po.elim
  · rename_i hne
    obtain ⟨r1, x2⟩ := s7 xs.dropLast us.dropLast s3.dropLast (keep_dropLast s4)
    have hu : us ≠ [] := fun z => by
      rw [z] at s3
      cases s3
      exact hne rfl
    refine ⟨.ref q, s1, own_ty s2, q, us, us.getLast hu, rfl, rfl, s2, ?_, p.done x2 r1⟩
    rw [List.getLast_eq_getElem hu]
    exact List.getElem?_eq_getElem _
/-- i1, i2 = x.pop(0) -/
def fPopu (i : Nat) (is : List Nat) : Ev → Hs → R Fl := fun e h => (match e.get i with
    | .o (x :: xs) => (match putT (.t is) x (e.put i (.o xs)) with
      | some e' => .ok (.nx e') h
      | none => .bad)
    | _ => .bad)
theorem ss_popu {es : List Expr} {is : List Nat} {k : Nat} {q0 : Pos} {a0 : Expr} (hN : X.N.Nodup) (hc : X.calm = true) (hr : RdOk X x i) (hn : NmsOk X es is) (ha : SE X px W a0 (fun _ h => .ok (.int 0) h)) (hl : (apos.endLine == cpos.line) = true) (hs : nst a0 = true)
    (hws : swapsWithSole [.Tuple es k q0] (.Call (.Attribute (.Name x p) "pop" apos) [a0] [] cpos) pos.line X.env = pure false) (hw : swappedStores [.Tuple es k q0] (.Call (.Attribute (.Name x p) "pop" apos) [a0] [] cpos) X.env = pure none) : SS X px W (.Assign [.Tuple es k q0] (.Call (.Attribute (.Name x p) "pop" apos) [a0] [] cpos) pos) (fPopu i is) := by
  refine PS.of (ps_asg (pe_bm PySem.F.plainAttrs_list PySem.F.slot_list_pop PySem.F.type_list_pop mt_popAt hr.pe (pa_cons ha pa_nil (star_ok hs)) rfl (by rw [star_ok hs]; rfl) hl (star_ok hs) rfl) (sg_tup hc hN hn) hws hw) fun En σ H ⟨w, e, h, p⟩ => ?_
  unfold fPopu at p
  cases e1 : e.get i with
  | u => rw [e1] at p; exact p.po.elim
  | v d => rw [e1] at p; exact p.po.elim
  | k t kvs => rw [e1] at p; exact p.po.elim
  | o zs =>
    rw [e1] at p
    cases zs with
    | nil => exact p.po.elim
    | cons d ds =>
      dsimp only at p
      cases e2 : putT (.t is) d (e.put i (.o ds)) with
      | none => rw [e2] at p; exact p.po.elim
      | some e' =>
        rw [e2] at p
        obtain ⟨q, us, s1, s2, s3, s4, s5, s6, s7⟩ := p.rr.slot e1
        refine ⟨.ref q, s1, own_ty s2, w, e, h, p.rr, fun v w1 H1 x1 x2 x3 x4 => ?_⟩
        obtain rfl := vInt x4
        have rr := p.rr.ext x1 x2 x3
        obtain ⟨q', us', t1, t2, t3, t4, t5, t6, t7⟩ := rr.slot e1
        rw [s1] at t1
        cases t1
        cases t3 with
        | @cons _ u _ us2 a r =>
          obtain ⟨r1, x5⟩ := t7 ds us2 r (by rw [List.all_cons, Bool.and_eq_true] at t4; exact t4.2)
          refine ⟨q, u :: us2, 0, 0, u, rfl, rfl, t2, by decide, by decide, ?_, rfl, ?_⟩
          · unfold seqIndex?
            simp
          · exact ⟨w1, e.put i (.o ds), d, e', a.updD (.inr (.inl t5)) t2, r1.er, e2, fun σ' l hl hm he => p.done (x1.s.trans x5) ⟨r1.hr, he, r1.tb⟩⟩
/-! ### stores into lists -/
def fSi (i : Nat) (fb fc : Ev → Hs → R D) : Ev → Hs → R Fl := fun e h => (match e.get i with
    | .o xs => (fc e h).bind fun z h => (fb e h).bind fun y h => (match y with
      | .int j => if z.keep then (match setL xs j z with
        | some ys => .ok (.nx (e.put i (.o ys))) h
        | none => .bad) else .bad
      | _ => .bad)
    | _ => .bad)
theorem VRs.set_ {K : PySem.W.Frag} {w : Wd} {H : Hp} {d : D} {v : V} (q : VR K w H d v) : ∀ {ds : List D} {vs : List V}, VRs K w H ds vs → ∀ j : Nat, VRs K w H (ds.set j d) (vs.set j v)
  | _, _, .nil, _ => .nil
  | _, _, .cons a r, 0 => .cons q r
  | _, _, .cons a r, j + 1 => .cons a (VRs.set_ q r j)
theorem keep_set {ds : List D} {d : D} {j : Nat} (h : ds.all D.keep = true) (k : d.keep = true) : (ds.set j d).all D.keep = true := by
  rw [List.all_eq_true] at h ⊢
  intro z hz
  rcases List.mem_or_eq_of_mem_set hz with q | q
  · exact h z q
  · rw [q]; exact k
theorem setL_of {α : Type} {xs ys : List α} {i : Int} {x : α} (h : setL xs i x = some ys) : ∃ j, ixN xs.length i = some j ∧ ys = xs.set j x := by
  unfold setL at h
  cases e1 : ixN xs.length i with
  | none => rw [e1] at h; cases h
  | some j => rw [e1] at h; cases h; exact ⟨j, rfl, rfl⟩
theorem ss_si (hr : RdOk X x i) (hb : SE X px W b fb) (hc : SE X px W c fc) (hs : swapsWithSole [.Subscript (.Name x p) b pos2] c pos.line X.env = pure false) (hw : swappedStores [.Subscript (.Name x p) b pos2] c X.env = pure none) (h1 : (assignEach [.Subscript (.Name x p) b pos2] X.env).map (·.2) = [assign (.Subscript (.Name x p) b pos2) X.env])
    (ha : ∀ v, assign (.Subscript (.Name x p) b pos2) X.env v = (do
      let ov ← holding [v] (eval (.Name x p) X.env)
      let iv ← holding [v, ov] (eval b X.env)
      standAt pos2
      holding [v, ov, iv] (setItem ov iv v)
      release [v, ov, iv] [])) : SS X px W (.Assign [.Subscript (.Name x p) b pos2] c pos) (fSi i fb fc) := by
  refine PS.of (ps_asg hc (pg_sub hr.pe hb set_list ha) hs hw h1) fun En σ H ⟨w, e, h, p⟩ => ?_
  obtain ⟨xs, e1, p⟩ := slot_bad p
  refine ⟨w, e, h, p.bind.imp fun v H1 ⟨d, h1, w1, _, x1, v1, p1⟩ => ?_⟩
  obtain ⟨q, us, s1, s2, s3, s4, s5, s6, _⟩ := p1.rr.slot e1
  refine ⟨.ref q, s1, w1, e, h1, p1.bind.imp fun u H2 ⟨d2, h2, w2, _, x2, v2, p2⟩ => ?_⟩
  obtain ⟨q', us', t1, t2, t3, t4, t5, t6, t7⟩ := p2.rr.slot e1
  rw [s1] at t1
  cases t1
  obtain ⟨k, rfl⟩ : ∃ k, d2 = .int k := by cases d2 <;> first | exact ⟨_, rfl⟩ | exact p2.po.elim
  obtain rfl := vInt v2
  dsimp only at p2
  split at p2
  · rename_i hk
    cases e2 : setL xs k d with
    | none => rw [e2] at p2; exact p2.po.elim
    | some ys =>
      rw [e2] at p2
      obtain ⟨j, e3, rfl⟩ := setL_of e2
      obtain ⟨r1, x3⟩ := t7 _ _ (VRs.set_ (VT.keep (v1.ext x2) hk) t3 j) (keep_set t4 hk)
      exact ⟨q, us', k, j, rfl, rfl, t2, by rw [← t3.length]; exact e3, p2.done x3 r1⟩
  · exact p2.po.elim
def fSr (fa fb fc : Ev → Hs → R D) : Ev → Hs → R Fl := fun e h => (fc e h).bind fun z h => (fa e h).bind fun x h => (fb e h).bind fun y h => (match x, y with
    | .ref r, .int j => if z.keep then (match h[r]? with
      | some (.lst xs) => (match setL xs j z with
        | some ys => .ok (.nx e) (h.set r (.lst ys))
        | none => .bad)
      | _ => .bad) else .bad
    | _, _ => .bad)
theorem ref_at {K : PySem.W.Frag} {w : Wd} {H : Hp} {v : V} {k : Nat} (h : VT K w H (.ref k) v) : VR K w H (.ref k) v := VT.keep h rfl
theorem ss_sr (ha' : SE X px W a fa) (hb : SE X px W b fb) (hc : SE X px W c fc) (hs : swapsWithSole [.Subscript a b pos2] c pos.line X.env = pure false) (hw : swappedStores [.Subscript a b pos2] c X.env = pure none) (h1 : (assignEach [.Subscript a b pos2] X.env).map (·.2) = [assign (.Subscript a b pos2) X.env])
    (ha : ∀ v, assign (.Subscript a b pos2) X.env v = (do
      let ov ← holding [v] (eval a X.env)
      let iv ← holding [v, ov] (eval b X.env)
      standAt pos2
      holding [v, ov, iv] (setItem ov iv v)
      release [v, ov, iv] [])) : SS X px W (.Assign [.Subscript a b pos2] c pos) (fSr fa fb fc) := by
  refine PS.of (ps_asg hc (pg_sub ha' hb set_list ha) hs hw h1) fun En σ H ⟨w, e, h, p⟩ => ?_
  refine ⟨w, e, h, p.bind.imp fun v H1 ⟨d, h1, w1, _, x1, v1, p1⟩ => ⟨w1, e, h1, p1.bind.imp fun u H2 ⟨d2, h2, w2, _, x2, v2, p2⟩ => ⟨w2, e, h2, p2.bind.imp fun t H3 ⟨d3, h3, w3, _, x3, v3, p3⟩ => ?_⟩⟩⟩
  obtain ⟨r, rfl⟩ : ∃ r, d2 = .ref r := by cases d2 <;> first | exact ⟨_, rfl⟩ | exact p3.po.elim
  obtain ⟨k, rfl⟩ : ∃ k, d3 = .int k := by cases d3 <;> first | exact ⟨_, rfl⟩ | exact p3.po.elim
  obtain rfl := vInt v3
  dsimp only at p3
  split at p3
  · rename_i hk
    split at p3
    · rename_i xs e1
      cases e2 : setL xs k d with
      | none => rw [e2] at p3; exact p3.po.elim
      | some ys =>
        rw [e2] at p3
        obtain ⟨j, e3, rfl⟩ := setL_of e2
        obtain ⟨q, us, rfl, t2, t3, t4, t5⟩ := p3.rr.heap e1 (ref_at (v2.ext x3))
        obtain ⟨r1, x4⟩ := t5 _ _ (VRs.set_ (VT.keep ((v1.ext x2).ext x3) hk) t3 j) (keep_set t4 hk)
        exact ⟨q, us, k, j, rfl, rfl, t2, by rw [← t3.length]; exact e3, p3.done x4 r1⟩
    · exact p3.po.elim
  · exact p3.po.elim
end
end Tv
end

section
set_option autoImplicit false
set_option maxHeartbeats 1000000
/-! Further expressions: -a, a[::-1], {..}, the heap's own lists. -/
namespace Tv
open PySem PySem.Spec PyProof.Rows L2
section
variable {prog : Program} {wo : World} {A : Around} {E : Value → Shared → Prop} {s : Shared}
theorem rev_pick (xs : Array Value) : ((List.range xs.size).filterMap fun (k : Nat) => xs[(((xs.size : Int) - 1) + (k : Int) * (-1)).toNat]?).toArray = xs.toList.reverse.toArray := by
  have e : (fun (k : Nat) => xs[(((xs.size : Int) - 1) + (k : Int) * (-1)).toNat]?) = fun k => xs[xs.size - 1 - k]? := by
    funext k
    have e2 : ((((xs.size : Int) - 1) + (k : Int) * (-1)).toNat) = xs.size - 1 - k := by omega
    rw [e2]
  rw [e]
  have q := PySem.W.krv_pick xs
  unfold slicePick at q
  rw [PySem.W.krv_bounds] at q
  have q : ((sliceRange ((xs.size : Int) - 1) (-1) (-1)).filterMap (xs[·]?)).toArray = xs.toList.reverse.toArray := q
  rw [PySem.W.krv_sliceRange, List.filterMap_map] at q
  exact q
theorem sliceRev {sl : Addr} {vl vu vs : Value} {n : Nat} {Q : Int × Int × Nat → Shared → Prop} (hs : s.heap.IsSliceOf sl vl vu vs) (pl : IsPart vl none) (pu : IsPart vu none) (ps : IsPart vs (some (-1)))
    (h : Q ((n : Int) - 1, -1, n) s) : wpAny (model prog wo) A (Builtin.Slice.sliceApplied (.ref sl) (pure (n : Int))) Q E s := by
  obtain ⟨os, hos, hcs, hds⟩ := id hs
  unfold Builtin.Slice.sliceApplied Builtin.Slice.sliceFields
  refine wpAny_bind (wpAny_bind (wpAny_field hos hds (x := vl) rfl (wpAny_bind (wpAny_field hos hds (x := vu) rfl (wpAny_bind (wpAny_field hos hds (x := vs) rfl (wpAny_pure ?_)))))))
  refine wpAny_bind (HT.slicePart_ ps ?_)
  show wpAny _ _ (if ((-1 : Int) == 0) = true then _ else _) _ _ s
  rw [if_neg (by decide)]
  refine wpAny_bind (HT.slicePart_ pl (wpAny_bind (HT.slicePart_ pu (wpAny_bind (wpAny_pure ?_)))))
  show wpAny _ _ (match Builtin.Slice.sliceAdjust none none (-1) (n : Int) with | (lo, hi) => pure (lo, (-1 : Int), Builtin.Slice.slicePlaces lo hi (-1))) _ _ s
  have e1 : Builtin.Slice.sliceAdjust none none (-1) (n : Int) = ((n : Int) - 1, -1) := rfl
  rw [e1]
  have e2 : Builtin.Slice.slicePlaces ((n : Int) - 1) (-1) (-1) = n := by
    unfold Builtin.Slice.slicePlaces
    rw [if_neg (by decide)]
    split
    · have : ((n : Int) - 1 - -1 - 1) / (- -1) = (n : Int) - 1 := by
        rw [show (- -1 : Int) = 1 by decide, Int.ediv_one]; omega
      rw [this]; omega
    · omega
  show wpAny _ _ (pure ((n : Int) - 1, (-1 : Int), Builtin.Slice.slicePlaces ((n : Int) - 1) (-1) (-1))) _ _ s
  rw [e2]
  exact wpAny_pure h
theorem getItem_tuple_rev {t sl : Addr} {items : Array Value} {vl vu vs : Value} {Q : Value → Shared → Prop} (ht : IsTup s.heap t items) (hs : s.heap.IsSliceOf sl vl vu vs) (pl : IsPart vl none) (pu : IsPart vu none) (ps : IsPart vs (some (-1)))
    (h : Q (.ref s.heap.objs.size) { s with heap := s.heap.push { cls := .type "tuple", data := .seq items.toList.reverse.toArray } })
    (hsz : items.size ≤ sizeLine) : wpAny (model prog wo) A (getItem (.ref t) (.ref sl)) Q E s := by
  have htake : sizeOk (.seq items.toList.reverse.toArray) := by
    show items.toList.reverse.toArray.size ≤ sizeLine
    rw [List.size_toArray, List.length_reverse, Array.length_toList]; exact hsz
  obtain ⟨os, hos, hcs, hds⟩ := id hs
  have hTs : s.TypeIs (.ref sl) "slice" := ⟨os, hos, hcs⟩
  unfold getItem
  try with_reducible refine wpAny_holding ?_
  first | refine wpAny_bind (wpAny_pure ?_) | skip
  refine wpAny_bind (wpAny_sequenceKey ht.typeIs (by decide) ?_)
  refine wpAny_bind (wpAny_callSpecial?_slot (name := Str.ofString "__getitem__") ht.typeIs PyProof.Rows.slot_tuple_getitem
    (wpAny_call_entry PyProof.Rows.slot_tuple_getitem ht.typeIs entry_tuple_getitem ?_ (args_tuple_getitem _ _)))
  show wpAny _ _ (Builtin.Tuple.tupleItemsOf (.ref t) >>= _) _ _ s
  refine wpAny_bind (tupleItemsOf_ ht ?_)
  refine wpAny_bind (wpAny_typeOf hTs ?_)
  rw [if_pos (by decide)]
  refine wpAny_bind (sliceRev hs pl pu ps ?_)
  have hno : ¬ ((((items.size : Int) - 1) == 0 && (-1 : Int) == 1 && items.size == items.size) = true) := by
    intro q
    rw [Bool.and_eq_true, Bool.and_eq_true] at q
    exact absurd q.1.2 (by decide)
  show wpAny _ _ (if (((items.size : Int) - 1) == 0 && (-1 : Int) == 1 && items.size == items.size) = true then _ else _) _ _ s
  rw [if_neg hno, rev_pick]
  first
    | exact wpAny_bind (m := Builtin.Tuple.tupleExact _) (wpAny_newObj_type (wpAny_pure ⟨_, rfl, wpAny_pure h⟩) htake)
    | exact wpAny_bind (m := Builtin.Tuple.tupleExact _) (wpAny_newObj_type (wpAny_bind (wpAny_pure (wpAny_pure ⟨_, rfl, wpAny_pure h⟩))) htake)
end
def tRevA (K : PySem.W.Frag) (te : TE) : TE := fun σ H Q => te σ H fun x H1 => ∃ a xs, x = .ref a ∧ ((SqL K H1 a xs ∧ ∀ p, H1 p = none → Q (.ref p) (upd H1 p (.lst xs.reverse))) ∨ (SqT K H1 a xs ∧ ∀ p, H1 p = none → Q (.ref p) (upd H1 p (.tup xs.reverse))))
theorem pe_revA {X : Cx} {e : Expr} {te : TE} {k : Nat} {p1 p2 p3 pos : Pos} (he : PE X e te) : PE X (.Subscript e (.Slice none none (some (.UnaryOp .USub (.Constant (.int 1) k p1) p2)) p3) pos) (tRevA X.K te) := by
  refine ⟨fun pins s σ H Q I h => ?_⟩
  refine Subscript_ (thn (he.run pins s σ H _ I h) fun v s1 ⟨x, H1, I1, r1, q1⟩ => ?_)
  obtain ⟨a, xs, ex, q⟩ := q1
  subst ex
  cases r1
  have hst : PO X (some (.UnaryOp .USub (.Constant (.int 1) k p1) p2)) (tPart (tUn (rU fun i => .int (-i)) (tC (.int 1)))) := po_some (pe_un un_neg pe_int)
  refine wpAny_Slice (thn (po_none.run pins s1 σ H1 (fun o H2 => o = none ∧ H2 = H1) I1 ⟨rfl, rfl⟩) fun vl s2 ⟨l, H2, I2, pl, el, e2⟩ => ?_)
  subst el e2
  refine thn (po_none.run pins s2 σ H2 (fun o H3 => o = none ∧ H3 = H2) I2 ⟨rfl, rfl⟩) fun vu s3 ⟨u, H3, I3, pu, eu, e3⟩ => ?_
  subst eu e3
  refine thn (hst.run pins s3 σ H3 (fun o H4 => o = some (-1) ∧ H4 = H3) I3 ⟨1, rfl, -1, rfl, rfl, rfl⟩) fun vs s4 ⟨o, H4, I4, ps, eo, e4⟩ => ?_
  subst eo e4
  have I5 : Inv X pins σ H4 { s4 with heap := s4.heap.push { cls := .type "slice", data := .fields #[vl, vu, vs] } } := I4.kept (t' := s4.toks) fun b ob q => Heap.get?_push_of_some _ q
  show wpAny (model X.prog X.w) X.A (subscriptTail e (.Slice none none (some (.UnaryOp .USub (.Constant (.int 1) k p1) p2)) p3) (.ref a) (.ref s4.heap.objs.size)) (EP X pins σ Q) X.xe { s4 with heap := s4.heap.push { cls := .type "slice", data := .fields #[vl, vu, vs] } }
  rcases q with ⟨hx, q⟩ | ⟨hx, q⟩
  · obtain ⟨its, r, ht, hz⟩ := I5.list hx
    have hlen := r.length
    refine tail_any (ops := [.ref a, .ref s4.heap.objs.size]) ht.isList.typeIs (PySem.slot_list_getitem.lookup) ?_ (by with_unfolding_all rfl)
    refine wpAny_getItem_list_slice ht.isList (Heap.IsSliceOf.new _ vl vu vs) pl pu ps (by decide) ?_ (by rw [List.size_toArray]; omega)
    rw [PySem.W.krv_pick]
    refine ⟨.ref _, _, I5.laid (t' := s4.toks) (o := .lst xs.reverse) (fun b ob q => Heap.get?_push_of_some _ q) (Nat.le_refl _) ?_, rfl, q _ (I5.hok.fresh (Nat.le_refl _))⟩
    exact ⟨by rw [List.length_reverse]; exact hz, _, 0, r.reverse, Heap.get?_push_size _ rfl⟩
  · obtain ⟨its, r, ht, hz⟩ := I5.tuple hx
    have hlen := r.length
    refine tail_any (ops := [.ref a, .ref s4.heap.objs.size]) ht.typeIs PyProof.Rows.slot_tuple_getitem.lookup ?_ (by with_unfolding_all rfl)
    refine getItem_tuple_rev ht (Heap.IsSliceOf.new _ vl vu vs) pl pu ps ?_ (by rw [List.size_toArray]; omega)
    refine ⟨.ref _, _, I5.laid (t' := s4.toks) (o := .tup xs.reverse) (fun b ob q => Heap.get?_push_of_some _ q) (Nat.le_refl _) ?_, rfl, q _ (I5.hok.fresh (Nat.le_refl _))⟩
    exact ⟨by rw [List.length_reverse]; exact hz, _, r.reverse, IsTup.new _ _⟩
section
variable {X : Cx} {px : Px} {W : WX} {a b c : Expr} {fa fb fc : Ev → Hs → R D} {pos : Pos} {es : List Expr} {fr : Ev → Hs → R (List D)}
theorem se_neg (ha : SE X px W a fa) : SE X px W (.UnaryOp .USub a pos) (fun e h => (fa e h).bind fun x h => match x with
    | .int i => .ok (.int (-i)) h
    | _ => .bad) := by
  refine PE.of (pe_un un_neg ha) fun σ H Q ⟨w, e, h, p⟩ => ⟨w, e, h, p.bind.imp fun x H1 ⟨d, h1, w1, _, x1, v1, p1⟩ => ?_⟩
  obtain ⟨i, rfl⟩ : ∃ i, d = .int i := by cases d <;> first | exact ⟨_, rfl⟩ | exact p1.po.elim
  exact ⟨i, vInt v1, p1.done (.int _)⟩
theorem se_rev {k : Nat} {p1 p2 p3 : Pos} (ha : SE X px W a fa) : SE X px W (.Subscript a (.Slice none none (some (.UnaryOp .USub (.Constant (.int 1) k p1) p2)) p3) pos) (fun e h => (fa e h).bind fun x h => R.of (dRev x) h) := by
  refine PE.of (pe_revA ha) fun σ H Q ⟨w, e, h, p⟩ => ⟨w, e, h, p.bind.imp fun x H1 ⟨d, h1, w1, _, x1, v1, p1⟩ => ?_⟩
  obtain ⟨d', ed, p2⟩ := p1.nobad
  unfold dRev at ed
  split at ed
  · cases ed
    obtain ⟨a, xs, rfl, hq, r⟩ := vTup v1
    exact ⟨a, xs, rfl, .inr ⟨sqt hq, fun q hq => p2.newT hq r.reverse⟩⟩
  · cases e1 : d.ls? with
    | none => rw [e1] at ed; cases ed
    | some ds =>
      rw [e1] at ed
      cases ed
      obtain ⟨a, xs, rfl, hq, r⟩ := v1.ls e1
      exact ⟨a, xs, rfl, .inl ⟨hq, fun q hq => p2.newL hq r.reverse⟩⟩
/-- a list of the heap's own -/
theorem HR.push {K : PySem.W.Frag} {w : Wd} {h : Hs} {H : Hp} {q : Addr} {xs : List V} {ds : List D} (r : HR K w h H) (hq : H q = none) (nf : ¬ w.forb q) (hv : VRs K w H ds xs) (hk : ds.all D.keep = true) :
    Ext w H { w with hp := w.hp ++ [q] } (upd H q (.lst xs)) ∧ HR K { w with hp := w.hp ++ [q] } (h ++ [.lst ds]) (upd H q (.lst xs)) := by
  have x : Ext w H { w with hp := w.hp ++ [q] } (upd H q (.lst xs)) := ⟨⟨[q], rfl, fun a m => by rw [List.mem_singleton.mp m]; exact hq⟩, rfl, fun _ h => h, fun _ h => .inl h, (Ext.new0 (w := w) hq).keep, (Ext.new0 (w := w) hq).tups, (Ext.new0 (w := w) (o := .lst xs) hq).dom⟩
  refine ⟨x, ⟨?_, ?_, fun i a o h1 h2 => ?_, fun a ha => ?_, fun a z y => ?_⟩⟩
  · show (w.hp ++ [q]).length = _
    rw [List.length_append, List.length_append, r.len]; rfl
  · show (w.hp ++ [q]).Nodup
    rw [List.nodup_append]
    exact ⟨r.nd, by simp, fun a ha b hb => by rw [List.mem_singleton.mp hb]; exact fun e => nf (.inl (e ▸ ha))⟩
  · by_cases hi : i < h.length
    · have h1 : (w.hp ++ [q])[i]? = some a := h1
      rw [List.getElem?_append_left (by rw [r.len]; exact hi)] at h1
      rw [List.getElem?_append_left hi] at h2
      have z := r.ob i a o h1 h2
      cases o with
      | lst es =>
        obtain ⟨ys, z1, z2, z3⟩ := z
        exact ⟨ys, by rw [upd_ne (ne_of_none z1 hq)]; exact z1, z2.ext x, z3⟩
      | ins c fs => exact z
    · have e : i = h.length := by
        have := (List.getElem?_eq_some_iff.mp h2).1
        rw [List.length_append] at this
        simp only [List.length_singleton] at this
        omega
      subst e
      have h1 : (w.hp ++ [q])[h.length]? = some a := h1
      rw [← r.len, List.getElem?_concat_length] at h1
      rw [List.getElem?_concat_length] at h2
      cases h1
      cases h2
      exact ⟨xs, upd_same, hv.ext x, hk⟩
  · rcases List.mem_append.mp ha with z | z
    · exact r.sep a z
    · rw [List.mem_singleton.mp z]
      exact ⟨fun y => nf (.inr (.inl y)), fun y => nf (.inr (.inr y))⟩
  · by_cases ha : a = q
    · rw [ha, upd_same] at y; cases y
    · rw [upd_ne ha] at y; exact r.prd a z y
theorem se_mls (ha : SA X px W es fr) (hl : es.length ≤ 1000) (hn : ∀ e h ds h', fr e h = .ok ds h' → ds.length = es.length) : SE X px W (.List es pos) (fun e h => (fr e h).bind fun ds h => if ds.all D.keep then .ok (.ref h.length) (h ++ [.lst ds]) else .bad) := by
  refine PE.of (pe_lst ha) fun σ H Q ⟨w, e, h, p⟩ => ?_
  refine ⟨w, e, h, p.bind.imp fun x H1 ⟨d1, h1, w1, e1, x1, v1, p1⟩ => ?_⟩
  split at p1
  · rename_i hk
    have v2 := VTs.keep v1 hk
    refine ⟨by rw [← v2.length, hn _ _ _ _ e1, sizeLine_eq]; omega, fun q hq => ?_⟩
    obtain ⟨y1, y2⟩ := p1.rr.hr.push hq (p1.rr.free hq) v2 hk
    refine p1.po (.ref q) _ _ y1 y2 (p1.rr.new hq).tb (.of (.of (.ref ?_)))
    show (w1.hp ++ [q])[h1.length]? = some q
    rw [← p1.rr.hr.len, List.getElem?_concat_length]
  · exact p1.po.elim
end
end Tv
end

section
set_option autoImplicit false
set_option maxHeartbeats 1000000
/-! Further statements. -/
namespace Tv
open PySem PySem.Spec PyProof.Rows L2
section
variable {X : Cx} {px : Px} {W : WX} {sts : List Stmt} {f g : Ev → Hs → R Fl} {a b c : Expr} {fa fb fc : Ev → Hs → R D} {pos pos' pos2 p apos cpos : Pos} {i j : Nat} {x y : Str}
/-! ### a[b], i = c -/
def fSd2 (fa fb : Ev → Hs → R D) (i : Nat) (fc : Ev → Hs → R D) : Ev → Hs → R Fl := fun e h => (fc e h).bind fun z h => (match z with
    | .tup [p, q] => (fa e h).bind fun x h => (fb e h).bind fun y h => (match x, y with
      | .ref r, .int j => (match h[r]? with
        | some (.lst xs) => (match setL xs j p with
          | some ys => .ok (.nx (e.put i (.v q))) (h.set r (.lst ys))
          | none => .bad)
        | _ => .bad)
      | _, _ => .bad)
    | _ => .bad)
mutual
theorem VR.kp {K : PySem.W.Frag} {w : Wd} {H : Hp} : ∀ {d : D} {v : V}, VR K w H d v → d.keep = true
  | _, _, .non => rfl
  | _, _, .bl b => rfl
  | _, _, .int i => rfl
  | _, _, .str s => rfl
  | _, _, .tup q r => rfl
  | _, _, .lst n q r => rfl
  | _, _, .dct n nd q => rfl
  | _, _, .ref q => rfl
end
theorem vr_tup2 {K : PySem.W.Frag} {w : Wd} {H : Hp} {d1 d2 : D} {v : V} (h : VR K w H (.tup [d1, d2]) v) : ∃ t v1 v2, v = .ref t ∧ SqT K H t [v1, v2] ∧ VR K w H d1 v1 ∧ VR K w H d2 v2 := by
  cases h with
  | tup q r => cases r with
    | cons a r => cases r with
      | cons b r => cases r; exact ⟨_, _, _, rfl, .inl (.inl q), a, b⟩
theorem asg_sub (h : nsl b = true) : ∀ v, assign (.Subscript a b pos2) X.env v = (do
      let ov ← holding [v] (eval a X.env)
      let iv ← holding [v, ov] (eval b X.env)
      standAt pos2
      holding [v, ov, iv] (setItem ov iv v)
      release [v, ov, iv] []) := by
  intro v
  cases b <;> first | rfl | cases h
theorem ss_sd2 {kk : Nat} (hcal : X.calm = true) (hN : X.N.Nodup) (hn : NmOk X x i) (ha' : SE X px W a fa) (hb : SE X px W b fb) (hc : SE X px W c fc) (hsl : nsl b = true)
    (hs : swapsWithSole [.Tuple [.Subscript a b pos2, .Name x p] kk pos'] c pos.line X.env = pure false) (hw : swappedStores [.Tuple [.Subscript a b pos2, .Name x p] kk pos'] c X.env = pure none) : SS X px W (.Assign [.Tuple [.Subscript a b pos2, .Name x p] kk pos'] c pos) (fSd2 fa fb i fc) := by
  refine PS.of (ps_asg hc (pg_tup (n := 2) hcal (pgs_cons (pg_sub ha' hb set_list (asg_sub hsl)) (pgs_cons (pg_name hN hn.1 hn.2.1 hn.2.2) pgs_nil))) hs hw) fun En σ H ⟨w, e, h, p⟩ => ?_
  refine ⟨w, e, h, p.bind.imp fun v H1 ⟨d, h1, w1, _, x1, v1, p1⟩ => ?_⟩
  obtain ⟨d1, d2, rfl⟩ : ∃ d1 d2, d = .tup [d1, d2] := by
    split at p1
    · exact ⟨_, _, rfl⟩
    · exact p1.po.elim
  obtain ⟨t, u1, u2, rfl, hq, r1, r2⟩ := vr_tup2 (VT.keep v1 rfl)
  refine ⟨t, [u1, u2], rfl, hq, rfl, u1, [u2], rfl, w1, e, h1, PrS.bind p1 |>.imp fun u H2 ⟨dx, h2, w2, _, x2, v2, p2⟩ => ⟨w2, e, h2, p2.bind.imp fun u' H3 ⟨dy, h3, w3, _, x3, v3, p3⟩ => ?_⟩⟩
  obtain ⟨r, rfl⟩ : ∃ r, dx = .ref r := by cases dx <;> first | exact ⟨_, rfl⟩ | exact p3.po.elim
  obtain ⟨k, rfl⟩ : ∃ k, dy = .int k := by cases dy <;> first | exact ⟨_, rfl⟩ | exact p3.po.elim
  obtain rfl := vInt v3
  dsimp only at p3
  split at p3
  · rename_i xs e1
    cases e2 : setL xs k d1 with
    | none => rw [e2] at p3; exact p3.po.elim
    | some ys =>
      rw [e2] at p3
      obtain ⟨j, e3, rfl⟩ := setL_of e2
      obtain ⟨q, us, rfl, t2, t3, t4, t5⟩ := p3.rr.heap e1 (ref_at (v2.ext x3))
      have r1' := (r1.ext x2).ext x3
      obtain ⟨y1, x4⟩ := t5 _ _ (VRs.set_ r1' t3 j) (keep_set t4 r1'.kp)
      refine ⟨q, us, k, j, rfl, rfl, t2, by rw [← t3.length]; exact e3, u2, [], rfl, rfl, ?_⟩
      exact p3.done x4 ⟨y1.hr, y1.er.put i (.of (((r2.ext x2).ext x3).exts x4)), y1.tb⟩
  · exact p3.po.elim
/-! ### i = j, the list j's own -/
/-- the value of a name, told -/
def fMv (i j : Nat) : Ev → Hs → R Fl := fun e h => (match e.get j with
    | .o xs => .ok (.nx ((e.put j .u).put i (.o xs))) h
    | _ => .bad)
theorem RR.mv {K : PySem.W.Frag} {w : Wd} {e : Ev} {h : Hs} {σ : L2.St} {H : Hp} (r : RR K px w e h σ H) {i j : Nat} (hij : i ≠ j) {ds : List D} (hj : e.get j = .o ds) : ∃ a, σ[j]? = some (some (.ref a)) ∧ RR K px ((w.put j none).put i (some a)) ((e.put j .u).put i (.o ds)) h (σ.set i (some (.ref a))) H ∧ ExtS w H ((w.put j none).put i (some a)) H := by
  have q := r.er.sl j
  rw [hj] at q
  obtain ⟨a, xs, q1, q2, q3, q4, q5⟩ := q
  have m : some a ∈ w.ow := List.mem_iff_getElem?.mpr ⟨j, q2⟩
  have sub : ∀ b, some b ∈ ((w.put j none).put i (some a)).ow → some b ∈ w.ow := fun b z => by
    rcases mem_set z with y | y
    · rcases mem_set y with y | y
      · exact y
      · cases y
    · rw [Option.some.inj y]; exact m
  have x : ExtS w H ((w.put j none).put i (some a)) H := ⟨⟨[], by simp [Wd.put], fun _ h => by cases h⟩, fun b z => by
    rcases z with z | z | z
    · exact .inl (.inl z)
    · exact .inl (.inr (.inl (sub b z)))
    · exact .inl (.inr (.inr z)), fun _ _ h _ _ _ => h, fun _ _ h => h, fun b z => .inl (sub b z), fun _ h => h, fun _ h => h⟩
  have hjl : j < σ.length := (List.getElem?_eq_some_iff.mp q1).1
  have at_ : ∀ (k : Nat) (b : Addr), ((w.put j none).put i (some a)).ow[k]? = some (some b) → (k = i ∧ b = a) ∨ (k ≠ i ∧ k ≠ j ∧ w.ow[k]? = some (some b)) := fun k b z => by
    rcases get_set z with ⟨a1, a2, _⟩ | ⟨a1, a2⟩
    · exact .inl ⟨a1, Option.some.inj a2⟩
    · rcases get_set a2 with ⟨_, c2, _⟩ | ⟨c1, c2⟩
      · cases c2
      · exact .inr ⟨a1, c1, c2⟩
  refine ⟨a, q1, ⟨r.hr.exts x rfl (fun b z y => (r.hr.sep b y).1 (sub b z)) fun b => Iff.rfl, ⟨?_, ?_, fun k => ?_, fun k l b z1 z2 => ?_, fun k b z => ?_⟩, r.tb⟩, x⟩
  · rw [Ev.length_put, Ev.length_put, List.length_set]; exact r.er.len
  · show ((w.ow.set j none).set i _).length = _
    rw [List.length_set, List.length_set, List.length_set]; exact r.er.wl
  · by_cases hk : i = k
    · subst hk
      rcases Ev.get_put (e.put j .u) i (.o ds) with z | ⟨z1, z2⟩
      · rw [z]; trivial
      · rw [z2]
        rw [Ev.length_put, r.er.len] at z1
        refine ⟨a, xs, List.getElem?_set_self z1, ?_, q3, q4.exts x, q5⟩
        show ((w.ow.set j none).set i _)[i]? = _
        exact List.getElem?_set_self (by rw [List.length_set, r.er.wl]; exact z1)
    · rw [Ev.get_put_ne _ _ hk, List.getElem?_set_ne hk]
      by_cases hk2 : j = k
      · subst hk2
        rcases Ev.get_put e j .u with z | ⟨_, z⟩ <;> (rw [z]; trivial)
      · rw [Ev.get_put_ne _ _ hk2]
        refine SlR.oth x (fun b q => ⟨?_, fun o z _ => z⟩) (r.er.sl k)
        show ((w.ow.set j none).set i _)[k]? = _
        rw [List.getElem?_set_ne hk, List.getElem?_set_ne hk2]; exact q
  · rcases at_ k b z1 with ⟨a1, a2⟩ | ⟨a1, a2, a3⟩ <;> rcases at_ l b z2 with ⟨b1, b2⟩ | ⟨b1, b2, b3⟩
    · rw [a1, b1]
    · rw [a2] at b3
      exact (b2 (r.er.inj l j a b3 q2)).elim
    · rw [b2] at a3
      exact (a2 (r.er.inj k j a a3 q2)).elim
    · exact r.er.inj k l b a3 b3
  · rcases at_ k b z with ⟨a1, a2⟩ | ⟨a1, a2, a3⟩
    · rw [a2]; exact r.er.ot j a q2
    · exact r.er.ot k b a3
theorem ss_mv (hN : X.N.Nodup) (hn : NmOk X x i) (hr : RdOk X y j) (hij : i ≠ j) (hs : swapsWith (.Name y p) (some (.Name x pos')) pos.line X.env = pure false) : SS X px W (.Assign [.Name x pos'] (.Name y p) pos) (fMv i j) := by
  refine PS.of (ps_set hN hn.1 hn.2.1 hr.pe hs hn.2.2) fun En σ H ⟨w, e, h, p⟩ => ?_
  unfold fMv at p
  cases e1 : e.get j with
  | o xs =>
    rw [e1] at p
    obtain ⟨a, s1, r1, x1⟩ := p.rr.mv hij e1
    exact ⟨.ref a, s1, p.done x1 r1⟩
  | u => rw [e1] at p; exact p.po.elim
  | v d => rw [e1] at p; exact p.po.elim
  | k kvs => rw [e1] at p; exact p.po.elim
/-! ### i, j = a, b, stored one by one -/
def fPar (i j : Nat) (fa fb : Ev → Hs → R D) : Ev → Hs → R Fl := fun e h => (fa e h).bind fun x h => (fb e h).bind fun y h => if x.keep && y.keep then .ok (.nx ((e.put i (.v x)).put j (.v y))) h else .bad
theorem ss_par {kt k2 : Nat} {px' py' pt pt2 : Pos} (hcal : X.calm = true) (hN : X.N.Nodup) (hn : NmOk X x i) (hm : NmOk X y j) (hij : i ≠ j) (hx : X.env.scope.names.lookup x = some .local) (hy : X.env.scope.names.lookup y = some .local) (ha : SE X px W a fa) (hb : SE X px W b fb) (sa : nst a = true) (sb : nst b = true)
    (hw : swappedStores [.Tuple [.Name x px', .Name y py'] kt pt] (.Tuple [a, b] k2 pt2) X.env = pure (some [x, y])) : SS X px W (.Assign [.Tuple [.Name x px', .Name y py'] kt pt] (.Tuple [a, b] k2 pt2) pos) (fPar i j fa fb) := by
  refine PS.of (ps_par hcal hN hn.1 hm.1 hij hx hy (pa_cons ha (pa_cons hb pa_nil (star_ok sb)) (star_ok sa)) hw) fun En σ H ⟨w, e, h, p⟩ => ?_
  refine ⟨w, e, h, p.bind.imp fun v H1 ⟨d, h1, w1, _, x1, v1, p1⟩ => ⟨w1, e, h1, p1.bind.imp fun u H2 ⟨d2, h2, w2, _, x2, v2, p2⟩ => ?_⟩⟩
  split at p2
  · rename_i hk
    rw [Bool.and_eq_true] at hk
    exact ⟨v, u, rfl, p2.done (ExtS.refl _ _) ⟨p2.rr.hr, (p2.rr.er.put i (.of ((VT.keep v1 hk.1).ext x2))).put j (.of (VT.keep v2 hk.2)), p2.rr.tb⟩⟩
  · exact p2.po.elim
/-! ### raise -/
theorem ss_raise {cn m : Str} {C : Addr} {ci jj : Nat} {bmB : List Value} {B newId initId : String} {p2 : Pos} (hc : X.calm = true) (tk : Takes X W) (F : ExcBaseFacts B newId initId bmB) (q : PySem.W.excIn X.K C bmB newId = true) (gC : X.mg cn = some (.ref C)) (kC : PySem.W.keepIn X.K (.ref C) = true) (r : Raises X (.ref C)) (hg : Gl X cn)
    (hdb : (cn == ("__debug__" : Str)) = false) (hC : px.ex ci = C) (h16 : ci ≠ 16) : SS X px W (.Raise (some (.Call (.Name cn p) [.Constant (.str m) jj p2] [] pos2)) none pos) (fun _ h => .exc (.exc ci (.str m)) h) := by
  refine PS.of (ps_raise hc tk (pmk_own F q gC kC r hg hdb)) fun En σ H ⟨w, e, h, p⟩ => ?_
  exact p.po _ none w σ H (ExtS.refl _ _) p.rr.hr p.rr.tb ⟨by rw [hC], fun _ => rfl, fun z => absurd z h16⟩
end
end Tv
end

section
set_option autoImplicit false
set_option maxHeartbeats 1000000
/-! Calls of the program's own defs. -/
namespace Tv
open PySem PySem.Spec PyProof.Rows L2
inductive VSs (K : PySem.W.Frag) (w : Wd) (H : Hp) : List D → List V → Prop
  | nil : VSs K w H [] []
  | cons {d : D} {v : V} {ds : List D} {vs : List V} : VS K w H d v → VSs K w H ds vs → VSs K w H (d :: ds) (v :: vs)
def PostF (K : PySem.W.Frag) (px : Px) (w : Wd) (H : Hp) (Q : VK) (E : XK) : R D → Prop
  | .ok d h' => ∀ v w' H', ExtS w H w' H' → HR K w' h' H' → LamX.Tabs px.T H' → VR K w' H' d v → Q v H'
  | .exc x h' => ∀ cls dd w' H', ExtS w H w' H' → HR K w' h' H' → LamX.Tabs px.T H' → XR px H' x cls dd → E cls dd H'
  | .bad => False
/-- what a def promises: F, by values -/
def spF (K : PySem.W.Frag) (px : Px) (F : List D → Hs → R D) (vs : List V) (H : Hp) (Q : VK) (E : XK) : Prop :=
  ∃ w h ds, w.ow = [] ∧ HR K w h H ∧ LamX.Tabs px.T H ∧ VSs K w H (ds.map D.hand) vs ∧ PostF K px w H Q E (F ds h)
def CallG (P : Program) (wo : World) (K : PySem.W.Frag) (mg : Str → Option Value) (base : Heap) (px : Px) (k : Nat) (f : Addr) (fd : FuncData) (ps : List Str) (F : List D → Hs → R D) : Prop :=
  ∀ (A : Around) (outer : List Env) (s : Shared) (H : Hp) (ar : Args) (us : List Value) (vs : List V) (Q : VK) (E : XK), Room (k + 3) A → A.guards = some [] → Env0 P wo K mg base A outer s H → BindsTo s fd ar (ps.zip us) → Vals vs us → vs.length = ps.length → spF K px F vs H Q E →
    codeAny (model P wo) A (.call (.ref f) ar) (CR (L2.CX P wo) outer P wo H s Q E) s
/-- how a def's names bind: all written, or the last one left out -/
structure BindX (K : PySem.W.Frag) (fd : FuncData) (ps : List Str) (o : Option Int) : Prop where
  full : Binds K fd ps []
  short : ∀ i, o = some i → ∃ t, Binds K fd ps [.int i t]
section
variable {K : PySem.W.Frag} {px : Px} {w : Wd} {H : Hp} {h : Hs}
theorem VSs.len : ∀ {ds : List D} {vs : List V}, VSs K w H ds vs → ds.length = vs.length
  | _, _, .nil => rfl
  | _, _, .cons _ r => congrArg (· + 1) (VSs.len r)
theorem VTs.len : ∀ {ds : List D} {vs : List V}, VTs K w H ds vs → ds.length = vs.length
  | _, _, .nil => rfl
  | _, _, .cons _ r => congrArg (· + 1) (VTs.len r)
/-- the callee's world: nothing is owned -/
def Wd.call (w : Wd) : Wd := ⟨w.hp, [], fun a => w.pr a ∨ some a ∈ w.ow⟩
theorem Wd.call_forb {a : Addr} : w.call.forb a ↔ w.forb a := by
  constructor
  · rintro (z | z | z | z)
    · exact .inl z
    · cases z
    · exact .inr (.inr z)
    · exact .inr (.inl z)
  · rintro (z | z | z)
    · exact .inl z
    · exact .inr (.inr (.inr z))
    · exact .inr (.inr (.inl z))
theorem VT.hand {d : D} {v : V} (q : VT K w H d v) : VS K w.call H d.hand v := by
  have e : w.call.hp = w.hp := rfl
  cases q with
  | of q =>
    cases q with
    | of q =>
      have k := q.kp
      have e2 : d.hand = d := by cases d <;> first | rfl | cases k
      rw [e2]
      exact .of (VR.weak e (fun a z => Wd.call_forb.mp z) q)
    | scr n1 n2 q r => exact .scr n1 (by intro z; cases z) q (VRs.weak e (fun a z => Wd.call_forb.mp z) r)
    | scrK q r => exact .scrK q (VRs.weak e (fun a z => Wd.call_forb.mp z) r)
  | bor m n q r => exact .scr n (by intro z; cases z) (.inl q) (VRs.weak e (fun a z => Wd.call_forb.mp z) r)
theorem VTs.hands : ∀ {ds : List D} {vs : List V}, VTs K w H ds vs → VSs K w.call H (ds.map D.hand) vs
  | _, _, .nil => .nil
  | _, _, .cons a r => .cons a.hand r.hands
theorem VSs.snoc {i : Int} : ∀ {ds : List D} {vs : List V}, VSs K w H (ds.map D.hand) vs → VSs K w H ((ds ++ [D.int i]).map D.hand) (vs ++ [V.int i])
  | [], _, .nil => .cons (.of (.int i)) .nil
  | _ :: _, _, .cons a r => .cons a (VSs.snoc r)
theorem HR.weak {w' : Wd} (r : HR K w h H) (e : w'.hp = w.hp) (hf : ∀ a, w'.forb a → w.forb a) (hs : ∀ a, a ∈ w.hp → some a ∉ w'.ow ∧ ¬ w'.pr a) (hp : ∀ a, w'.pr a → H a ≠ none) : HR K w' h H where
  len := by rw [e]; exact r.len
  nd := by rw [e]; exact r.nd
  ob := fun i a o h1 h2 => by
    rw [e] at h1
    have q := r.ob i a o h1 h2
    cases o with
    | lst ds =>
      obtain ⟨xs, q1, q2, q3⟩ := q
      exact ⟨xs, q1, VRs.weak e hf q2, q3⟩
    | ins c fs => exact q
  sep := fun a ha => hs a (by rw [← e]; exact ha)
  prd := hp
theorem RR.call {e : Ev} {σ : L2.St} (r : RR K px w e h σ H) : HR K w.call h H := by
  refine r.hr.weak rfl (fun a z => Wd.call_forb.mp z) (fun a ha => ⟨(fun z => by cases z), fun z => ?_⟩) fun a z => ?_
  · rcases z with z | z
    · exact (r.hr.sep a ha).2 z
    · exact (r.hr.sep a ha).1 z
  · rcases z with z | z
    · exact r.hr.prd a z
    · obtain ⟨i, hi⟩ := List.mem_iff_getElem?.mp z
      exact (r.er.ot i a hi).1
/-- back from a callee -/
def Wd.back (w wc : Wd) : Wd := ⟨wc.hp, w.ow, w.pr⟩
theorem Wd.back_forb {wc : Wd} {H' : Hp} (x : ExtS w.call H wc H') {a : Addr} (z : (w.back wc).forb a) : wc.forb a := by
  rcases z with z | z | z
  · exact .inl z
  · exact .inr (.inr (x.pr a (.inr z)))
  · exact .inr (.inr (x.pr a (.inl z)))
theorem Ext.back {wc : Wd} {H' : Hp} (x : ExtS w.call H wc H') : Ext w H (w.back wc) H' := ⟨x.pre, rfl, fun _ h => h, fun _ h => .inl h, fun a o h n t => x.keep a o h n (by intro z; cases z) t, x.tups, x.dom⟩
theorem HR.back {wc : Wd} {H' : Hp} {h' : Hs} (x : ExtS w.call H wc H') (r : HR K wc h' H') : HR K (w.back wc) h' H' :=
  r.weak rfl (fun a z => Wd.back_forb x z) (fun a ha => ⟨fun z => (r.sep a ha).2 (x.pr a (.inr z)), fun z => (r.sep a ha).2 (x.pr a (.inl z))⟩) fun a z => r.prd a (x.pr a (.inl z))
end
section
variable {X : Cx} {px : Px} {W : WX} {a : Expr} {es : List Expr} {fr : Ev → Hs → R (List D)} {F : List D → Hs → R D} {k : Nat} {f : Addr} {fd : FuncData} {ps : List Str} {x : Str} {p pos : Pos}
theorem se_call (G : CallG X.prog X.w X.K X.mg X.base px k f fd ps F) (hr : Room (k + 3) X.A) (gd : X.A.guards = some []) (tk : Takes X W) (hg : Gl X x) (hm : X.mg x = some (.ref f)) (hk : PySem.W.keepIn X.K (.ref f) = true) (hb : Binds X.K fd ps [])
    (ha : SA X px W (a :: es) fr) (hs : (a :: es).all nst = true) (hn : ∀ e h ds h', fr e h = .ok ds h' → ds.length = ps.length) (hdb : (x == ("__debug__" : Str)) = false) : SE X px W (.Call (.Name x p) (a :: es) [] pos) (fun e h => (fr e h).bind F) := by
  rw [List.all_cons, Bool.and_eq_true] at hs
  refine ⟨fun pins s σ H Q I q => ?_⟩
  obtain ⟨w, e, h, p⟩ := q
  refine wpAny_Call_Name_kw (ld_glob I hg hm ?_ hdb)
  refine PySem.W.callWith_K (h₀ := X.base) I.ok.mod.kin hk (thn (ha.run pos pins s σ H _ I ⟨w, e, h, p.bind⟩) fun us s1 ⟨vs, H1, I1, r, ds, h1, w1, e1, x1, v1, p1⟩ => ⟨I1.kIn, ?_⟩) (star_ok hs.1) (stars_any hs.2)
  have hl : vs.length = ps.length := by rw [← VTs.len v1]; exact hn _ _ _ _ e1
  have b := hb s1 us I1.kIn (by rw [List.append_nil, ← r.length]; exact hl)
  rw [List.append_nil] at b
  refine wpAny_call (codeAny_mono (G X.A X.stack s1 H1 ⟨us, []⟩ us vs Q (WE W σ) hr gd I1.env0 b r hl ⟨w1.call, h1, ds, rfl, p1.rr.call, p1.rr.tb, v1.hands, ?_⟩) fun r s' hq => ?_)
  · have q := p1.po
    cases e2 : F ds h1 with
    | bad => rw [e2] at q; exact q
    | exc y h' => rw [e2] at q; exact fun cls dd w' H' y1 y2 y3 y4 => q cls dd _ H' (Ext.back y1) (HR.back y1 y2) y3 y4
    | ok d h' =>
      rw [e2] at q
      intro v w' H' y1 y2 y3 y4
      have e3 : (w1.back w').hp = w'.hp := rfl
      exact q v _ H' (Ext.back y1) (HR.back y1 y2) y3 (.of (.of (VR.weak e3 (fun a z => Wd.back_forb y1 z) y4)))
  · cases r with
    | error u => exact passAt tk σ pins H1 s1 u s' I1 hq
    | ok fl =>
      cases fl with
      | ret u => exact I1.after hq
      | next => exact False.elim hq
      | brk => exact False.elim hq
      | cont => exact False.elim hq
theorem se_cld {di : Int} (G : CallG X.prog X.w X.K X.mg X.base px k f fd ps F) (hr : Room (k + 3) X.A) (gd : X.A.guards = some []) (tk : Takes X W) (hg : Gl X x) (hm : X.mg x = some (.ref f)) (hk : PySem.W.keepIn X.K (.ref f) = true) {t : Tok} (hb : Binds X.K fd ps [.int di t])
    (ha : SA X px W (a :: es) fr) (hs : (a :: es).all nst = true) (hn : ∀ e h ds h', fr e h = .ok ds h' → ds.length + 1 = ps.length) (hdb : (x == ("__debug__" : Str)) = false) : SE X px W (.Call (.Name x p) (a :: es) [] pos) (fun e h => (fr e h).bind fun ds h => F (ds ++ [.int di]) h) := by
  rw [List.all_cons, Bool.and_eq_true] at hs
  refine ⟨fun pins s σ H Q I q => ?_⟩
  obtain ⟨w, e, h, p⟩ := q
  refine wpAny_Call_Name_kw (ld_glob I hg hm ?_ hdb)
  refine PySem.W.callWith_K (h₀ := X.base) I.ok.mod.kin hk (thn (ha.run pos pins s σ H _ I ⟨w, e, h, p.bind⟩) fun us s1 ⟨vs, H1, I1, r, ds, h1, w1, e1, x1, v1, p1⟩ => ⟨I1.kIn, ?_⟩) (star_ok hs.1) (stars_any hs.2)
  have hl : (vs ++ [V.int di]).length = ps.length := by rw [List.length_append, ← VTs.len v1]; exact hn _ _ _ _ e1
  have b := hb s1 us I1.kIn (by rw [List.length_append, ← r.length]; rw [List.length_append] at hl; exact hl)
  refine wpAny_call (codeAny_mono (G X.A X.stack s1 H1 ⟨us, []⟩ (us ++ [.int di t]) (vs ++ [.int di]) Q (WE W σ) hr gd I1.env0 b (r.append (.cons (show RelV (.int di) (Value.int di t) from ⟨t, rfl⟩) .nil)) hl ⟨w1.call, h1, ds ++ [.int di], rfl, p1.rr.call, p1.rr.tb, v1.hands.snoc, ?_⟩) fun r s' hq => ?_)
  · have q := p1.po
    cases e2 : F (ds ++ [.int di]) h1 with
    | bad => rw [e2] at q; exact q
    | exc y h' => rw [e2] at q; exact fun cls dd w' H' y1 y2 y3 y4 => q cls dd _ H' (Ext.back y1) (HR.back y1 y2) y3 y4
    | ok d h' =>
      rw [e2] at q
      intro v w' H' y1 y2 y3 y4
      have e3 : (w1.back w').hp = w'.hp := rfl
      exact q v _ H' (Ext.back y1) (HR.back y1 y2) y3 (.of (.of (VR.weak e3 (fun a z => Wd.back_forb y1 z) y4)))
  · cases r with
    | error u => exact passAt tk σ pins H1 s1 u s' I1 hq
    | ok fl =>
      cases fl with
      | ret u => exact I1.after hq
      | next => exact False.elim hq
      | brk => exact False.elim hq
      | cont => exact False.elim hq
end
/-! ### a def's promise -/
section
variable {P : Program} {wo : World} {K : PySem.W.Frag} {mg : Str → Option Value} {base : Heap} {px : Px} {k : Nat} {f : Addr} {name qual : Str} {params : Arguments} {body : List Stmt} {scope : Scope} {dV kV doc pm cdv ct oc : Value} {an od : Option Addr} {osl : Array (Option Value)} {N ps : List Str}
theorem VSs.at_ {w : Wd} {H : Hp} : ∀ {ds : List D} {vs : List V}, VSs K w H ds vs → ∀ {i : Nat}, i < ds.length → ∃ d v, ds[i]? = some d ∧ vs[i]? = some v ∧ VS K w H d v
  | _, _, .cons a r, 0, _ => ⟨_, _, rfl, rfl, a⟩
  | _, _, .cons a r, i + 1, h => VSs.at_ r (by simpa using h)
theorem Ev.get_map : ∀ (ds : List D) (r : Ev) (i : Nat) (d : D), ds[i]? = some d → Ev.get (ds.map Sl.v ++ r) i = .v d
  | [], _, _, _, h => by simp at h
  | x :: ds, r, 0, d, h => by cases h; rfl
  | x :: ds, r, i + 1, d, h => Ev.get_map ds r i d h
theorem Ev.get_rep : ∀ (n i : Nat), Ev.get (List.replicate n Sl.u) i = .u
  | 0, _ => rfl
  | n + 1, 0 => rfl
  | n + 1, i + 1 => Ev.get_rep n i
theorem Ev.get_past : ∀ (ds : List D) (r : Ev) (i : Nat), Ev.get (ds.map Sl.v ++ r) (ds.length + i) = Ev.get r i
  | [], r, i => by simp
  | x :: ds, r, i => by
    rw [List.length_cons, show ds.length + 1 + i = (ds.length + i) + 1 by omega]
    exact Ev.get_past ds r i
def Wd.enter (w : Wd) (n : Nat) : Wd := ⟨w.hp, List.replicate n none, w.pr⟩
theorem rep_none {n : Nat} {a : Addr} : some a ∉ List.replicate n (none : Option Addr) := fun z => by cases (List.mem_replicate.mp z).2
theorem Wd.enter_forb {w : Wd} {n : Nat} {a : Addr} (z : (w.enter n).forb a) : w.forb a := by
  rcases z with z | z | z
  · exact .inl z
  · exact (rep_none z).elim
  · exact .inr (.inr z)
theorem ext_enter {w : Wd} {n : Nat} {H : Hp} : ExtS w H (w.enter n) H := ⟨⟨[], by simp [Wd.enter], fun _ h => by cases h⟩, fun a z => .inl (Wd.enter_forb z), fun _ _ h _ _ _ => h, fun _ _ h => h, fun a z => (rep_none z).elim, fun _ h => h, fun _ h => h⟩
theorem start_RR {w : Wd} {h : Hs} {H : Hp} {ds : List D} {vs : List V} (r : HR K w h H) (tb : LamX.Tabs px.T H) (hv : VSs K w H ds vs) (hl : vs.length ≤ N.length) : RR K px (w.enter N.length) (startE N.length ds) h (L2.start N vs) H := by
  have hlen := hv.len
  refine ⟨r.weak rfl (fun a z => Wd.enter_forb z) (fun a ha => ⟨rep_none, (r.sep a ha).2⟩) r.prd, ⟨?_, ?_, fun i => ?_, fun i j a q => (rep_none (List.mem_iff_getElem?.mpr ⟨i, q⟩)).elim, fun i a q => (rep_none (List.mem_iff_getElem?.mpr ⟨i, q⟩)).elim⟩, tb⟩
  · unfold startE L2.start
    simp only [List.length_append, List.length_map, List.length_replicate]
    omega
  · show (List.replicate N.length none).length = _
    unfold L2.start
    simp only [List.length_append, List.length_map, List.length_replicate]
    omega
  · unfold startE
    by_cases hi : i < ds.length
    · obtain ⟨d, v, e1, e2, q⟩ := hv.at_ hi
      rw [Ev.get_map ds _ i d e1]
      refine ⟨v, ?_, q.exts ext_enter⟩
      unfold L2.start
      rw [List.getElem?_append_left (by rw [List.length_map]; omega), List.getElem?_map, e2]; rfl
    · have e : i = ds.length + (i - ds.length) := by omega
      rw [e, Ev.get_past, Ev.get_rep]
      trivial
theorem callG_of {cl : Nat → List D → Hs → R D} {b : Ss} (lk : K.lookup f = some ⟨oc, od, .func (PySem.W.fnOf name qual params body scope dV kV doc pm an cdv ct), osl⟩) (hcd : PySem.W.codeIn K cdv qual = true) (S : FnScope N ps scope) (hpl : ps.length ≤ N.length)
    (hbody : ∀ (A : Around) (outer : List Env) (s : Shared) (H : Hp) (E : XK), Room (k + 4) A → A.guards = some [] →
      SB (cxOf (L2.CX P wo) P wo K mg base N qual scope f cdv A outer s H E) px (fun cls d _ H => E cls d H) body (exB cl b)) :
    CallG P wo K mg base px (k + 1) f (PySem.W.fnOf name qual params body scope dV kV doc pm an cdv ct) ps (fun ds h => (exB cl b (startE N.length (ds.map D.hand)) h).out) := by
  intro A outer s H ar us vs Q E hr gd e0 hb r hl sp
  refine LamX.run_ofS (k := k + 3) lk hcd S hr e0 hb r hl fun hr' => ⟨_, hbody A outer s H E hr gd, ?_⟩
  obtain ⟨w, h, ds, _, h1, h2, h3, h4⟩ := sp
  refine ⟨w.enter N.length, _, h, start_RR h1 h2 h3 (by rw [hl]; exact hpl), ?_⟩
  have h4 : PostF K px w H Q E (exB cl b (startE N.length (ds.map D.hand)) h).out := h4
  cases e1 : exB cl b (startE N.length (ds.map D.hand)) h with
  | bad => rw [e1] at h4; exact h4
  | exc y h' => rw [e1] at h4; exact fun cls dd w' σ' H' y1 y2 y3 y4 => h4 cls dd w' H' (ext_enter.trans y1) y2 y3 y4
  | ok fl h' =>
    rw [e1] at h4
    cases fl with
    | nx e' => exact fun w' σ' H' y1 y2 => h4 .non w' H' (ext_enter.trans y1) y2.hr y2.tb .non
    | rt d => exact fun w' v H' y1 y2 y3 y4 => h4 v w' H' (ext_enter.trans y1) y2 y3 y4
end
end Tv
end

section
set_option autoImplicit false
set_option maxHeartbeats 1000000
/-! A list that a def tells is the asker's own: nothing that may change is handed in, so what is told is new. -/
namespace Tv
open PySem PySem.Spec PyProof.Rows L2
section
variable {K : PySem.W.Frag} {px : Px} {w : Wd} {H : Hp} {h : Hs}
theorem HR.more {w' : Wd} {H' : Hp} (r : HR K w h H) (x : Ext w H w' H') (e : w'.hp = w.hp) (hk : ∀ a, a ∈ w.hp → H' a = H a) (hs : ∀ a, a ∈ w.hp → ¬ w'.pr a) (hp : ∀ a, w'.pr a → H' a ≠ none) : HR K w' h H' where
  len := by rw [e]; exact r.len
  nd := by rw [e]; exact r.nd
  ob := fun i a o h1 h2 => by
    rw [e] at h1
    have q := r.ob i a o h1 h2
    cases o with
    | lst ds =>
      obtain ⟨xs, q1, q2, q3⟩ := q
      exact ⟨xs, by rw [hk a (List.mem_iff_getElem?.mpr ⟨i, h1⟩)]; exact q1, q2.ext x, q3⟩
    | ins c fs => exact q
  sep := fun a ha => ⟨by rw [x.ow]; exact (r.sep a (by rw [← e]; exact ha)).1, hs a (by rw [← e]; exact ha)⟩
  prd := hp
mutual
/-- what holds nothing that may change looks alike in any world -/
theorem VR.still {w' : Wd} : ∀ {d : D} {v : V}, VR K w H d v → D.tt d = true → VR K w' H d v
  | _, _, .non, _ => .non
  | _, _, .bl b, _ => .bl b
  | _, _, .int i, _ => .int i
  | _, _, .str s, _ => .str s
  | _, _, .tup q r, k => .tup q (VRs.still r k)
  | _, _, .lst _ _ _, k => by cases k
  | _, _, .dct _ _ _, k => by cases k
  | _, _, .ref _, k => by cases k
theorem VRs.still {w' : Wd} : ∀ {ds : List D} {vs : List V}, VRs K w H ds vs → D.tts ds = true → VRs K w' H ds vs
  | _, _, .nil, _ => .nil
  | _, _, .cons a r, k => by
    unfold D.tts at k
    rw [Bool.and_eq_true] at k
    exact .cons (VR.still a k.1) (VRs.still r k.2)
end
theorem VTs.still {w' : Wd} : ∀ {ds : List D} {vs : List V}, VTs K w H ds vs → D.tts ds = true → VSs K w' H (ds.map D.hand) vs
  | _, _, .nil, _ => .nil
  | d :: _, _, .cons a r, k => by
    unfold D.tts at k
    rw [Bool.and_eq_true] at k
    have hh : d.hand = d := by cases d <;> first | rfl | (cases k.1; done)
    have hk : d.keep = true := by cases d <;> first | rfl | (cases k.1; done)
    rw [List.map_cons, hh]
    exact .cons (.of (VR.still (VT.keep a hk) k.1)) (VTs.still r k.2)
end
section
variable {X : Cx} {px : Px} {W : WX} {a : Expr} {es : List Expr} {fr : Ev → Hs → R (List D)} {F : List D → Hs → R D} {k : Nat} {f : Addr} {fd : FuncData} {ps : List Str} {x : Str} {p pos : Pos}
theorem fClf_ok {F : List D → Hs → R D} {ds : List D} {h : Hs} : (∃ xs, D.tts ds = true ∧ F ds [] = .ok (.lst xs) [] ∧ D.tts xs = true ∧ fClf F ds h = .ok (.lst xs) h) ∨ fClf F ds h = .bad := by
  unfold fClf
  split
  · rename_i h1
    split
    · rename_i xs e
      split
      · rename_i h2
        exact .inl ⟨xs, h1, e, h2, rfl⟩
      · exact .inr rfl
    · exact .inr rfl
  · exact .inr rfl
theorem sel_clf (G : CallG X.prog X.w X.K X.mg X.base px k f fd ps F) (hr : Room (k + 3) X.A) (gd : X.A.guards = some []) (tk : Takes X W) (hg : Gl X x) (hm : X.mg x = some (.ref f)) (hk : PySem.W.keepIn X.K (.ref f) = true) (hb : Binds X.K fd ps [])
    (ha : SA X px W (a :: es) fr) (hs : (a :: es).all nst = true) (hn : ∀ e h ds h', fr e h = .ok ds h' → ds.length = ps.length) (hdb : (x == ("__debug__" : Str)) = false) : SEL X px W (.Call (.Name x p) (a :: es) [] pos) (fun e h => (fr e h).bind (fClf F)) := by
  rw [List.all_cons, Bool.and_eq_true] at hs
  refine ⟨fun pins s σ H Q I q => ?_⟩
  obtain ⟨w, e, h, p⟩ := q
  rw [R.bind_assoc] at p
  refine wpAny_Call_Name_kw (ld_glob I hg hm ?_ hdb)
  refine PySem.W.callWith_K (h₀ := X.base) I.ok.mod.kin hk (thn (ha.run pos pins s σ H _ I ⟨w, e, h, p.bind⟩) fun us s1 ⟨vs, H1, I1, r, ds, h1, w1, e1, x1, v1, p1⟩ => ⟨I1.kIn, ?_⟩) (star_ok hs.1) (stars_any hs.2)
  have hl : vs.length = ps.length := by rw [← VTs.len v1]; exact hn _ _ _ _ e1
  have b := hb s1 us I1.kIn (by rw [List.append_nil, ← r.length]; exact hl)
  rw [List.append_nil] at b
  obtain ⟨xs, t1, eF, t2, eC⟩ | eC := fClf_ok (F := F) (ds := ds) (h := h1)
  · rw [eC, R.bind_ok] at p1
    refine wpAny_call (codeAny_mono (G X.A X.stack s1 H1 ⟨us, []⟩ us vs Q (WE W σ) hr gd I1.env0 b r hl ⟨⟨[], [], fun b => H1 b ≠ none⟩, [], ds, rfl, ⟨rfl, .nil, fun i b o q => by simp at q, (fun b q => by cases q), fun b q => q⟩, p1.rr.tb, v1.still t1, ?_⟩) fun r s' hq => ?_)
    · rw [eF]
      intro v w' H' y1 y2 y3 y4
      cases y4 with
      | @lst l ys _ n q r =>
        have hn1 : H1 l = none := Classical.byContradiction fun z => n (.inr (.inr (y1.pr l z)))
        have x2 : Ext w1 H1 ⟨w1.hp, w1.ow, fun b => w1.pr b ∨ b = l⟩ H' := ⟨⟨[], by simp, fun _ h => by cases h⟩, rfl, fun _ h => .inl h, fun b h => h.elim .inl fun z => .inr (by rw [z]; exact hn1), fun b o q _ t => y1.keep b o q (by intro z; cases z) (by intro z; cases z) t, y1.tups, y1.dom⟩
        have hl1 : ∀ b, b ∈ w1.hp → H' b = H1 b := fun b hb => by
          obtain ⟨zs, q⟩ := p1.rr.hr.there hb
          rw [q]
          exact y1.keep b _ q (by intro z; cases z) (by intro z; cases z) fun ps e => by cases e
        have hr1 : HR X.K ⟨w1.hp, w1.ow, fun b => w1.pr b ∨ b = l⟩ h1 H' := p1.rr.hr.more x2 rfl hl1 (fun b hb z => by
          rcases z with z | z
          · exact (p1.rr.hr.sep b hb).2 z
          · obtain ⟨zs, q⟩ := p1.rr.hr.there hb
            rw [z, hn1] at q
            cases q) fun b z => by
          rcases z with z | z
          · exact fun e => p1.rr.hr.prd b z (y1.dom b e)
          · rw [z, q]; intro e; cases e
        exact p1.po (.ref l) _ H' x2 hr1 y3 ⟨l, ys, xs, rfl, rfl, x1.dom l hn1, .inr rfl, q, r.still t2⟩
    · cases r with
      | error u => exact passAt tk σ pins H1 s1 u s' I1 hq
      | ok fl =>
        cases fl with
        | ret u => exact I1.after hq
        | next => exact False.elim hq
        | brk => exact False.elim hq
        | cont => exact False.elim hq
  · rw [eC] at p1
    exact p1.po.elim
end
end Tv
end

section
set_option autoImplicit false
set_option maxHeartbeats 2000000
/-! A course that breaks: the error with its year, made and raised. -/
namespace Tv
open PySem PySem.Spec PyProof.Rows L2
/-- the class of the error, as the world has it -/
structure BrkC (K : PySem.W.Frag) (mg : Str → Option Value) (C : Addr) : Prop where
  ox : OexC K C
  no : PySem.W.findIn K (.ref C) "at" = some none
  xf : XfC K C
  c0 : ∃ C0 : Addr, mg "TurnError" = some (.ref C0) ∧ PySem.W.specialIn K (.ref C0) "__getattribute__" = some (some (.builtin "type.__getattribute__")) ∧ PySem.W.typeIn K (.ref C0) = some (.type "type") ∧ PySem.W.readsIn K C0 (.type "type") = true ∧ PySem.W.findCls K (.ref C0) (.type "type") "__init__" = some (.val (.builtin "ValueError.__init__"))
abbrev bSelf : Str := "self"
abbrev bAt : Str := "at"
def brkB (b : List Stmt) : Bool := match b with
  | [.Expr (.Call (.Attribute (.Name t _) i ap) [.Name s _, .Constant (.str _) _ _] [] cp) _, .Assign [.Attribute (.Name s2 _) f _] (.Name a _) _] =>
    decide (t = "TurnError") && decide (i = "__init__") && decide (s = bSelf) && decide (s2 = bSelf) && decide (f = bAt) && decide (a = bAt) && (ap.endLine == cp.line)
  | _ => false
def brkSB (sc : Scope) : Bool := decide (sc.names.lookup bSelf = some NameKind.local) && decide (sc.names.lookup bAt = some NameKind.local) && decide (sc.names.lookup ("TurnError" : Str) = some NameKind.globalImplicit)
/-- what its making promises -/
def spBr (C : Addr) : Sp := fun vs H Q _ => ∃ (a : Addr) (y : V), vs = [.ref a, y] ∧ H a = some (exo a C none) ∧ ∀ dx, H dx = none → dx ≠ a → Q .non (upd (upd H dx (exd dx [(bAt, y)])) a (exo a C (some dx)))
/-- the base's own making, by the name of an own class -/
theorem pe_tinit {X : Cx} {x : Str} {C0 : Addr} {e : Expr} {es : List Expr} {ta : TA} {p1 p2 pos : Pos} (hg : Gl X x) (hm : X.mg x = some (.ref C0)) (hdb : (x == ("__debug__" : Str)) = false) (sg : PySem.W.specialIn X.K (.ref C0) "__getattribute__" = some (some (.builtin "type.__getattribute__"))) (tm : PySem.W.typeIn X.K (.ref C0) = some (.type "type")) (rd : PySem.W.readsIn X.K C0 (.type "type") = true)
    (vV : PySem.W.findCls X.K (.ref C0) (.type "type") "__init__" = some (.val (.builtin "ValueError.__init__"))) (ha : PA X (e :: es) ta)
    (hl : (p2.endLine == pos.line) = true) (hfew : methodCallForm (e :: es).length (backTo pos (starEach (e :: es) X.env)) (backToKw pos (keywordEach [] X.env)) = true)
    (he : starEach (e :: es) X.env = (false, eval e X.env) :: starEach es X.env := by rfl) (hpl : (backTo pos (starEach es X.env)).any (·.1) = false := by rfl) :
    PE X (.Call (.Attribute (.Name x p1) "__init__" p2) (e :: es) [] pos) (tVeI X.K ta) := by
  refine ⟨fun pins s σ H Q I h => ?_⟩
  have hc : eval (.Call (.Attribute (.Name x p1) "__init__" p2) (e :: es) [] pos) X.env = (do
      let ov ← eval (.Name x p1) X.env
      standAt p2.atName
      let (f, first) ← holding [ov] (getMethod ov "__init__" (plainOf (.Name x p1) X.env))
      callWith pos f first (backTo pos (starEach (e :: es) X.env)) (backToKw pos (keywordEach [] X.env))) := by
    show (do
      let ov ← eval (.Name x p1) X.env
      standAt p2.atName
      methodCall (.Name x p1) "__init__" p2 pos X.env ov (e :: es).length (backTo pos (starEach (e :: es) X.env)) (backToKw pos (keywordEach [] X.env))) = _
    simp only [mcall_line hfew hl]
  refine PySem.W.methodCall_KW (ld_glob I hg hm ?_ hdb) hc
  obtain ⟨m, fr⟩ := I.fr
  refine PySem.W.method_of_cls fr I.ok.mod.kin sg (PySem.W.cls_val fr I.ok.mod.kin tm rd vV (by decide +kernel) ?_)
  show wpAny _ _ (callWith pos (Value.builtin "ValueError.__init__") [] (backTo pos (starEach (e :: es) X.env)) []) _ _ _
  refine PyProof.Rows.callWith_method1 (thn (ha.run pos pins _ σ H _ (I.tok _) h) fun us s1 ⟨vs, H1, I1, r1, a, C, ws, ev, hl, T, ea, q⟩ => ?_) he hpl
  subst ev
  cases r1 with
  | @cons _ u0 _ ur ra rw' =>
    obtain rfl : u0 = Value.ref a := ra
    have hlen : ur.length ≤ sizeLine := by
      rw [← Paired.length rw', sizeLine_eq]
      omega
    exact oinit_ok T I1 ea hlen fun s' J => ⟨.non, H1, J, rfl, q⟩
theorem brk_ok {P : Program} {w : World} {K : PySem.W.Frag} {mg : Str → Option Value} {base : Heap} {C f : Addr} {fd : FuncData} {qual : Str} {params : Arguments} {body : List Stmt} {scope : Scope} (F : FunD K "__init__" qual params body scope [] [] f fd) (S : FnScope [bSelf, bAt] [bSelf, bAt] scope) (hb : brkB body = true) (hs : brkSB scope = true) (B : BrkC K mg C) :
    FnOk P w K mg base CX0 1 f fd [bSelf, bAt] (spBr C) := by
  refine F.ok (k := 0) S (fun vs H Q E ⟨_, _, h, _⟩ => by rw [h]; rfl) fun cdv A outer s H vs Q E hr ⟨a, y, ev, ha, go⟩ => ?_
  subst ev
  unfold brkSB at hs
  simp only [Bool.and_eq_true, decide_eq_true_eq] at hs
  obtain ⟨⟨s1, s2⟩, s3⟩ := hs
  obtain ⟨C0, m0, sg, tm, rd, vV⟩ := B.c0
  unfold brkB at hb
  split at hb
  · simp only [Bool.and_eq_true, decide_eq_true_eq] at hb
    obtain ⟨⟨⟨⟨⟨⟨rfl, rfl⟩, rfl⟩, rfl⟩, rfl⟩, rfl⟩, hl⟩ := hb
    have v0 : ∀ {p : Pos}, PE (cxOf CX0 P w K mg base [bSelf, bAt] qual scope f cdv A outer s H E) (.Name bSelf p) (tVar 0) := pe_var rfl (.inl s1)
    have v1 : ∀ {p : Pos}, PE (cxOf CX0 P w K mg base [bSelf, bAt] qual scope f cdv A outer s H E) (.Name bAt p) (tVar 1) := pe_var rfl (.inl s2)
    refine ⟨_, pss_cons (ps_expr (pe_tinit s3 m0 (by decide) sg tm rd vV (pa_cons v0 (pa_cons pe_str pa_nil)) hl rfl)) (pss_one (ps_ost v0 v1 rfl)), ?_⟩
    exact ⟨.ref a, rfl, a, C, [.str _], rfl, by simp, B.ox, ha, y, rfl, .ref a, rfl, a, C, rfl, B.ox, B.no, .inl ⟨ha, fun dx h1 h2 => go dx h1 h2⟩⟩
  · cases hb
section
variable {X : Cx} {px : Px} {W : WX} {a : Expr} {fa : Ev → Hs → R D}
/-- raised with a year -/
theorem ss_raiB {cn : Str} {C fI : Addr} {fd : FuncData} {p pos pos2 : Pos} (hc : X.calm = true) (tk : Takes X W) (B : BrkC X.K X.mg C) (iC : PySem.W.findIn X.K (.ref C) "__init__" = some (some (.ref fI))) (tI : PySem.W.typeIn X.K (.ref fI) = some (.type "function"))
    (F1 : FnOk X.prog X.w X.K X.mg X.base CX0 1 fI fd [bSelf, bAt] (spBr C)) (hr : Room 2 X.A) (hb : Binds X.K fd [bSelf, bAt] []) (hg : Gl X cn) (hm : X.mg cn = some (.ref C)) (hdb : (cn == ("__debug__" : Str)) = false) (hC : px.ex 16 = C) (ha : SE X px W a fa) (hs : nst a = true) :
    SS X px W (.Raise (some (.Call (.Name cn p) [a] [] pos2)) none pos) (fun e h => (fa e h).bind fun x h => (match x with
      | .int i => .exc (.exc 16 (.int i)) h
      | _ => .bad)) := by
  refine PS.of (ps_raise hc tk (pmk_oex B.ox iC tI F1 hr hb .nil pass0 hg hm (pa_cons ha pa_nil (star_ok hs)) hdb (star_ok hs) (by rfl))) fun En σ H ⟨w, e, h, p⟩ => ?_
  refine ⟨w, e, h, p.bind.imp fun v H1 ⟨d, h1, w1, _, x1, v1, p1⟩ => ⟨by simp, fun b hb => ?_⟩⟩
  obtain ⟨i, rfl⟩ : ∃ i, d = .int i := by cases d <;> first | exact ⟨_, rfl⟩ | exact p1.po.elim
  obtain rfl := vInt v1
  refine ⟨b, .int i, rfl, upd_same, fun dx h2 ne => ⟨rfl, dx, [(bAt, .int i)], by exact upd_same, (upd_ne ne).trans upd_same, ?_, ?_⟩⟩
  · rw [upd_ne ne] at h2; exact h2
  · have hd : H1 dx = none := by rw [upd_ne ne] at h2; exact h2
    have eH : upd (del (upd (upd (upd H1 b (exo b C none)) dx (exd dx [(bAt, V.int i)])) b (exo b C (some dx))) b) dx (.xd [(bAt, V.int i)]) = upd H1 dx (.xd [(bAt, V.int i)]) := by
      funext z
      by_cases h3 : z = dx
      · rw [h3, upd_same, upd_same]
      · rw [upd_ne h3, upd_ne h3]
        by_cases h4 : z = b
        · rw [h4, del_same, hb]
        · rw [del_ne h4, upd_ne h4, upd_ne h3, upd_ne h4]
    rw [eH]
    exact p1.po (.ref C) (some dx) w1 σ _ (Ext.new hd p1.rr.hr).s (p1.rr.new hd).hr (p1.rr.new hd).tb ⟨by rw [hC], fun z => absurd rfl z, fun _ => ⟨dx, i, rfl, rfl, upd_same⟩⟩
end
end Tv
end

section
set_option autoImplicit false
set_option maxHeartbeats 1000000
/-! Dicts of one's own: made, read, written. -/
namespace Tv
open PySem PySem.Spec PyProof.Rows L2
theorem eqvAll_is : ∀ {xs ys : List Int}, PyData.eqvAll (D.pys (xs.map .int)) (D.pys (ys.map .int)) = decide (xs = ys)
  | [], [] => rfl
  | [], _ :: _ => rfl
  | _ :: _, [] => rfl
  | x :: xs, y :: ys => by
    rw [List.map_cons, List.map_cons, D.pys, D.pys, PyData.eqvAll, eqvAll_is, D.py, D.py, PyData.eqv]
    by_cases h : x = y
    · subst h; simp
    · simp [h]
theorem ints_of : ∀ {xs : List D}, (xs.all fun x => match x with
    | .int _ => true
    | _ => false) = true → ∃ is : List Int, xs = is.map .int
  | [], _ => ⟨[], rfl⟩
  | x :: xs, h => by
    rw [List.all_cons, Bool.and_eq_true] at h
    obtain ⟨is, e⟩ := ints_of h.2
    cases x with
    | int i => exact ⟨i :: is, by rw [e]; rfl⟩
    | _ => cases h.1
section
variable {K : PySem.W.Frag} {w : Wd} {H : Hp}
theorem vrs_ints : ∀ {is : List Int} {xs : List V}, VRs K w H (is.map .int) xs → xs = (is.map (Sum.inl : Int → Key)).map kV
  | [], _, .nil => rfl
  | i :: is, _, .cons a r => by
    cases a
    rw [vrs_ints r]; rfl
theorem inl_eq {i j : Int} : ((Sum.inl i : Key) = Sum.inl j) ↔ i = j := ⟨fun h => by cases h; rfl, fun h => by rw [h]⟩
theorem inls_eq : ∀ {xs ys : List Int}, (xs.map (Sum.inl : Int → Key) = ys.map Sum.inl) ↔ xs = ys
  | [], [] => by simp
  | [], _ :: _ => by simp
  | _ :: _, [] => by simp
  | x :: xs, y :: ys => by
    rw [List.map_cons, List.map_cons, List.cons.injEq, List.cons.injEq, inl_eq, inls_eq]
/-- the same key -/
theorem key1 {p : D × D} {q : Key × V} (h : KR1 K w H p q) (j : Int) : kEq p.1 (.int j) = decide (q.1 = Sum.inl j) := by
  obtain ⟨i, h1, h2, _⟩ := h
  rw [h1, h2]
  show (i == j) = _
  by_cases e : i = j
  · subst e; simp
  · rw [beq_eq_false_iff_ne.mpr e, decide_eq_false (fun z => e (inl_eq.mp z))]
theorem key2 {p : D × D} {q : List Key × V} (h : KR2 K w H p q) (js : List Int) : kEq p.1 (.tup (js.map .int)) = decide (q.1 = js.map Sum.inl) := by
  obtain ⟨is, h1, h2, _⟩ := h
  rw [h1, h2]
  show PyData.eqvAll (D.pys (is.map .int)) (D.pys (js.map .int)) = _
  rw [eqvAll_is]
  by_cases e : is = js
  · subst e; simp
  · rw [decide_eq_false e, decide_eq_false (fun z => e (inls_eq.mp z))]
section
variable {κ : Type} [DecidableEq κ] {R : D × D → κ × V → Prop} {k : D} {k' : κ}
theorem get_rel (he : ∀ p q, R p q → kEq p.1 k = decide (q.1 = k')) (hv : ∀ p q, R p q → VR K w H p.2 q.2) : ∀ {kvs : List (D × D)} {ks : List (κ × V)}, Paired R kvs ks → ∀ {d : D}, kGet kvs k = some d → ∃ v, valV ks k' = some v ∧ VR K w H d v := by
  intro kvs ks h
  induction h with
  | nil => intro d e; cases e
  | @cons p q ps qs a r ih =>
    intro d e
    have z := he p q a
    unfold kGet at e
    rw [List.find?_cons, z] at e
    by_cases x : q.1 = k'
    · rw [decide_eq_true x] at e
      rw [valV_pos x]
      cases e
      exact ⟨_, rfl, hv p q a⟩
    · rw [decide_eq_false x] at e
      rw [valV_neg x]
      exact ih e
theorem any_rel (he : ∀ p q, R p q → kEq p.1 k = decide (q.1 = k')) : ∀ {kvs : List (D × D)} {ks : List (κ × V)}, Paired R kvs ks → (kvs.any fun p => kEq p.1 k) = ks.any fun q => decide (q.1 = k') := by
  intro kvs ks h
  induction h with
  | nil => rfl
  | @cons p q ps qs a r ih => rw [List.any_cons, List.any_cons, ih, he p q a]
theorem map_rel (he : ∀ p q, R p q → kEq p.1 k = decide (q.1 = k')) {d : D} {v : V} (hp : ∀ p q, R p q → R (p.1, d) (q.1, v)) : ∀ {kvs : List (D × D)} {ks : List (κ × V)}, Paired R kvs ks → Paired R (kvs.map fun p => if kEq p.1 k = true then (p.1, d) else p) (ks.map fun q => if q.1 = k' then (q.1, v) else q) := by
  intro kvs ks h
  induction h with
  | nil => exact .nil
  | @cons p q ps qs a r ih =>
    rw [List.map_cons, List.map_cons]
    refine .cons ?_ ih
    rw [he p q a]
    by_cases x : q.1 = k'
    · rw [if_pos x, if_pos (decide_eq_true x)]; exact hp p q a
    · rw [if_neg x, if_neg (by rw [decide_eq_false x]; simp)]; exact a
theorem snoc_rel {x : D × D} {y : κ × V} (hxy : R x y) : ∀ {kvs : List (D × D)} {ks : List (κ × V)}, Paired R kvs ks → Paired R (kvs ++ [x]) (ks ++ [y]) := by
  intro kvs ks h
  induction h with
  | nil => exact .cons hxy .nil
  | cons a r ih => exact .cons a ih
theorem put_rel (he : ∀ p q, R p q → kEq p.1 k = decide (q.1 = k')) {d : D} {v : V} (hp : ∀ p q, R p q → R (p.1, d) (q.1, v)) (hn : R (k, d) (k', v)) {kvs : List (D × D)} {ks : List (κ × V)} (h : Paired R kvs ks) : Paired R (kPut k d kvs) (putK ks k' v) := by
  unfold kPut putK
  rw [any_rel he h]
  by_cases x : (ks.any fun q => decide (q.1 = k')) = true
  · rw [if_pos x, if_pos x]; exact map_rel he hp h
  · rw [if_neg x, if_neg x]; exact snoc_rel hn h
theorem len_rel : ∀ {kvs : List (D × D)} {ks : List (κ × V)}, Paired R kvs ks → kvs.length = ks.length := by
  intro kvs ks h
  induction h with
  | nil => rfl
  | cons a r ih => rw [List.length_cons, List.length_cons, ih]
end
theorem kOk_f {y : D} (h : kOk false y = true) : ∃ i, y = .int i := by cases y <;> first | exact ⟨_, rfl⟩ | cases h
theorem kOk_t {y : D} (h : kOk true y = true) : ∃ is : List Int, y = .tup (is.map .int) := by
  cases y with
  | tup xs =>
    obtain ⟨is, e⟩ := ints_of (xs := xs) h
    exact ⟨is, by rw [e]⟩
  | _ => cases h
/-- what is read of a dict -/
theorem kv_get {t : Bool} {kvs : List (D × D)} {o : HO} {a : Addr} {y d : D} {u : V} (ha : H a = some o) (hk : KvR K w H kvs t o) (ok : kOk t y = true) (hy : VT K w H y u) (g : kGet kvs y = some d) : ∃ v, DGet H a u (some v) ∧ VR K w H d v := by
  cases t with
  | false =>
    obtain ⟨i, rfl⟩ := kOk_f ok
    obtain rfl := vInt hy
    obtain ⟨ks, rfl, h⟩ := hk
    obtain ⟨v, e, r⟩ := get_rel (k' := (Sum.inl i : Key)) (fun p q z => key1 z i) (fun p q z => z.choose_spec.2.2) h g
    exact ⟨v, by rw [← e]; exact DGet.k (k := Sum.inl i) ha, r⟩
  | true =>
    obtain ⟨is, rfl⟩ := kOk_t ok
    obtain ⟨b, xs, rfl, hb, hr⟩ := vTup hy
    rw [vrs_ints hr] at hb
    obtain ⟨ks, rfl, h⟩ := hk
    obtain ⟨v, e, r⟩ := get_rel (k' := is.map (Sum.inl : Int → Key)) (fun p q z => key2 z is) (fun p q z => z.choose_spec.2.2) h g
    exact ⟨v, by rw [← e]; exact DGet.t ha hb, r⟩
/-- whether a dict has a key -/
theorem find_any {α : Type} {p : α → Bool} : ∀ {l : List α}, (l.find? p).isSome = l.any p
  | [] => rfl
  | a :: l => by
    rw [List.find?_cons, List.any_cons]
    cases p a with
    | true => rfl
    | false => rw [Bool.false_or]; exact find_any
theorem has_rel {κ : Type} [DecidableEq κ] {R : D × D → κ × V → Prop} {k : D} {k' : κ} (he : ∀ p q, R p q → kEq p.1 k = decide (q.1 = k')) {kvs : List (D × D)} {ks : List (κ × V)} (h : Paired R kvs ks) : (valV ks k').isSome = (kGet kvs k).isSome := by
  have e := any_rel he h
  have e1 : (kGet kvs k).isSome = kvs.any fun p => kEq p.1 k := by unfold kGet; rw [Option.isSome_map, find_any]
  have e2 : (valV ks k').isSome = ks.any fun q => decide (q.1 = k') := by unfold valV; rw [Option.isSome_map, find_any]
  rw [e1, e2, e]
theorem kv_has {t : Bool} {kvs : List (D × D)} {o : HO} {a : Addr} {y : D} {u : V} (ha : H a = some o) (hk : KvR K w H kvs t o) (ok : kOk t y = true) (hy : VT K w H y u) : ∃ r, DGet H a u r ∧ r.isSome = (kGet kvs y).isSome := by
  cases t with
  | false =>
    obtain ⟨i, rfl⟩ := kOk_f ok
    obtain rfl := vInt hy
    obtain ⟨ks, rfl, h⟩ := hk
    exact ⟨_, DGet.k (k := Sum.inl i) ha, has_rel (k' := (Sum.inl i : Key)) (fun p q z => key1 z i) h⟩
  | true =>
    obtain ⟨is, rfl⟩ := kOk_t ok
    obtain ⟨b, xs, rfl, hb, hr⟩ := vTup hy
    rw [vrs_ints hr] at hb
    obtain ⟨ks, rfl, h⟩ := hk
    exact ⟨_, DGet.t ha hb, has_rel (k' := is.map (Sum.inl : Int → Key)) (fun p q z => key2 z is) h⟩
/-- a dict written -/
theorem kv_put {t : Bool} {kvs : List (D × D)} {o : HO} {a : Addr} {y z : D} {u v : V} (ha : H a = some o) (hk : KvR K w H kvs t o) (ok : kOk t y = true) (hy : VT K w H y u) (hz : VR K w H z v) (l : kvs.length < 100000) : ∃ o', DPut H a u v (upd H a o') ∧ KvR K w H (kPut y z kvs) t o' := by
  have big : (100000 : Nat) ≤ sizeLine := by rw [sizeLine_eq]; decide
  cases t with
  | false =>
    obtain ⟨i, rfl⟩ := kOk_f ok
    obtain rfl := vInt hy
    obtain ⟨ks, rfl, h⟩ := hk
    exact ⟨_, DPut.k (k := Sum.inl i) ha (by rw [← len_rel h]; omega), _, rfl, put_rel (k' := (Sum.inl i : Key)) (fun p q z => key1 z i) (fun p q ⟨j, z1, z2, _⟩ => ⟨j, z1, z2, hz⟩) ⟨i, rfl, rfl, hz⟩ h⟩
  | true =>
    obtain ⟨is, rfl⟩ := kOk_t ok
    obtain ⟨b, xs, rfl, hb, hr⟩ := vTup hy
    rw [vrs_ints hr] at hb
    obtain ⟨ks, rfl, h⟩ := hk
    exact ⟨_, DPut.t ha hb (by rw [← len_rel h]; omega), _, rfl, put_rel (k' := is.map (Sum.inl : Int → Key)) (fun p q z => key2 z is) (fun p q ⟨j, z1, z2, _⟩ => ⟨j, z1, z2, hz⟩) ⟨is, rfl, rfl, hz⟩ h⟩
end
section
variable {X : Cx} {px : Px} {W : WX} {a b c : Expr} {fa fb fc : Ev → Hs → R D} {pos pos' pos2 p p' : Pos} {x : Str} {i : Nat} {t : Bool}
def fKg (i : Nat) (fa : Ev → Hs → R D) : Ev → Hs → R D := fun e h => (match e.get i with
    | .k t kvs => (fa e h).bind fun y h => if kOk t y then R.of (kGet kvs y) h else .bad
    | _ => .bad)
theorem nosl (hs : nsl a = true) : NoSl a := by
  intro o i
  cases a <;> first | rfl | cases hs
theorem se_kg (hu : X.A.units + 1 < cLine) (hr : RdOk X x i) (ha : SE X px W a fa) (hs : nsl a = true) : SE X px W (.Subscript (.Name x p) a pos) (fKg i fa) := by
  refine PE.of (pe_dget hu hr.pe ha (nosl hs)) fun σ H Q ⟨w, e, h, q⟩ => ?_
  unfold fKg at q
  cases e1 : e.get i with
  | o xs => rw [e1] at q; exact q.po.elim
  | u => rw [e1] at q; exact q.po.elim
  | v d => rw [e1] at q; exact q.po.elim
  | k t kvs =>
    rw [e1] at q
    obtain ⟨a, o, s1, s2, s3, s4, s5, _⟩ := q.rr.slotK e1
    refine ⟨.ref a, s1, w, e, h, q.bind.imp fun u H2 ⟨d2, h2, w2, _, x2, v2, p2⟩ => ?_⟩
    obtain ⟨a', o', t1, t2, t3, t4, t5, _⟩ := p2.rr.slotK e1
    rw [s1] at t1
    cases t1
    try dsimp only at p2
    split at p2
    · rename_i hk
      obtain ⟨d, ed, p3⟩ := p2.nobad
      obtain ⟨v, g, r⟩ := kv_get t2 t3 hk v2 ed
      exact ⟨a, v, rfl, g, p3.done (.of (.of r))⟩
    · exact p2.po.elim
def fKin (n : Bool) (i : Nat) (fa : Ev → Hs → R D) : Ev → Hs → R D := fun e h => (fa e h).bind fun y h => (match e.get i with
    | .k t kvs => if kOk t y then .ok (.bl (n != (kGet kvs y).isSome)) h else .bad
    | _ => .bad)
def kinOp (n : Bool) : CmpOp := if n then .NotIn else .In
def tKin (n : Bool) (ty td : TE) : TE := if n then tDNotIn ty td else tDIn ty td
theorem pc_kin {ty td : TE} {n : Bool} (hu : X.A.units + 1 < cLine) (hi : PE X a ty) (ho : PE X b td) : PC X (kinOp n) a b (tKin n ty td) := by
  cases n with
  | false => exact pc_din hu hi ho
  | true => exact pc_dnotin hu hi ho
theorem kin_rd {K : PySem.W.Frag} {n : Bool} {σ : L2.St} {H : Hp} {w : Wd} {e : Ev} {h : Hs} {Q : VK} (p : Pre K px W σ (relV K) w e h H Q (fKin n i fa e h)) : tKin n (rdE K px W fa) (fun σ H Q => ∃ v, σ[i]? = some (some v) ∧ Q v H) σ H Q := by
  unfold fKin at p
  have main : rdE K px W fa σ H fun y H1 => ∃ v, σ[i]? = some (some v) ∧ ∃ a o, v = .ref a ∧ DGet H1 a y o ∧ Q (.bl (n != o.isSome)) H1 := by
    refine ⟨w, e, h, p.bind.imp fun u H2 ⟨d2, h2, w2, _, x2, v2, p2⟩ => ?_⟩
    cases e1 : e.get i with
    | o xs => rw [e1] at p2; exact p2.po.elim
    | u => rw [e1] at p2; exact p2.po.elim
    | v d => rw [e1] at p2; exact p2.po.elim
    | k t kvs =>
      rw [e1] at p2
      obtain ⟨a', o', t1, t2, t3, t4, t5, _⟩ := p2.rr.slotK e1
      try dsimp only at p2
      split at p2
      · rename_i hk
        obtain ⟨r, g, er⟩ := kv_has t2 t3 hk v2
        refine ⟨.ref a', t1, a', r, rfl, g, ?_⟩
        rw [er]
        exact p2.done (.of (.of (.bl _)))
      · exact p2.po.elim
  cases n with
  | false =>
    have e2 : ∀ b : Bool, (false != b) = b := by decide
    simp only [e2] at main
    exact main
  | true =>
    have e2 : ∀ b : Bool, (true != b) = !b := by decide
    simp only [e2] at main
    exact main
theorem se_kin {n : Bool} (hu : X.A.units + 1 < cLine) (hr : RdOk X x i) (ha : SE X px W a fa) (hm : behindInMarks (kinOp n) (.Name x p) = false) : SE X px W (.Compare a [kinOp n] [.Name x p] pos) (fKin n i fa) :=
  PE.of (pe_cmp (pc_kin hu ha hr.pe) hm) fun σ H Q ⟨w, e, h, q⟩ => kin_rd q
theorem st_kin {n : Bool} (hu : X.A.units + 1 < cLine) (hr : RdOk X x i) (ha : SE X px W a fa) (hm : behindInMarks (kinOp n) (.Name x p) = false) : ST X px W (.Compare a [kinOp n] [.Name x p] pos) (fKin n i fa) := by
  refine PT.of (pt_cmp (pc_kin hu ha hr.pe) hm) fun σ H Q ⟨w, e, h, q⟩ => ?_
  refine kin_rd (w := w) (e := e) (h := h) (Q := fun v H' => ∃ k, v = .bl k ∧ Q k H') ?_
  refine ⟨q.rr, ?_⟩
  have z := q.po
  unfold tst fKin at z
  unfold fKin
  cases e1 : fa e h with
  | bad => rw [e1] at z; exact z
  | exc y h' => rw [e1] at z; exact z
  | ok d h1 =>
    rw [e1, R.bind_ok] at z
    rw [R.bind_ok]
    cases e2 : e.get i with
    | o xs => rw [e2] at z; exact z
    | u => rw [e2] at z; exact z
    | v d => rw [e2] at z; exact z
    | k t kvs =>
      rw [e2] at z
      dsimp only at z ⊢
      split at z
      · rename_i hk
        rw [if_pos hk]
        intro v w' H' y1 y2 y3 y4
        exact ⟨_, vBl y4, z _ w' H' y1 y2 y3 rfl⟩
      · exact z.elim
def fSk (i : Nat) (fb fc : Ev → Hs → R D) : Ev → Hs → R Fl := fun e h => (match e.get i with
    | .k t kvs => (fc e h).bind fun z h => (fb e h).bind fun y h => if z.keep && kOk t y && decide (kvs.length < 100000) then .ok (.nx (e.put i (.k t (kPut y z kvs)))) h else .bad
    | _ => .bad)
theorem ss_sk (hu : X.A.units + 1 < cLine) (hr : RdOk X x i) (hb : SE X px W b fb) (hc : SE X px W c fc) (hs : swapsWithSole [.Subscript (.Name x p) b pos2] c pos.line X.env = pure false) (hw : swappedStores [.Subscript (.Name x p) b pos2] c X.env = pure none) (h1 : (assignEach [.Subscript (.Name x p) b pos2] X.env).map (·.2) = [assign (.Subscript (.Name x p) b pos2) X.env])
    (ha : ∀ v, assign (.Subscript (.Name x p) b pos2) X.env v = (do
      let ov ← holding [v] (eval (.Name x p) X.env)
      let iv ← holding [v, ov] (eval b X.env)
      standAt pos2
      holding [v, ov, iv] (setItem ov iv v)
      release [v, ov, iv] [])) : SS X px W (.Assign [.Subscript (.Name x p) b pos2] c pos) (fSk i fb fc) := by
  refine PS.of (ps_asg hc (pg_sub hr.pe hb (set_dict hu) ha) hs hw h1) fun En σ H ⟨w, e, h, q⟩ => ?_
  unfold fSk at q
  cases e1 : e.get i with
  | o xs => rw [e1] at q; exact q.po.elim
  | u => rw [e1] at q; exact q.po.elim
  | v d => rw [e1] at q; exact q.po.elim
  | k t kvs =>
    rw [e1] at q
    refine ⟨w, e, h, q.bind.imp fun v H1 ⟨d, h1, w1, _, x1, v1, p1⟩ => ?_⟩
    obtain ⟨a, o, s1, s2, s3, s4, s5, _⟩ := p1.rr.slotK e1
    refine ⟨.ref a, s1, w1, e, h1, p1.bind.imp fun u H2 ⟨d2, h2, w2, _, x2, v2, p2⟩ => ?_⟩
    obtain ⟨a', o', t1, t2, t3, t4, t5, t6⟩ := p2.rr.slotK e1
    rw [s1] at t1
    cases t1
    try dsimp only at p2
    split at p2
    · rename_i hk
      rw [Bool.and_eq_true, Bool.and_eq_true, decide_eq_true_eq] at hk
      obtain ⟨⟨k1, k2⟩, k3⟩ := hk
      obtain ⟨o2, g, r⟩ := kv_put t2 t3 k2 v2 (VT.keep (v1.ext x2) k1) k3
      obtain ⟨r1, x3⟩ := t6 _ _ r
      exact ⟨a, _, rfl, g, p2.done x3 r1⟩
    · exact p2.po.elim
def fOwnd (i : Nat) (t : Bool) : Ev → Hs → R Fl := fun e h => .ok (.nx (e.put i (.k t []))) h
theorem ownd_rd {K : PySem.W.Frag} {En : Ends} {σ : L2.St} {H : Hp} {o : HO} (ho : ∀ w H, KvR K w H [] t o) (q : rdS K px W (fOwnd i t) En σ H) : tAsg (fun _ H Q => ∀ p, H p = none → Q (.ref p) (upd H p o)) (gName i) En σ H := by
  obtain ⟨w, e, h, p⟩ := q
  intro a ha
  exact p.po ((w.gd a).own i a) _ _ (ext_own (Ext.guard ha) p.rr.hr.prd ha (.inr rfl)) (p.rr.ownK (Ext.guard ha) (p.rr.hr.guard ha) (p.rr.new ha).tb i ha (.inr rfl) upd_same (ho _ _))
theorem ss_ownd (hN : X.N.Nodup) (hn : NmOk X x i) (hs : swapsWith (.Dict [] [] p) (some (.Name x pos')) pos.line X.env = pure false) : SS X px W (.Assign [.Name x pos'] (.Dict [] [] p) pos) (fOwnd i t) := by
  cases t with
  | false => exact PS.of (ps_set hN hn.1 hn.2.1 pe_dnewK hs hn.2.2) fun D σ H q => ownd_rd (t := false) (o := .dK []) (fun _ _ => ⟨[], rfl, .nil⟩) q
  | true => exact PS.of (ps_set hN hn.1 hn.2.1 pe_dnewT hs hn.2.2) fun D σ H q => ownd_rd (t := true) (o := .dT []) (fun _ _ => ⟨[], rfl, .nil⟩) q
end
end Tv
end

section
set_option autoImplicit false
set_option maxHeartbeats 1000000
/-! The trees held against the program's own code. -/
namespace Tv
open PySem PySem.Spec PyProof.Rows L2
structure Ck where
  N : List Str
  sc : Scope
  fn : Str → Bool
  defs : List (Str × Nat × Nat)
  glob : List (Str × Int)
  excs : List (Str × Nat)
  sd : Bool
  dfl : Str → Option Int
  brk : Bool
def glB (c : Ck) (x : Str) : Bool := match c.sc.names.lookup x with
  | some .globalImplicit => true
  | _ => false
def visB (c : Ck) (x : Str) : Bool := match c.sc.names.lookup x with
  | some .local => true
  | some .cell => true
  | some .free => true
  | _ => false
def lcB (c : Ck) (x : Str) : Bool := match c.sc.names.lookup x with
  | some .local => true
  | _ => false
def ceB (c : Ck) (x : Str) : Bool := match c.sc.names.lookup x with
  | some .cell => true
  | _ => false
def plainN (x : Str) : Bool := !(x == ("__debug__" : Str)) && !(x == ("__classdict__" : Str)) && decide (x ≠ "__name__")
def rdB (c : Ck) (x : Str) (i : Nat) : Bool := decide (c.N[i]? = some x) && visB c x && plainN x
def nmB (c : Ck) (x : Str) (i : Nat) : Bool := decide (c.N[i]? = some x) && (lcB c x || (ceB c x && c.fn x))
def bopB : Bop → Operator → Bool
  | .add, .Add => true | .sub, .Sub => true | .mul, .Mult => true | .fdiv, .FloorDiv => true | .mod, .Mod => true | .pow, .Pow => true
  | _, _ => false
theorem bopB_of {o : Bop} {p : Operator} (h : bopB o p = true) : p = bopOf o := by
  cases o <;> cases p <;> first | rfl | cases h
def copB : Cop → CmpOp → Bool
  | .eq, .Eq => true | .ne, .NotEq => true | .lt, .Lt => true | .le, .LtE => true | .gt, .Gt => true | .ge, .GtE => true | .isin, .In => true | .notin, .NotIn => true | .isN, .Is => true | .notN, .IsNot => true | .eq0, .Eq => true | .notB, .IsNot => true
  | _, _ => false
theorem copB_of {o : Cop} {p : CmpOp} (h : copB o p = true) : p = copOf o := by
  cases o <;> cases p <;> first | rfl | cases h
def noSet : Expr → Bool
  | .Set .. => false
  | _ => true
theorem noSet_in {op : CmpOp} {e : Expr} (h : noSet e = true) : behindInMarks op e = false := by
  cases e <;> first | rfl | cases h
theorem noSet_fold {e : Expr} (h : noSet e = true) (env : Env) (x : Value) : foldedSetIterable e env x = pure x := by
  cases e <;> first | rfl | cases h
def noComp : Expr → Bool
  | .ListComp .. => false | .SetComp .. => false | .DictComp .. => false
  | _ => true
theorem noComp_sw {e : Expr} (h : noComp e = true) (t : Option Expr) (l : Nat) (env : Env) : swapsWith e t l env = pure false := by
  cases e <;> first | rfl | cases h
/-- a test that runs as its value does -/
def isVal : Expr → Bool
  | .UnaryOp .Not .. => false
  | .BoolOp .. => false
  | .IfExp .. => false
  | .Compare .. => false
  | _ => true
theorem isVal_of {e : Expr} (h : isVal e = true) (env : Env) (whole : Sem Value) : isTrue e env whole = (do let v ← whole; standAt e.pos; holding [v] (truthy v)) := by
  cases e <;> first | rfl | (cases h; done) | (rename_i op _ _; cases op <;> first | rfl | cases h)
def bltNames : List Str := ["len", "all", "any", "sum", "max", "min", "abs", "divmod", "int", "list", "tuple", "repr", "str", "bool", "isinstance", "range", "zip", "enumerate", "sorted"]
def bltB (c : Ck) (x : Str) : Bool := glB c x && bltNames.contains x
def biB : Bi → Str → Nat → Bool
  | .len, x, _ => decide (x = "len") | .all, x, _ => decide (x = "all") | .any, x, _ => decide (x = "any") | .sum, x, _ => decide (x = "sum")
  | .max1, x, n => decide (x = "max") && decide (n = 1) | .max2, x, n => decide (x = "max") && decide (n = 2) | .min2, x, n => decide (x = "min") && decide (n = 2)
  | .abs, x, _ => decide (x = "abs") | .divmod, x, _ => decide (x = "divmod") | .int, x, _ => decide (x = "int") | .list, x, _ => decide (x = "list") | .tuple, x, _ => decide (x = "tuple")
  | .rep, x, _ => decide (x = "repr") | .str, x, _ => decide (x = "str") | .sorted, x, _ => decide (x = "sorted")
  | _, _, _ => false
def meB : Bi → Str → Bool
  | .count, x => decide (x = "count") | .index, x => decide (x = "index") | .join, x => decide (x = "join")
  | _, _ => false
def tyB : Ty → Str → Bool
  | .int, x => decide (x = "int") | .bool, x => decide (x = "bool") | .tuple, x => decide (x = "tuple") | .str, x => decide (x = "str") | .list, x => decide (x = "list")
  | _, _ => false
def tstB : E → Bool
  | .not a => tstB a
  | .and a b => tstB a && tstB b
  | .or a b => tstB a && tstB b
  | .ite .. => false
  | _ => true
/-- the block of a comprehension -/
def Ck.blk (c : Ck) (scope : Scope) : Ck := { c with sc := relS scope c.sc, fn := fun x => scope.names.lookup x == some .cell, sd := false, brk := false }
/-- the block of a lambda -/
def Ck.lam (c : Ck) (scope : Scope) : Ck := ⟨c.N, scope, fun _ => false, c.defs, c.glob, [], false, c.dfl, false⟩
def noArgs : Arguments → Bool
  | ⟨[], [], none, [], [], none, []⟩ => true
  | _ => false
def ownOf (c : Ck) (vs : List Nat) : List (Str × Nat) := vs.map fun i => ((c.N[i]?).getD "", i)
def nmsB (c : Ck) : List Expr → List Nat → Bool
  | [], [] => true
  | e :: es, i :: is => (match e with
    | .Name x _ => nmB c x i
    | _ => false) && nmsB c es is
  | _, _ => false
def ckT (c : Ck) : T → Expr → Bool
  | .n i, e => (match e with
    | .Name x _ => nmB c x i
    | _ => false)
  | .t is, e => (match e with
    | .Tuple es _ _ => nmsB c es is
    | _ => false)
def trueB : E → Bool
  | .c (.bl b) => b
  | _ => false
def isTup : Expr → Bool
  | .Tuple .. => true
  | _ => false
mutual
def ckE (c : Ck) : E → Expr → Bool
  | .c d, e => (match e with
    | .Constant k _ _ => chkC d k
    | _ => false)
  | .g x d, e => (match e, d with
    | .Name y _, .int i => decide (x = y) && glB c y && plainN y && decide (c.glob.lookup y = some i)
    | _, _ => false)
  | .v i, e => (match e with
    | .Name x _ => rdB c x i
    | _ => false)
  | .bin o a b, e => (match e with
    | .BinOp a' op b' _ => bopB o op && (ckE c a a' && ckE c b b')
    | _ => false)
  | .neg a, e => (match e with
    | .UnaryOp .USub a' _ => ckE c a a'
    | _ => false)
  | .not a, e => (match e with
    | .UnaryOp .Not a' _ => ckE c a a'
    | _ => false)
  | .and a b, e => (match e with
    | .BoolOp .And [x, y] _ => ckE c a x && ckE c b y
    | .BoolOp .And (x :: y :: z :: r) p => ckE c a x && ckE c b (.BoolOp .And (y :: z :: r) p)
    | _ => false)
  | .or a b, e => (match e with
    | .BoolOp .Or [x, y] _ => ckE c a x && ckE c b y
    | .BoolOp .Or (x :: y :: z :: r) p => ckE c a x && ckE c b (.BoolOp .Or (y :: z :: r) p)
    | _ => false)
  | .ite t a b, e => (match e with
    | .IfExp t' a' b' _ => tstB t && (ckE c t t' && (ckE c a a' && ckE c b b'))
    | _ => false)
  | .cmp o a b, e => (match e with
    | .Compare a' [op] [b'] _ => copB o op && noSet b' && (ckE c a a' && ckE c b b')
    | _ => false)
  | .chn o p a b d, e => (match e with
    | .Compare a' [op, op'] [b', d'] _ => copB o op && copB p op' && noSet d' && (ckE c a a' && (ckE c b b' && ckE c d d'))
    | _ => false)
  | .call f es, e => (match e with
    | .Call (.Name x _) (a :: as) [] _ => decide (c.defs.lookup x = some (f, as.length + 1)) && glB c x && plainN x && (a :: as).all nst && ckEs c es (a :: as)
    | _ => false)
  | .cld f es i, e => (match e with
    | .Call (.Name x _) (a :: as) [] _ => decide (c.defs.lookup x = some (f, as.length + 2)) && decide (c.dfl x = some i) && glB c x && plainN x && (a :: as).all nst && ckEs c es (a :: as)
    | _ => false)
  | .bi b es, e => (match e with
    | .Call (.Name x _) (a :: as) [] _ => biB b x (as.length + 1) && glB c x && (a :: as).all nst && ckEs c es (a :: as)
    | _ => false)
  | .me m a b, e => (match e with
    | .Call (.Attribute a' mn apos) [b'] [] cpos => meB m mn && rcv a' && nst b' && (apos.endLine == cpos.line) && (ckE c a a' && ckE c b b')
    | _ => false)
  | .isi a t, e => (match e with
    | .Call (.Name x _) [a', .Name y _] [] _ => decide (x = "isinstance") && glB c x && tyB t y && glB c y && nst a' && ckE c a a'
    | _ => false)
  | .ix a b, e => (match e with
    | .Subscript a' b' _ => nsl b' && (ckE c a a' && ckE c b b')
    | _ => false)
  | .sl a lo hi, e => (match e with
    | .Subscript a' (.Slice (some l) (some u) none _) _ => ckE c a a' && (ckE c lo l && ckE c hi u)
    | _ => false)
  | .slf a lo, e => (match e with
    | .Subscript a' (.Slice (some l) none none _) _ => ckE c a a' && ckE c lo l
    | _ => false)
  | .slt a hi, e => (match e with
    | .Subscript a' (.Slice none (some u) none _) _ => ckE c a a' && ckE c hi u
    | _ => false)
  | .rev a, e => (match e with
    | .Subscript a' (.Slice none none (some (.UnaryOp .USub (.Constant (.int 1) _ _) _)) _) _ => ckE c a a'
    | _ => false)
  | .tup es, e => (match e with
    | .Tuple es' _ _ => es'.all nst && decide (es'.length ≤ 1000) && ckEs c es es'
    | _ => false)
  | .lst es, e => (match e with
    | .List es' _ => es'.all nst && decide (es'.length ≤ 1000) && ckEs c es es'
    | _ => false)
  | .mls es, e => (match e with
    | .List es' _ => es'.all nst && decide (es'.length ≤ 1000) && ckEs c es es'
    | _ => false)
  | .dic kvs, e => (match e, kvs with
    | .Dict [] [] _, [] => true
    | .Dict [some (.Constant (.int i) _ _)] [.Constant (.int j) _ _] _, [(k, v)] => decide (i = k) && decide (j = v)
    | _, _ => false)
  | .comp it t vs cnd elt, e => (match e with
    | .ListComp elt' [⟨tg, iter, ifs, 0⟩] scope _ => ckI c it tg iter && noSet iter && blkC c.N c.sc scope (ownOf c vs) && (t.is.all vs.contains) && ckT (c.blk scope) t tg &&
      ((match ifs with
        | [] => trueB cnd
        | [f] => tstB cnd && ckE (c.blk scope) cnd f
        | _ => false) && ckE (c.blk scope) elt elt')
    | _ => false)
  | .said a, e => (match e with
    | .Call (.Name x _) [.Lambda ar bd scope _] [] _ => decide (x = "_law_said") && glB c x && c.sd && LamX.lamSB c.sc scope && noArgs ar && ckE (c.lam scope) a bd
    | _ => false)
  | .kg i a, e => (match e with
    | .Subscript (.Name x _) a' _ => rdB c x i && nsl a' && ckE c a a'
    | _ => false)
  | .kin n i a, e => (match e with
    | .Compare a' [op] [.Name x _] _ => rdB c x i && (match n, op with
      | false, .In => true
      | true, .NotIn => true
      | _, _ => false) && ckE c a a'
    | _ => false)
  | .nv, e => noComp e
def ckEs (c : Ck) : Es → List Expr → Bool
  | .nil, es => es.isEmpty
  | .cons a r, es => (match es with
    | a' :: r' => ckE c a a' && ckEs c r r'
    | _ => false)
def ckI (c : Ck) : It → Expr → Expr → Bool
  | .seq a, _, e => ckE c a e
  | .rng a, _, e => (match e with
    | .Call (.Name x _) [a'] [] _ => decide (x = "range") && glB c x && nst a' && ckE c a a'
    | _ => false)
  | .rngs a b, _, e => (match e with
    | .Call (.Name x _) [a', b'] [] _ => decide (x = "range") && glB c x && nst a' && nst b' && (ckE c a a' && ckE c b b')
    | _ => false)
  | .rng3 a b d, _, e => (match e with
    | .Call (.Name x _) [a', b', d'] [] _ => decide (x = "range") && glB c x && nst a' && nst b' && nst d' && (ckE c a a' && (ckE c b b' && ckE c d d'))
    | _ => false)
  | .zip a b, tg, e => (match e with
    | .Call (.Name x _) [a', b'] [] _ => decide (x = "zip") && glB c x && nst a' && nst b' && isTup tg && (ckE c a a' && ckE c b b')
    | _ => false)
  | .enm a, tg, e => (match e with
    | .Call (.Name x _) [a'] [] _ => decide (x = "enumerate") && glB c x && nst a' && isTup tg && ckE c a a'
    | _ => false)
end
end Tv
end

section
set_option autoImplicit false
set_option maxHeartbeats 1000000
/-! What `_law_word` tells of a caught error. -/
namespace Tv
open PySem PySem.Spec PyProof.Rows L2
abbrev wE : Str := "_law_e"
abbrev wK : Str := "_law_kinds"
abbrev wW : Str := "_law_words"
/-- a caught error of the class cl, as isinstance asks -/
structure IsW (K : PySem.W.Frag) (cl : Value) (c : Nat) (ns : List (Str × Nat)) (mg : Str → Option Value) : Prop where
  D : ∃ D : Addr, cl = .ref D ∧ ExcC K D ∧ (∀ x j, ns.lookup x = some j → ∃ C : Addr, mg x = some (.ref C) ∧ PySem.W.kitOne K (.ref D) (.ref C) = some (c == j)) ∧ PySem.W.kitOne K (.ref D) (.type "ValueError") = some true
section
variable {X : Cx} {px : Px} {a : Addr} {oe : Obj} {cl : Value} {d : Option Addr} {c : Nat} {ns : List (Str × Nat)}
theorem call_isW {D : Addr} (C : ExcC X.K D) (hp : (a, oe) ∈ X.pn) (hz : Zc (.ref D) d oe) (hdn : d = none) (hf : ∃ vs, oe.data = .fields vs) : CallR X (.builtin "isinstance") (rIsE X.K D a) := by
  subst hdn
  intro pins s σ H xs us Q I r h
  obtain ⟨k, cv, b, rfl, hcv, e, q⟩ := h
  obtain ⟨u1, u2, rfl, r1, r2⟩ := vals2 r
  cases r1
  have ec := hcv _ r2; subst ec
  obtain ⟨hget, _⟩ := I.pin (a, oe) (List.mem_append_left _ hp)
  obtain ⟨vs, hv⟩ := hf
  have J : PySem.W.InstAt s.heap a oe D none := by
    obtain ⟨oc, od, oda, osl⟩ := oe; obtain ⟨h1, h2⟩ := hz
    dsimp only at h1 h2 hv; subst h1 h2 hv
    exact ⟨hget, rfl, rfl, trivial⟩
  exact PySem.W.kia_one (PySem.W.handS_kitx_exc C.hg C.hk C.hs C.hd C.ha C.hn C.ht C.hm) I.kIn J e (fun z => nomatch z) fun tk => ⟨.bl b, H, I.kept (t' := tk) fun _ _ z => z, rfl, q⟩
/-- the context of the def that tells the word -/
structure WordX (X : Cx) (a : Addr) (oe : Obj) (cl : Value) (c : Nat) (ns : List (Str × Nat)) : Prop where
  N : X.N = [wE, wK, wW]
  l0 : X.env.scope.names.lookup wE = some NameKind.local
  l1 : X.env.scope.names.lookup wK = some NameKind.local
  l2 : X.env.scope.names.lookup wW = some NameKind.local
  gi : Gl X "isinstance"
  mi : X.mg "isinstance" = none
  gv : Gl X "ValueError"
  mv : X.mg "ValueError" = none
  gc : ∀ x j, ns.lookup x = some j → Gl X x
  cz : Cz X
  pin : (a, oe) ∈ X.pn
  zc : Zc cl none oe
  fs : ∃ vs, oe.data = .fields vs
  is : IsW X.K cl c ns X.mg
def C0 (a : Addr) (σ : L2.St) : Prop := σ[0]? = some (some (.ref a))
variable (wx : WordX X a oe cl c ns)
include wx
theorem WordX.var0 {p : Pos} : PE X (.Name wE p) (tVar 0) := pe_var (by rw [wx.N]; rfl) (.inl wx.l0)
theorem WordX.isE {x : Str} {j : Nat} {p p1 p2 pos : Pos} (h : ns.lookup x = some j) (hd : (x == ("__debug__" : Str)) = false) : PE X (.Call (.Name "isinstance" p) [.Name wE p1, .Name x p2] [] pos) (fun σ H Q => C0 a σ ∧ Q (.bl (c == j)) H) := by
  obtain ⟨D, e1, e2, e3, _⟩ := wx.is.D
  obtain ⟨C, m, k⟩ := e3 x j h
  have zc := wx.zc
  rw [e1] at zc
  refine PE.of (pe_callB (call_isW e2 wx.pin zc rfl wx.fs) wx.gi wx.mi (by decide +kernel) (pa_cons wx.var0 (pa_cons (pe_glob (v := .ref C) (wx.gc x j h) m rfl hd) pa_nil))) fun σ H Q ⟨h0, q⟩ => ?_
  exact ⟨.ref a, h0, .ref C, .ref C, c == j, rfl, fun u r => r, k, q⟩
theorem WordX.isV {p p1 p2 pos : Pos} : PE X (.Call (.Name "isinstance" p) [.Name wE p1, .Name "ValueError" p2] [] pos) (fun σ H Q => C0 a σ ∧ Q (.bl true) H) := by
  obtain ⟨D, e1, e2, _, k⟩ := wx.is.D
  have zc := wx.zc
  rw [e1] at zc
  refine PE.of (pe_callB (call_isW e2 wx.pin zc rfl wx.fs) wx.gi wx.mi (by decide +kernel) (pa_cons wx.var0 (pa_cons (pe_bltn (v := .ty "ValueError") wx.gv wx.mv rfl rfl) pa_nil))) fun σ H Q ⟨h0, q⟩ => ?_
  exact ⟨.ref a, h0, .ty "ValueError", .type "ValueError", true, rfl, fun u r => r, k, q⟩
/-- the asks of a display -/
def isB (ns : List (Str × Nat)) : List Expr → List Nat → Bool
  | [], [] => true
  | e :: es, j :: js => (match e with
    | .Call (.Name f _) [.Name v _, .Name x _] [] _ => decide (f = "isinstance") && decide (v = wE) && decide (ns.lookup x = some j) && !(x == ("__debug__" : Str))
    | _ => false) && isB ns es js
  | _, _ => false
theorem WordX.isA : ∀ {es : List Expr} {js : List Nat}, isB ns es js = true → PA X es (fun σ H Q => C0 a σ ∧ Q (js.map fun j => V.bl (c == j)) H)
  | [], [], _ => PA.of pa_nil fun σ H Q ⟨_, q⟩ => q
  | [], _ :: _, h => by cases h
  | _ :: _, [], h => by cases h
  | e :: es, j :: js, h => by
    unfold isB at h
    rw [Bool.and_eq_true] at h
    obtain ⟨h1, h2⟩ := h
    split at h1
    · rename_i f p v p1 x p2 pos
      simp only [Bool.and_eq_true, decide_eq_true_eq, Bool.not_eq_true'] at h1
      obtain ⟨⟨⟨rfl, rfl⟩, hx⟩, hd⟩ := h1
      refine PA.of (pa_cons (wx.isE hx hd) (WordX.isA h2)) fun σ H Q ⟨h0, q⟩ => ⟨h0, h0, q⟩
    · cases h1
end
end Tv
end

section
set_option autoImplicit false
set_option maxHeartbeats 1000000
/-! `_law_word`, row by row. -/
namespace Tv
open PySem PySem.Spec PyProof.Rows L2
section
variable {X : Cx} {px : Px} {a : Addr} {oe : Obj} {cl : Value} {c : Nat} {ns : List (Str × Nat)} {word : Str}
/-- what is left gives the word -/
def RestW (K : PySem.W.Frag) (px : Px) (a : Addr) (word : Str) (e : Ev) : TS := fun D σ H => ∃ w h, RR K px w e h σ H ∧ C0 a σ ∧ ∀ v w' H', ExtS w H w' H' → HR K w' h H' → LamX.Tabs px.T H' → VR K w' H' (.str word) v → D.rt v H'
def SEc (X : Cx) (px : Px) (a : Addr) (e : Expr) (f : Ev → Hs → R D) : Prop := PE X e (fun σ H Q => C0 a σ ∧ rdE X.K px Wno f σ H Q)
theorem SEc.of {e : Expr} {f : Ev → Hs → R D} (h : SE X px Wno e f) : SEc X px a e f := PE.of h fun _ _ _ q => q.2
theorem set_W {x : Str} {i : Nat} {e : Ev} {rhs : Expr} {f : Ev → Hs → R D} {d : D} {rest : List Stmt} {p' pos : Pos} (hN : X.N.Nodup) (hn : NmOk X x i) (hi : i ≠ 0) (hs : swapsWith rhs (some (.Name x p')) pos.line X.env = pure false) (ha : SEc X px a rhs f) (hf : ∀ h, f e h = .ok d h) (hk : d.keep = true)
    (hr : PSs X rest (RestW X.K px a word (e.put i (.v d)))) : PSs X (.Assign [.Name x p'] rhs pos :: rest) (RestW X.K px a word e) := by
  refine PSs.of (pss_cons (ps_set hN hn.1 hn.2.1 ha hs hn.2.2) hr) fun Dn σ H ⟨w, h, rr, hc, fin⟩ => ?_
  refine ⟨hc, w, e, h, rr, ?_⟩
  rw [hf h]
  intro v w' H' x1 x2 x3 x4
  refine ⟨w', h, ⟨x2, (rr.ext x1 x2 x3).er.put i (.of (VT.keep x4 hk)), x3⟩, ?_, fun u w2 H2 y1 y2 y3 y4 => fin u w2 H2 (x1.s.trans y1) y2 y3 y4⟩
  unfold C0 at hc ⊢
  rw [List.getElem?_set_ne hi]
  exact hc
theorem vrs_bls {K : PySem.W.Frag} {w : Wd} {H : Hp} {f : Nat → Bool} : ∀ {js : List Nat}, VRs K w H (js.map fun j => .bl (f j)) (js.map fun j => .bl (f j))
  | [] => .nil
  | j :: js => .cons (.bl _) vrs_bls
variable (wx : WordX X a oe cl c ns)
include wx
theorem WordX.disp {es : List Expr} {js : List Nat} {pos : Pos} (h : isB ns es js = true) (l : js.length ≤ 100) : SEc X px a (.List es pos) (fun _ h => .ok (.lst (js.map fun j => .bl (c == j))) h) := by
  refine PE.of (pe_lst (wx.isA h)) fun σ H Q ⟨hc, w, e, hh, p⟩ => ⟨hc, by rw [List.length_map, sizeLine_eq]; omega, fun q hq => p.newL hq vrs_bls⟩
omit wx in
theorem SEc.add {x y : Expr} {f g : Ev → Hs → R D} {pos : Pos} (ha : SE X px Wno x f) (hb : SEc X px a y g) : SEc X px a (.BinOp x .Add y pos) (fun e h => (f e h).bind fun x h => (g e h).bind fun y h => R.of (dBin .add x y) h) := by
  refine PE.of (pe_op (op_binD (px := px) (W := Wno) .add) ha hb) fun σ H Q ⟨hc, w, e, h, p⟩ => ?_
  refine ⟨w, e, h, p.bind.imp fun x H1 ⟨d1, h1, w1, _, x1, v1, p1⟩ => ⟨hc, w1, e, h1, p1.bind.imp fun y H2 ⟨d2, h2, w2, _, x2, v2, p2⟩ => ?_⟩⟩
  exact ⟨σ, w2, e, h2, d1, d2, v1.ext x2, v2, p2⟩
/-- texts written -/
def strB : List Expr → List Str → Bool
  | [], [] => true
  | e :: es, s :: ss => (match e with
    | .Constant (.str x) _ _ => decide (x = s)
    | _ => false) && strB es ss
  | _, _ => false
omit wx in
theorem strA {W : WX} : ∀ {es : List Expr} {ss : List Str}, strB es ss = true → SA X px W es (fun _ h => .ok (ss.map .str) h)
  | [], [], _ => PA.of pa_nil fun σ H Q ⟨w, e, h, p⟩ => p.done .nil
  | [], _ :: _, h => by cases h
  | _ :: _, [], h => by cases h
  | e :: es, s :: ss, h => by
    unfold strB at h
    rw [Bool.and_eq_true] at h
    obtain ⟨h1, h2⟩ := h
    split at h1
    · rename_i x j p
      rw [decide_eq_true_eq] at h1
      subst h1
      exact sa_cons (se_c (d := .str x) (k := .str x) (by simp [chkC])) (strA h2) rfl
    · cases h1
omit wx in
theorem strD {W : WX} {es : List Expr} {ss : List Str} {pos : Pos} (h : strB es ss = true) (l : es.length ≤ 1000) (l2 : ss.length = es.length) : SE X px W (.List es pos) (fun _ h => .ok (.lst (ss.map .str)) h) := by
  have q := se_lst (pos := pos) (strA (X := X) (px := px) (W := W) h) l (fun e h ds h' z => by cases z; rw [List.length_map]; exact l2)
  refine PE.of q fun σ H Q ⟨w, e, h, p⟩ => ⟨w, e, h, ?_⟩
  dsimp only [R.bind_ok]
  rw [if_pos (by rw [List.all_map, List.all_eq_true]; exact fun _ _ => rfl)]
  exact p
/-- the words -/
def w1L : List Str := ["grounds", "standing", "catch", "course", "bed", "number", "book", "deed", "there", "gone", "lacking"]
def w2L : List Str := ["nothing", "many", "text", "word"]
def j1L : List Nat := [1, 2, 3, 4]
def j2L : List Nat := [5, 6, 7, 8]
def j3L : List Nat := [9, 10, 11, 12]
def j4L : List Nat := [13, 14, 15, 16]
def allJ : List Nat := j1L ++ j2L ++ j3L ++ j4L
def kD (c : Nat) (js : List Nat) : D := .lst (js.map fun j => .bl (c == j))
/-- the row's shape -/
def wordB (ns : List (Str × Nat)) (b : List Stmt) : Bool := match b with
  | [.Assign [.Name x1 _] (.List es1 _) _, .Assign [.Name x2 _] (.BinOp (.Name y2 _) .Add (.List es2 _) _) _, .Assign [.Name x3 _] (.BinOp (.Name y3 _) .Add (.List es3 _) _) _, .Assign [.Name x4 _] (.BinOp (.Name y4 _) .Add (.List es4 _) _) _, .Assign [.Name x5 _] (.List es5 _) _,
     .If (.BoolOp .Or [.UnaryOp .Not (.Call (.Name f6 _) [.Name e6 _, .Name v6 _] [] _) _, .Compare (.Call (.Attribute (.Name k6 _) m6 ap6) [.Constant (.bool true) _ _] [] cp6) [.NotEq] [.Constant (.int 1) _ _] _] _) _ [] _, .If (.Subscript (.Name k7 _) (.Constant (.int 15) _ _) _) _ [] _,
     .Return (some (.BinOp (.Constant (.str s8) _ _) .Add (.Subscript (.BinOp (.Name w8 _) .Add (.List es8 _) _) (.Call (.Attribute (.Name k8 _) m8 ap8) [.Constant (.bool true) _ _] [] cp8) _) _)) _] =>
    isB ns es1 j1L && isB ns es2 j2L && isB ns es3 j3L && isB ns es4 j4L && strB es5 w1L && strB es8 w2L && decide (es5.length = 11) && decide (es8.length = 4) && decide (s8 = "! ") &&
    decide (x1 = wK) && decide (x2 = wK) && decide (x3 = wK) && decide (x4 = wK) && decide (x5 = wW) && decide (y2 = wK) && decide (y3 = wK) && decide (y4 = wK) && decide (f6 = "isinstance") && decide (e6 = wE) && decide (v6 = "ValueError") &&
    decide (k6 = wK) && decide (m6 = "count") && (ap6.endLine == cp6.line) && decide (k7 = wK) && decide (w8 = wW) && decide (k8 = wK) && decide (m8 = "index") && (ap8.endLine == cp8.line)
  | _ => false
omit wx in
theorem none_PSs {b : List Stmt} : PSs X b (fun _ _ _ => False) := ⟨fun _ _ _ _ _ _ h => h.elim⟩
omit wx in
theorem RestW.at_ {e : Ev} {Dn : Ends} {σ : L2.St} {w w' : Wd} {h : Hs} {H H' : Hp} (rr : RR X.K px w e h σ H) (hc : C0 a σ) (fin : ∀ v w' H', ExtS w H w' H' → HR X.K w' h H' → LamX.Tabs px.T H' → VR X.K w' H' (.str word) v → Dn.rt v H') (x1 : Ext w H w' H') (x2 : HR X.K w' h H') (x3 : LamX.Tabs px.T H') : RestW X.K px a word e Dn σ H' :=
  ⟨w', h, rr.ext x1 x2 x3, hc, fun u w2 H2 y1 y2 y3 y4 => fin u w2 H2 (x1.s.trans y1) y2 y3 y4⟩
omit wx in
/-- a row that looks, finds no, and goes on -/
theorem if_W {e : Ev} {cnd : Expr} {f : Ev → Hs → R D} {b rest : List Stmt} {pos : Pos} (ht : ST X px Wno cnd f) (hf : ∀ h, f e h = .ok (.bl false) h) (hr : PSs X rest (RestW X.K px a word e)) : PSs X (.If cnd b [] pos :: rest) (RestW X.K px a word e) := by
  refine PSs.of (pss_cons (ps_if ht none_PSs pss_nil) hr) fun Dn σ H ⟨w, h, rr, hc, fin⟩ => ?_
  refine ⟨w, e, h, rr, ?_⟩
  unfold tst
  rw [hf h]
  intro k w' H' x1 x2 x3 x4
  have x4 : false = k := x4
  subst x4
  exact RestW.at_ rr hc fin x1 x2 x3
/-- not an error at all, or not one of one kind alone -/
theorem WordX.or_W {e : Ev} {f : Ev → Hs → R D} {b rest : List Stmt} {g : Expr} {p p1 p2 p3 p4 p5 pos : Pos} (hg : ST X px Wno g f) (hf : ∀ h, f e h = .ok (.bl false) h) (hr : PSs X rest (RestW X.K px a word e)) :
    PSs X (.If (.BoolOp .Or [.UnaryOp .Not (.Call (.Name "isinstance" p) [.Name wE p1, .Name "ValueError" p2] [] p3) p4, g] p5) b [] pos :: rest) (RestW X.K px a word e) := by
  have ht := (pw_or (pos := p5) (pt_not (pos := p4) (pt_truth (wx.isV (p := p) (p1 := p1) (p2 := p2) (pos := p3)) (isVal_of rfl X.env))) (pw_or1 (pos := p5) hg)).pt
  refine PSs.of (pss_cons (ps_if ht none_PSs pss_nil) hr) fun Dn σ H ⟨w, h, rr, hc, fin⟩ => ?_
  refine ⟨hc, true, (VT.bl (w := w) true).tru rfl, ?_⟩
  show rdT X.K px Wno (tst f) σ H _
  refine ⟨w, e, h, rr, ?_⟩
  unfold tst
  rw [hf h]
  intro k w' H' x1 x2 x3 x4
  have x4 : false = k := x4
  subst x4
  exact RestW.at_ rr hc fin x1 x2 x3
omit wx in
theorem ret_W {e : Ev} {x : Expr} {f : Ev → Hs → R D} {pos : Pos} (ha : SE X px Wno x f) (hf : ∀ h, f e h = .ok (.str word) h) : PSs X [.Return (some x) pos] (RestW X.K px a word e) := by
  refine PSs.of (pss_one (ps_ret ha)) fun Dn σ H ⟨w, h, rr, hc, fin⟩ => ?_
  refine ⟨w, e, h, rr, ?_⟩
  rw [hf h]
  exact fun v w' H' x1 x2 x3 x4 => fin v w' H' x1.s x2 x3 (VT.keep x4 rfl)
/-- the row tells the word -/
theorem WordX.rows {b : List Stmt} (h : wordB ns b = true) (hcnt : dBi .count [kD c allJ, .bl true] = some (.int 1)) (h15 : L2.atI (allJ.map fun j => D.bl (c == j)) 15 = some (.bl false)) {i : Int} {w0 : Str}
    (hidx : dBi .index [kD c allJ, .bl true] = some (.int i)) (hw0 : dIx (.lst ((w1L ++ w2L).map .str)) (.int i) = some (.str w0)) (hw : dBin .add (.str "! ") (.str w0) = some (.str word)) : PSs X b (RestW X.K px a word [.u, .u, .u]) := by
  unfold wordB at h
  split at h
  · rename_i x1 q1 es1 p1 r1 x2 q2 y2 o2 es2 p2 b2 r2 x3 q3 y3 o3 es3 p3 b3 r3 x4 q4 y4 o4 es4 p4 b4 r4 x5 q5 es5 p5 r5 f6 pf6 e6 pe6 v6 pv6 pc6 pn6 k6 pk6 m6 ap6 kk6 pt6 cp6 ko6 po6 pcm6 pb6 t6 pi6 k7 pk7 ki7 pc7 ps7 t7 pi7 s8 ks8 pss8 w8 pw8 es8 pl8 pb8 k8 pk8 m8 ap8 kt8 pt8 cp8 psx8 pbb8 pr8
    simp only [Bool.and_eq_true, decide_eq_true_eq] at h
    obtain ⟨⟨⟨⟨⟨⟨⟨⟨⟨⟨⟨⟨⟨⟨⟨⟨⟨⟨⟨⟨⟨⟨⟨⟨⟨⟨⟨a1, a2⟩, a3⟩, a4⟩, a5⟩, a6⟩, a7⟩, a8⟩, a9⟩, rfl⟩, rfl⟩, rfl⟩, rfl⟩, rfl⟩, rfl⟩, rfl⟩, rfl⟩, rfl⟩, rfl⟩, rfl⟩, rfl⟩, rfl⟩, l6⟩, rfl⟩, rfl⟩, rfl⟩, rfl⟩, l8⟩ := h
    subst a9
    have nd : X.N.Nodup := by rw [wx.N]; decide
    have k1 : NmOk X wK 1 := ⟨by rw [wx.N]; rfl, .inl wx.l1, .inr wx.l1⟩
    have k2 : NmOk X wW 2 := ⟨by rw [wx.N]; rfl, .inl wx.l2, .inr wx.l2⟩
    have v1 : ∀ {p : Pos}, SE X px Wno (.Name wK p) (fun e h => R.of (evV e 1) h) := se_v (by rw [wx.N]; rfl) (.inl wx.l1) (by decide) (by decide)
    have v2 : ∀ {p : Pos}, SE X px Wno (.Name wW p) (fun e h => R.of (evV e 2) h) := se_v (by rw [wx.N]; rfl) (.inl wx.l2) (by decide) (by decide)
    have tr : ∀ {j : Nat} {p : Pos}, SE X px Wno (.Constant (.bool true) j p) (fun _ h => .ok (.bl true) h) := se_c rfl
    refine set_W (d := kD c j1L) nd k1 (by decide) (noComp_sw rfl _ _ _) (wx.disp a1 (by decide)) (fun h => rfl) rfl ?_
    refine set_W (d := kD c (j1L ++ j2L)) nd k1 (by decide) (noComp_sw rfl _ _ _) (SEc.add v1 (wx.disp a2 (by decide))) (fun h => rfl) rfl ?_
    refine set_W (d := kD c (j1L ++ j2L ++ j3L)) nd k1 (by decide) (noComp_sw rfl _ _ _) (SEc.add v1 (wx.disp a3 (by decide))) (fun h => rfl) rfl ?_
    refine set_W (d := kD c allJ) nd k1 (by decide) (noComp_sw rfl _ _ _) (SEc.add v1 (wx.disp a4 (by decide))) (fun h => rfl) rfl ?_
    refine set_W (d := .lst (w1L.map .str)) nd k2 (by decide) (noComp_sw rfl _ _ _) (SEc.of (strD a5 (by omega) (by rw [a7]; rfl))) (fun h => rfl) rfl ?_
    refine wx.or_W (st_cmp (o := .ne) wx.cz (se_meth (m := .count) PySem.F.plainAttrs_list PySem.F.slot_list_count PySem.F.type_list_count (mt_countD wx.cz) v1 tr rfl rfl l6) (se_c (d := .int 1) rfl) rfl) (fun h => ?_) ?_
    · show ((R.of (dBi .count [kD c allJ, .bl true]) h).bind fun x h => (R.ok (D.int 1) h).bind fun y h => R.of ((dCmp .ne x y).map D.bl) h) = _
      rw [hcnt]
      rfl
    refine if_W (st_val (se_ix v1 (se_c (d := .int 15) rfl) rfl) (isVal_of rfl X.env)) (fun h => ?_) ?_
    · show R.of (L2.atI (allJ.map fun j => D.bl (c == j)) 15) h = _
      rw [h15]
      rfl
    refine ret_W (se_bin (o := .add) (se_c (d := .str "! ") (by simp [chkC])) (se_ix (se_bin (o := .add) v2 (strD a6 (by omega) (by rw [a8]; rfl))) (se_meth (m := .index) PySem.F.plainAttrs_list PySem.F.slot_list_index PySem.F.type_list_index (mt_indexDD wx.cz) v1 tr rfl rfl l8) rfl)) (fun h => ?_)
    show ((R.of (dBi .index [kD c allJ, .bl true]) h).bind fun y h => fIx (.lst ((w1L ++ w2L).map .str)) y h).bind (fun y h => R.of (dBin .add (.str "! ") y) h) = _
    rw [hidx, R.of_some, R.bind_ok]
    show (R.of (dIx (.lst ((w1L ++ w2L).map .str)) (.int i)) h).bind (fun y h => R.of (dBin .add (.str "! ") y) h) = _
    rw [hw0, R.of_some, R.bind_ok, hw]
    rfl
  · cases h
end
end Tv
end

section
set_option autoImplicit false
set_option maxHeartbeats 1000000
/-! `_law_word`, called where an error was caught. -/
namespace Tv
open PySem PySem.Spec PyProof.Rows L2
/-- the scope of the def -/
def wordSB (ns : List (Str × Nat)) (sc : Scope) : Bool :=
  decide (sc.names.lookup wE = some NameKind.local) && decide (sc.names.lookup wK = some NameKind.local) && decide (sc.names.lookup wW = some NameKind.local) && decide (sc.names.lookup ("isinstance" : Str) = some NameKind.globalImplicit) && decide (sc.names.lookup ("ValueError" : Str) = some NameKind.globalImplicit) &&
  ns.all fun p => decide (sc.names.lookup p.1 = some NameKind.globalImplicit)
/-- what the word of the c'th class is -/
structure Words (c : Nat) (word : Str) : Prop where
  cnt : dBi .count [kD c allJ, .bl true] = some (.int 1)
  n15 : L2.atI (allJ.map fun j => D.bl (c == j)) 15 = some (.bl false)
  idx : ∃ (i : Int) (w0 : Str), dBi .index [kD c allJ, .bl true] = some (.int i) ∧ dIx (.lst ((w1L ++ w2L).map .str)) (.int i) = some (.str w0) ∧ dBin .add (.str "! ") (.str w0) = some (.str word)
/-- the promise of `_law_word` -/
def WordF (P : Program) (wo : World) (K : PySem.W.Frag) (mg : Str → Option Value) (base : Heap) (px : Px) (ns : List (Str × Nat)) (k : Nat) (f : Addr) (fd : FuncData) : Prop :=
  ∀ (A : Around) (outer : List Env) (s : Shared) (H : Hp) (a : Addr) (oe : Obj) (cl : Value) (c : Nat) (word : Str) (w : Wd) (h : Hs) (Q : VK), L2H.RoomH k A → A.guards = some [] → L2H.PinOk outer H s (a, oe) → Zc cl none oe → (∃ vs, oe.data = .fields vs) → IsW K cl c ns mg → Words c word →
    Env0 P wo K mg base A outer s H → BindsTo s fd ⟨[.ref a], []⟩ [(wE, .ref a)] → w.ow = [] → HR K w h H → LamX.Tabs px.T H → (∀ v w' H', ExtS w H w' H' → HR K w' h H' → LamX.Tabs px.T H' → VR K w' H' (.str word) v → Q v H') →
    codeAny (model P wo) A (.call (.ref f) ⟨[.ref a], []⟩) (CR C8.CX0 outer P wo H s Q C8.E0) s
section
variable {P : Program} {wo : World} {K : PySem.W.Frag} {mg : Str → Option Value} {base : Heap} {px : Px} {ns : List (Str × Nat)} {k : Nat} {f : Addr} {name qual : Str} {params : Arguments} {body : List Stmt} {scope : Scope} {dV kV doc pm cdv ct oc : Value} {an od : Option Addr} {osl : Array (Option Value)}
theorem wordF_of (lk : K.lookup f = some ⟨oc, od, .func (PySem.W.fnOf name qual params body scope dV kV doc pm an cdv ct), osl⟩) (hcd : PySem.W.codeIn K cdv qual = true) (S : FnScope [wE, wK, wW] [wE] scope) (hb : wordB ns body = true) (hs : wordSB ns scope = true)
    (mi : mg "isinstance" = none) (mv : mg "ValueError" = none) (sm : ∃ o, base.get? sysModules = some o ∧ o.cls ≠ .type "list") : WordF P wo K mg base px ns (k + 1) f (PySem.W.fnOf name qual params body scope dV kV doc pm an cdv ct) := by
  intro A outer s H a oe cl c word w h Q hr gd hpin hz hf his hw e0 hbd how hh tb fin
  have KX : K.In s.heap := e0.mod.kin.keeps fun b o e => (e0.bs b o e).1
  have lim : s.heap.NoLimit := e0.mod.nolimit.keeps fun b o e => (e0.bs b o e).1
  have hk0 : ∀ y ∈ [(wE, Value.ref a)], scope.names.lookup y.1 = some .local ∨ (scope.names.lookup y.1 = some .cell ∧ ((cellsFrom (s.heap.objs.size + 1) scope.names []).lookup y.1).isSome = true) := fun y hy => by
    rcases S.par wE List.mem_cons_self with q | q
    · exact .inl (by rw [List.mem_singleton.mp hy]; exact q)
    · exact .inr (by rw [List.mem_singleton.mp hy]; exact ⟨q, PySem.W.cellsFrom_some _ _ _ (.inl q)⟩)
  refine codeAny_call_function hr.depth (KX _ _ lk) rfl S.co S.gen rfl (PySem.W.codeRec_of KX hcd) (hbd _ _ _ _ ?_)
  refine wpAny_newFunctionEnv_cells S.kind hk0 fun env he s1 x => ?_
  subst he
  refine ⟨lim.keeps x.toInCall.keep, codeAny_func ?_⟩
  have I : Inv (L2H.cxH C8.CX0 P wo K mg base [wE, wK, wW] qual scope f cdv A outer s H C8.E0 (a, oe)) [] (L2.start [wE, wK, wW] [.ref a]) H s1 := L2H.inv_startH (ps := [wE]) (us := [.ref a]) S hpin e0 rfl (.cons rfl .nil) x
  unfold wordSB at hs
  simp only [Bool.and_eq_true, decide_eq_true_eq, List.all_eq_true] at hs
  obtain ⟨⟨⟨⟨⟨s1', s2⟩, s3⟩, s4⟩, s5⟩, s6⟩ := hs
  have wx : WordX (L2H.cxH C8.CX0 P wo K mg base [wE, wK, wW] qual scope f cdv A outer s H C8.E0 (a, oe)) a oe cl c ns := by
    refine ⟨rfl, s1', s2, s3, s4, mi, s5, mv, fun x j hx => s6 (x, j) (PySem.mem_of_lookup hx), ⟨?_, gd, sm⟩, List.mem_cons_self, hz, hf, his⟩
    have := hr.un
    show (A.deeper _).units + 200 < cLine
    show A.units + 3 + 200 < cLine
    omega
  obtain ⟨i, w0, i1, i2, i3⟩ := hw.idx
  have rows := wx.rows (px := px) (word := word) hb hw.cnt hw.n15 i1 i2 i3
  have rr : RR K px (w.enter 3) [.u, .u, .u] h (L2.start [wE, wK, wW] [.ref a]) H := by
    refine ⟨hh.weak rfl (fun a z => Wd.enter_forb z) (fun a ha => ⟨rep_none, (hh.sep a ha).2⟩) hh.prd, ⟨rfl, rfl, fun i => ?_, fun i j a q => (rep_none (List.mem_iff_getElem?.mpr ⟨i, q⟩)).elim, fun i a q => (rep_none (List.mem_iff_getElem?.mpr ⟨i, q⟩)).elim⟩, tb⟩
    rcases i with _ | _ | _ | i <;> exact trivial
  refine wpAny_mono (rows.run [] s1 _ H { nx := fun _ H' => Q .non H', rt := Q } I ⟨w.enter 3, h, rr, rfl, fun v w' H' x1 x2 x3 x4 => fin v w' H' (ext_enter.trans x1) x2 x3 x4⟩) (fun fl s' hs => ?_) fun e s' hs => hs
  cases fl with
  | ret u => obtain ⟨v, σ', H', J, rv, q⟩ := hs; exact ⟨v, H', J.os, J.bare, J.base, J.hok, rv, q⟩
  | next => obtain ⟨σ', H', J, q⟩ := hs; exact ⟨V.non, H', J.os, J.bare, J.base, J.hok, rfl, q⟩
  | brk => obtain ⟨_, _, _, q⟩ := hs; exact q.elim
  | cont => obtain ⟨_, _, _, q⟩ := hs; exact q.elim
end
/-- the fifteen words -/
def wordN (c : Nat) : Str := "! " ++ ((w1L ++ w2L).getD (c - 1) "")
theorem words_of : ∀ c, 1 ≤ c → c ≤ 15 → Words c (wordN c) := by
  have key : ∀ c, Words c (wordN c) → Words c (wordN c) := fun _ h => h
  intro c h1 h2
  have : c = 1 ∨ c = 2 ∨ c = 3 ∨ c = 4 ∨ c = 5 ∨ c = 6 ∨ c = 7 ∨ c = 8 ∨ c = 9 ∨ c = 10 ∨ c = 11 ∨ c = 12 ∨ c = 13 ∨ c = 14 ∨ c = 15 := by omega
  rcases this with rfl | rfl | rfl | rfl | rfl | rfl | rfl | rfl | rfl | rfl | rfl | rfl | rfl | rfl | rfl
  · exact ⟨rfl, rfl, 0, _, rfl, rfl, rfl⟩
  · exact ⟨rfl, rfl, 1, _, rfl, rfl, rfl⟩
  · exact ⟨rfl, rfl, 2, _, rfl, rfl, rfl⟩
  · exact ⟨rfl, rfl, 3, _, rfl, rfl, rfl⟩
  · exact ⟨rfl, rfl, 4, _, rfl, rfl, rfl⟩
  · exact ⟨rfl, rfl, 5, _, rfl, rfl, rfl⟩
  · exact ⟨rfl, rfl, 6, _, rfl, rfl, rfl⟩
  · exact ⟨rfl, rfl, 7, _, rfl, rfl, rfl⟩
  · exact ⟨rfl, rfl, 8, _, rfl, rfl, rfl⟩
  · exact ⟨rfl, rfl, 9, _, rfl, rfl, rfl⟩
  · exact ⟨rfl, rfl, 10, _, rfl, rfl, rfl⟩
  · exact ⟨rfl, rfl, 11, _, rfl, rfl, rfl⟩
  · exact ⟨rfl, rfl, 12, _, rfl, rfl, rfl⟩
  · exact ⟨rfl, rfl, 13, _, rfl, rfl, rfl⟩
  · exact ⟨rfl, rfl, 14, _, rfl, rfl, rfl⟩
theorem wordN_of : ∀ c, 1 ≤ c → c ≤ 15 → ∀ p, wordOf (.exc c p) = wordN c := by
  intro c h1 h2 p
  unfold wordOf
  dsimp only
  rw [if_neg (by omega)]
  have : c = 1 ∨ c = 2 ∨ c = 3 ∨ c = 4 ∨ c = 5 ∨ c = 6 ∨ c = 7 ∨ c = 8 ∨ c = 9 ∨ c = 10 ∨ c = 11 ∨ c = 12 ∨ c = 13 ∨ c = 14 ∨ c = 15 := by omega
  rcases this with rfl | rfl | rfl | rfl | rfl | rfl | rfl | rfl | rfl | rfl | rfl | rfl | rfl | rfl | rfl <;> rfl
end Tv
end

section
set_option autoImplicit false
set_option maxHeartbeats 2000000
/-! `_law_word` where a course broke. -/
namespace Tv
open PySem PySem.Spec PyProof.Rows L2
/-- the name in slot 0 is the error, its dict holds the year -/
def CB (a dx : Addr) (i : Int) (σ : L2.St) (H : Hp) : Prop := C0 a σ ∧ H dx = some (.xd [(bAt, .int i)])
structure WordY (X : Cx) (a dx : Addr) (oe : Obj) (C : Addr) (ns : List (Str × Nat)) : Prop where
  N : X.N = [wE, wK, wW]
  l0 : X.env.scope.names.lookup wE = some NameKind.local
  l1 : X.env.scope.names.lookup wK = some NameKind.local
  l2 : X.env.scope.names.lookup wW = some NameKind.local
  gi : Gl X "isinstance"
  mi : X.mg "isinstance" = none
  gv : Gl X "ValueError"
  mv : X.mg "ValueError" = none
  gr : Gl X "repr"
  mr : X.mg "repr" = none
  gc : ∀ x j, ns.lookup x = some j → Gl X x
  cz : Cz X
  pin : (a, oe) ∈ X.pn
  zc : Zc (.ref C) (some dx) oe
  fs : ∃ vs, oe.data = .fields vs
  is : IsW X.K (.ref C) 16 ns X.mg
  xf : XfC X.K C
  no : PySem.W.findIn X.K (.ref C) "at" = some none
theorem inst_Y {X : Cx} {pins : List (Addr × Obj)} {σ : L2.St} {H : Hp} {s : Shared} {a dx C : Addr} {oe : Obj} {i : Int} (I : Inv X pins σ H s) (hp : (a, oe) ∈ X.pn) (hz : Zc (.ref C) (some dx) oe) (hf : ∃ vs, oe.data = .fields vs) (hd : H dx = some (.xd [(bAt, .int i)])) :
    ∃ (od : Obj) (mA : Str → Option Value), PySem.W.InstAt s.heap a oe C (some od) ∧ (∀ f, RelO ([(bAt, V.int i)].lookup f) (mA f)) ∧ ∀ n, PySem.W.lookIn n od = some (mA n) := by
  obtain ⟨hget, _⟩ := I.pin (a, oe) (List.mem_append_left _ hp)
  obtain ⟨vs, hv⟩ := hf
  have hx : ObjOk X.prog X.w H s.heap dx (.xd [(bAt, .int i)]) := I.hok dx _ hd
  obtain ⟨mA, hns, hr⟩ := hx
  obtain ⟨od, ho, hl⟩ := lookIn_ns hns
  exact ⟨od, mA, ⟨hget, hz.1, by unfold PySem.W.notCls; rw [hv] <;> rfl, by rw [hz.2]; exact ho⟩, hr, hl⟩
theorem call_isY {X : Cx} {a dx D : Addr} {oe : Obj} {i : Int} (C : ExcC X.K D) (hp : (a, oe) ∈ X.pn) (hz : Zc (.ref D) (some dx) oe) (hf : ∃ vs, oe.data = .fields vs) : CallR X (.builtin "isinstance") (fun xs H Q => H dx = some (.xd [(bAt, .int i)]) ∧ rIsE X.K D a xs H Q) := by
  intro pins s σ H xs us Q I r h
  obtain ⟨hd, k, cv, b, rfl, hcv, e, q⟩ := h
  obtain ⟨u1, u2, rfl, r1, r2⟩ := vals2 r
  cases r1
  have ec := hcv _ r2; subst ec
  obtain ⟨od, mA, J, _, _⟩ := inst_Y I hp hz hf hd
  have hcl : (PySem.W.clsIn X.K D).isSome = true := by
    obtain ⟨cd, hc, _⟩ := PySem.W.any_some C.hd
    rw [hc]; rfl
  exact PySem.W.kia_one (PySem.W.kitx_exc (ox := oe) (od := some od) hcl C.hg C.hk C.hs C.ha C.hn C.ht C.hm) I.kIn J e (fun z => nomatch z) fun tk => ⟨.bl b, H, I.kept (t' := tk) fun _ _ z => z, rfl, q⟩
section
variable {X : Cx} {px : Px} {a dx C : Addr} {oe : Obj} {ns : List (Str × Nat)} {i : Int}
theorem CB.ext {K : PySem.W.Frag} {w w' : Wd} {h : Hs} {H H' : Hp} {σ : L2.St} (c : CB a dx i σ H) (r : HR K w h H) (x : Ext w H w' H') : CB a dx i σ H' := by
  refine ⟨c.1, x.keep dx _ c.2 (fun z => ?_) fun ps e => by cases e⟩
  obtain ⟨xs, q⟩ := r.there z
  rw [c.2] at q; cases q
theorem CB.set {σ : L2.St} {H : Hp} {j : Nat} {v : Option V} (c : CB a dx i σ H) (hj : j ≠ 0) : CB a dx i (σ.set j v) H := by
  refine ⟨?_, c.2⟩
  have := c.1
  unfold C0 at this ⊢
  rw [List.getElem?_set_ne hj]; exact this
def SEy (X : Cx) (px : Px) (a dx : Addr) (i : Int) (e : Expr) (f : Ev → Hs → R D) : Prop := PE X e (fun σ H Q => CB a dx i σ H ∧ rdE X.K px Wno f σ H Q)
theorem SEy.of {e : Expr} {f : Ev → Hs → R D} (h : SE X px Wno e f) : SEy X px a dx i e f := PE.of h fun _ _ _ q => q.2
/-- what is left gives the word -/
def RestY (K : PySem.W.Frag) (px : Px) (a dx : Addr) (i : Int) (word : Str) (e : Ev) : TS := fun D σ H => ∃ w h, RR K px w e h σ H ∧ CB a dx i σ H ∧ ∀ v w' H', ExtS w H w' H' → HR K w' h H' → LamX.Tabs px.T H' → VR K w' H' (.str word) v → D.rt v H'
variable {word : Str}
theorem set_Y {x : Str} {j : Nat} {e : Ev} {rhs : Expr} {f : Ev → Hs → R D} {d : D} {rest : List Stmt} {p' pos : Pos} (hN : X.N.Nodup) (hn : NmOk X x j) (hi : j ≠ 0) (hs : swapsWith rhs (some (.Name x p')) pos.line X.env = pure false) (ha : SEy X px a dx i rhs f) (hf : ∀ h, f e h = .ok d h) (hk : d.keep = true)
    (hr : PSs X rest (RestY X.K px a dx i word (e.put j (.v d)))) : PSs X (.Assign [.Name x p'] rhs pos :: rest) (RestY X.K px a dx i word e) := by
  refine PSs.of (pss_cons (ps_set hN hn.1 hn.2.1 ha hs hn.2.2) hr) fun Dn σ H ⟨w, h, rr, hc, fin⟩ => ?_
  refine ⟨hc, w, e, h, rr, ?_⟩
  rw [hf h]
  intro v w' H' x1 x2 x3 x4
  exact ⟨w', h, ⟨x2, (rr.ext x1 x2 x3).er.put j (.of (VT.keep x4 hk)), x3⟩, (hc.ext rr.hr x1).set hi, fun u w2 H2 y1 y2 y3 y4 => fin u w2 H2 (x1.s.trans y1) y2 y3 y4⟩
theorem SEy.add {x y : Expr} {f g : Ev → Hs → R D} {pos : Pos} (ha : SE X px Wno x f) (hb : SEy X px a dx i y g) : SEy X px a dx i (.BinOp x .Add y pos) (fun e h => (f e h).bind fun x h => (g e h).bind fun y h => R.of (dBin .add x y) h) := by
  refine PE.of (pe_op (op_binD (px := px) (W := Wno) .add) ha hb) fun σ H Q ⟨hc, w, e, h, p⟩ => ?_
  refine ⟨w, e, h, p.bind.imp fun x H1 ⟨d1, h1, w1, _, x1, v1, p1⟩ => ⟨hc.ext p.rr.hr x1, w1, e, h1, p1.bind.imp fun y H2 ⟨d2, h2, w2, _, x2, v2, p2⟩ => ?_⟩⟩
  exact ⟨σ, w2, e, h2, d1, d2, v1.ext x2, v2, p2⟩
variable (wx : WordY X a dx oe C ns)
include wx
theorem WordY.var0 {p : Pos} : PE X (.Name wE p) (tVar 0) := pe_var (by rw [wx.N]; rfl) (.inl wx.l0)
theorem WordY.isE {x : Str} {j : Nat} {p p1 p2 pos : Pos} (h : ns.lookup x = some j) (hd : (x == ("__debug__" : Str)) = false) : PE X (.Call (.Name "isinstance" p) [.Name wE p1, .Name x p2] [] pos) (fun σ H Q => CB a dx i σ H ∧ Q (.bl (16 == j)) H) := by
  obtain ⟨D, e1, e2, e3, _⟩ := wx.is.D
  cases e1
  obtain ⟨CC, m, k⟩ := e3 x j h
  refine PE.of (pe_callB (call_isY (i := i) e2 wx.pin wx.zc wx.fs) wx.gi wx.mi (by decide +kernel) (pa_cons wx.var0 (pa_cons (pe_glob (v := .ref CC) (wx.gc x j h) m rfl hd) pa_nil))) fun σ H Q ⟨h0, q⟩ => ?_
  exact ⟨.ref a, h0.1, h0.2, .ref CC, .ref CC, 16 == j, rfl, fun u r => r, k, q⟩
theorem WordY.isV {p p1 p2 pos : Pos} : PE X (.Call (.Name "isinstance" p) [.Name wE p1, .Name "ValueError" p2] [] pos) (fun σ H Q => CB a dx i σ H ∧ Q (.bl true) H) := by
  obtain ⟨D, e1, e2, _, k⟩ := wx.is.D
  cases e1
  refine PE.of (pe_callB (call_isY (i := i) e2 wx.pin wx.zc wx.fs) wx.gi wx.mi (by decide +kernel) (pa_cons wx.var0 (pa_cons (pe_bltn (v := .ty "ValueError") wx.gv wx.mv rfl rfl) pa_nil))) fun σ H Q ⟨h0, q⟩ => ?_
  exact ⟨.ref a, h0.1, h0.2, .ty "ValueError", .type "ValueError", true, rfl, fun u r => r, k, q⟩
theorem WordY.isA : ∀ {es : List Expr} {js : List Nat}, isB ns es js = true → PA X es (fun σ H Q => CB a dx i σ H ∧ Q (js.map fun j => V.bl (16 == j)) H)
  | [], [], _ => PA.of pa_nil fun σ H Q ⟨_, q⟩ => q
  | [], _ :: _, h => by cases h
  | _ :: _, [], h => by cases h
  | e :: es, j :: js, h => by
    unfold isB at h
    rw [Bool.and_eq_true] at h
    obtain ⟨h1, h2⟩ := h
    split at h1
    · rename_i f p v p1 x p2 pos
      simp only [Bool.and_eq_true, decide_eq_true_eq, Bool.not_eq_true'] at h1
      obtain ⟨⟨⟨rfl, rfl⟩, hx⟩, hd⟩ := h1
      refine PA.of (pa_cons (wx.isE hx hd) (WordY.isA h2)) fun σ H Q ⟨h0, q⟩ => ⟨h0, h0, q⟩
    · cases h1
theorem WordY.disp {es : List Expr} {js : List Nat} {pos : Pos} (h : isB ns es js = true) (l : js.length ≤ 100) : SEy X px a dx i (.List es pos) (fun _ h => .ok (.lst (js.map fun j => .bl (16 == j))) h) := by
  refine PE.of (pe_lst (wx.isA h)) fun σ H Q ⟨hc, w, e, hh, p⟩ => ⟨hc, by rw [List.length_map, sizeLine_eq]; omega, fun q hq => p.newL hq vrs_bls⟩
/-- the year -/
theorem WordY.yr {p pos : Pos} : PE X (.Attribute (.Name wE p) bAt pos) (fun σ H Q => CB a dx i σ H ∧ Q (.int i) H) := by
  refine ⟨fun pins s σ H Q I ⟨hc, q⟩ => ?_⟩
  refine attr_of (by rfl) (thn (wx.var0.run pins s σ H (fun v H1 => v = .ref a ∧ H1 = H) I ⟨.ref a, hc.1, rfl, rfl⟩) fun u s1 ⟨v, H1, I1, r1, ev, eH⟩ => ?_)
  subst ev; subst eH
  obtain rfl : u = Value.ref a := r1
  obtain ⟨od, mA, J, hr, hl⟩ := inst_Y I1 wx.pin wx.zc wx.fs hc.2
  obtain ⟨u, hu, ru⟩ := RelO.some_of (v := .int i) (o := mA bAt) (by exact hr bAt)
  exact HandSPX.exc_get I1.kIn J wx.xf.ga wx.xf.gg wx.xf.exC (PySem.W.findObj_own wx.xf.hdC wx.no rfl (by rw [hl, hu])) (handed_of ru) ⟨.int i, H1, I1.tok _, ru, q⟩
theorem WordY.rep {p p1 p2 pos : Pos} : SEy X px a dx i (.Call (.Name "repr" p) [.Attribute (.Name wE p1) bAt p2] [] pos) (fun _ h => R.of (dRep (.int i)) h) := by
  refine PE.of (pe_callB (bi_rep (px := px) (W := Wno) wx.cz) wx.gr wx.mr (by decide +kernel) (pa_cons (wx.yr (i := i)) pa_nil)) fun σ H Q ⟨hc, w, e, h, p⟩ => ?_
  exact ⟨hc, σ, w, e, h, [.int i], .cons (.of (.of (.int i))) .nil, p⟩
omit wx in
theorem RestY.at_ {e : Ev} {Dn : Ends} {σ : L2.St} {w w' : Wd} {h : Hs} {H H' : Hp} (rr : RR X.K px w e h σ H) (hc : CB a dx i σ H) (fin : ∀ v w' H', ExtS w H w' H' → HR X.K w' h H' → LamX.Tabs px.T H' → VR X.K w' H' (.str word) v → Dn.rt v H') (x1 : Ext w H w' H') (x2 : HR X.K w' h H') (x3 : LamX.Tabs px.T H') : RestY X.K px a dx i word e Dn σ H' :=
  ⟨w', h, rr.ext x1 x2 x3, hc.ext rr.hr x1, fun u w2 H2 y1 y2 y3 y4 => fin u w2 H2 (x1.s.trans y1) y2 y3 y4⟩
theorem WordY.or_W {e : Ev} {f : Ev → Hs → R D} {b rest : List Stmt} {g : Expr} {p p1 p2 p3 p4 p5 pos : Pos} (hg : ST X px Wno g f) (hf : ∀ h, f e h = .ok (.bl false) h) (hr : PSs X rest (RestY X.K px a dx i word e)) :
    PSs X (.If (.BoolOp .Or [.UnaryOp .Not (.Call (.Name "isinstance" p) [.Name wE p1, .Name "ValueError" p2] [] p3) p4, g] p5) b [] pos :: rest) (RestY X.K px a dx i word e) := by
  have ht := (pw_or (pos := p5) (pt_not (pos := p4) (pt_truth (wx.isV (i := i) (p := p) (p1 := p1) (p2 := p2) (pos := p3)) (isVal_of rfl X.env))) (pw_or1 (pos := p5) hg)).pt
  refine PSs.of (pss_cons (ps_if ht none_PSs pss_nil) hr) fun Dn σ H ⟨w, h, rr, hc, fin⟩ => ?_
  refine ⟨hc, true, (VT.bl (w := w) true).tru rfl, ?_⟩
  show rdT X.K px Wno (tst f) σ H _
  refine ⟨w, e, h, rr, ?_⟩
  unfold tst
  rw [hf h]
  intro k w' H' x1 x2 x3 x4
  have x4 : false = k := x4
  subst x4
  exact RestY.at_ rr hc fin x1 x2 x3
omit wx in
theorem ret_Y {e : Ev} {x : Expr} {f : Ev → Hs → R D} {pos : Pos} (ha : SEy X px a dx i x f) (hf : ∀ h, f e h = .ok (.str word) h) : PSs X [.Return (some x) pos] (RestY X.K px a dx i word e) := by
  refine PSs.of (pss_one (ps_ret ha)) fun Dn σ H ⟨w, h, rr, hc, fin⟩ => ?_
  refine ⟨hc, w, e, h, rr, ?_⟩
  rw [hf h]
  exact fun v w' H' x1 x2 x3 x4 => fin v w' H' x1.s x2 x3 (VT.keep x4 rfl)
omit wx in
theorem yes_Y {e : Ev} {cnd : Expr} {f : Ev → Hs → R D} {b rest : List Stmt} {pos : Pos} (ht : ST X px Wno cnd f) (hf : ∀ h, f e h = .ok (.bl true) h) (hb : PSs X b (RestY X.K px a dx i word e)) : PSs X (.If cnd b [] pos :: rest) (RestY X.K px a dx i word e) := by
  refine PSs.of (pss_cons (ps_if ht hb pss_nil) none_PSs) fun Dn σ H ⟨w, h, rr, hc, fin⟩ => ?_
  refine ⟨w, e, h, rr, ?_⟩
  unfold tst
  rw [hf h]
  intro k w' H' x1 x2 x3 x4
  have x4 : true = k := x4
  subst x4
  exact RestY.at_ rr hc fin x1 x2 x3
/-- the row's end for such an error -/
def wordYB (b : List Stmt) : Bool := match b with
  | [_, _, _, _, _, _, .If _ [.Return (some (.BinOp (.Constant (.str s) _ _) .Add (.Call (.Name r _) [.Attribute (.Name e _) f _] [] _) _)) _] [] _, _] => decide (s = "! broken ") && decide (r = "repr") && decide (e = wE) && decide (f = bAt)
  | _ => false
theorem WordY.rows {b : List Stmt} (h : wordB ns b = true) (h2 : wordYB b = true) (hd : dRep (.int i) = some (.str (PyData.shown (.int i)))) (hw : dBin .add (.str "! broken ") (.str (PyData.shown (.int i))) = some (.str word)) : PSs X b (RestY X.K px a dx i word [.u, .u, .u]) := by
  unfold wordB at h
  split at h
  · rename_i x1 q1 es1 p1 r1 x2 q2 y2 o2 es2 p2 b2 r2 x3 q3 y3 o3 es3 p3 b3 r3 x4 q4 y4 o4 es4 p4 b4 r4 x5 q5 es5 p5 r5 f6 pf6 e6 pe6 v6 pv6 pc6 pn6 k6 pk6 m6 ap6 kk6 pt6 cp6 ko6 po6 pcm6 pb6 t6 pi6 k7 pk7 ki7 pc7 ps7 t7 pi7 s8 ks8 pss8 w8 pw8 es8 pl8 pb8 k8 pk8 m8 ap8 kt8 pt8 cp8 psx8 pbb8 pr8
    simp only [Bool.and_eq_true, decide_eq_true_eq] at h
    obtain ⟨⟨⟨⟨⟨⟨⟨⟨⟨⟨⟨⟨⟨⟨⟨⟨⟨⟨⟨⟨⟨⟨⟨⟨⟨⟨⟨a1, a2⟩, a3⟩, a4⟩, a5⟩, a6⟩, a7⟩, a8⟩, a9⟩, rfl⟩, rfl⟩, rfl⟩, rfl⟩, rfl⟩, rfl⟩, rfl⟩, rfl⟩, rfl⟩, rfl⟩, rfl⟩, rfl⟩, rfl⟩, l6⟩, rfl⟩, rfl⟩, rfl⟩, rfl⟩, l8⟩ := h
    unfold wordYB at h2
    split at h2
    · rename_i heq
      simp only [List.cons.injEq, Stmt.If.injEq, and_true, true_and] at heq
      obtain ⟨_, _, _, _, _, _, ⟨_, rfl, _⟩, _⟩ := heq
      simp only [Bool.and_eq_true, decide_eq_true_eq] at h2
      obtain ⟨⟨⟨rfl, rfl⟩, rfl⟩, rfl⟩ := h2
      have nd : X.N.Nodup := by rw [wx.N]; decide
      have k1 : NmOk X wK 1 := ⟨by rw [wx.N]; rfl, .inl wx.l1, .inr wx.l1⟩
      have k2 : NmOk X wW 2 := ⟨by rw [wx.N]; rfl, .inl wx.l2, .inr wx.l2⟩
      have v1 : ∀ {p : Pos}, SE X px Wno (.Name wK p) (fun e h => R.of (evV e 1) h) := se_v (by rw [wx.N]; rfl) (.inl wx.l1) (by decide) (by decide)
      have tr : ∀ {j : Nat} {p : Pos}, SE X px Wno (.Constant (.bool true) j p) (fun _ h => .ok (.bl true) h) := se_c rfl
      refine set_Y (d := kD 16 j1L) nd k1 (by decide) (noComp_sw rfl _ _ _) (wx.disp a1 (by decide)) (fun h => rfl) rfl ?_
      refine set_Y (d := kD 16 (j1L ++ j2L)) nd k1 (by decide) (noComp_sw rfl _ _ _) (SEy.add v1 (wx.disp a2 (by decide))) (fun h => rfl) rfl ?_
      refine set_Y (d := kD 16 (j1L ++ j2L ++ j3L)) nd k1 (by decide) (noComp_sw rfl _ _ _) (SEy.add v1 (wx.disp a3 (by decide))) (fun h => rfl) rfl ?_
      refine set_Y (d := kD 16 allJ) nd k1 (by decide) (noComp_sw rfl _ _ _) (SEy.add v1 (wx.disp a4 (by decide))) (fun h => rfl) rfl ?_
      refine set_Y (d := .lst (w1L.map .str)) nd k2 (by decide) (noComp_sw rfl _ _ _) (SEy.of (strD a5 (by omega) (by rw [a7]; rfl))) (fun h => rfl) rfl ?_
      refine wx.or_W (st_cmp (o := .ne) wx.cz (se_meth (m := .count) PySem.F.plainAttrs_list PySem.F.slot_list_count PySem.F.type_list_count (mt_countD wx.cz) v1 tr rfl rfl l6) (se_c (d := .int 1) rfl) rfl) (fun h => ?_) ?_
      · show ((R.of (dBi .count [kD 16 allJ, .bl true]) h).bind fun x h => (R.ok (D.int 1) h).bind fun y h => R.of ((dCmp .ne x y).map D.bl) h) = _
        have hcnt : dBi .count [kD 16 allJ, .bl true] = some (.int 1) := rfl
        rw [hcnt]
        rfl
      refine yes_Y (st_val (se_ix v1 (se_c (d := .int 15) rfl) rfl) (isVal_of rfl X.env)) (fun h => rfl) ?_
      refine ret_Y (SEy.add (se_c (d := .str "! broken ") (by simp [chkC])) wx.rep) (fun h => ?_)
      show (R.of (dRep (.int i)) h).bind (fun y h => R.of (dBin .add (.str "! broken ") y) h) = _
      rw [hd, R.of_some, R.bind_ok, hw]
      rfl
    · cases h2
  · cases h
end
/-- the promise of `_law_word` at such an error -/
def WordFB (P : Program) (wo : World) (K : PySem.W.Frag) (mg : Str → Option Value) (base : Heap) (px : Px) (ns : List (Str × Nat)) (k : Nat) (f : Addr) (fd : FuncData) : Prop :=
  ∀ (A : Around) (outer : List Env) (s : Shared) (H : Hp) (a dx : Addr) (oe : Obj) (C : Addr) (i : Int) (word : Str) (w : Wd) (h : Hs) (Q : VK), L2H.RoomH k A → A.guards = some [] → L2H.PinOk outer H s (a, oe) → Zc (.ref C) (some dx) oe → (∃ vs, oe.data = .fields vs) → IsW K (.ref C) 16 ns mg → XfC K C → PySem.W.findIn K (.ref C) "at" = some none → H dx = some (.xd [(bAt, .int i)]) →
    dRep (.int i) = some (.str (PyData.shown (.int i))) → dBin .add (.str "! broken ") (.str (PyData.shown (.int i))) = some (.str word) →
    Env0 P wo K mg base A outer s H → BindsTo s fd ⟨[.ref a], []⟩ [(wE, .ref a)] → w.ow = [] → HR K w h H → LamX.Tabs px.T H → (∀ v w' H', ExtS w H w' H' → HR K w' h H' → LamX.Tabs px.T H' → VR K w' H' (.str word) v → Q v H') →
    codeAny (model P wo) A (.call (.ref f) ⟨[.ref a], []⟩) (CR C8.CX0 outer P wo H s Q C8.E0) s
section
variable {P : Program} {wo : World} {K : PySem.W.Frag} {mg : Str → Option Value} {base : Heap} {px : Px} {ns : List (Str × Nat)} {k : Nat} {f : Addr} {name qual : Str} {params : Arguments} {body : List Stmt} {scope : Scope} {dV kV doc pm cdv ct oc : Value} {an od : Option Addr} {osl : Array (Option Value)}
theorem wordFB_of (lk : K.lookup f = some ⟨oc, od, .func (PySem.W.fnOf name qual params body scope dV kV doc pm an cdv ct), osl⟩) (hcd : PySem.W.codeIn K cdv qual = true) (S : FnScope [wE, wK, wW] [wE] scope) (hb : wordB ns body = true) (hb2 : wordYB body = true) (hs : wordSB ns scope = true) (hs2 : scope.names.lookup ("repr" : Str) = some NameKind.globalImplicit)
    (mi : mg "isinstance" = none) (mv : mg "ValueError" = none) (mr : mg "repr" = none) (sm : ∃ o, base.get? sysModules = some o ∧ o.cls ≠ .type "list") : WordFB P wo K mg base px ns (k + 1) f (PySem.W.fnOf name qual params body scope dV kV doc pm an cdv ct) := by
  intro A outer s H a dx oe C i word w h Q hr gd hpin hz hf his hxf hno hdx hd hw e0 hbd how hh tb fin
  have KX : K.In s.heap := e0.mod.kin.keeps fun b o e => (e0.bs b o e).1
  have lim : s.heap.NoLimit := e0.mod.nolimit.keeps fun b o e => (e0.bs b o e).1
  have hk0 : ∀ y ∈ [(wE, Value.ref a)], scope.names.lookup y.1 = some .local ∨ (scope.names.lookup y.1 = some .cell ∧ ((cellsFrom (s.heap.objs.size + 1) scope.names []).lookup y.1).isSome = true) := fun y hy => by
    rcases S.par wE List.mem_cons_self with q | q
    · exact .inl (by rw [List.mem_singleton.mp hy]; exact q)
    · exact .inr (by rw [List.mem_singleton.mp hy]; exact ⟨q, PySem.W.cellsFrom_some _ _ _ (.inl q)⟩)
  refine codeAny_call_function hr.depth (KX _ _ lk) rfl S.co S.gen rfl (PySem.W.codeRec_of KX hcd) (hbd _ _ _ _ ?_)
  refine wpAny_newFunctionEnv_cells S.kind hk0 fun env he s1 x => ?_
  subst he
  refine ⟨lim.keeps x.toInCall.keep, codeAny_func ?_⟩
  have I : Inv (L2H.cxH C8.CX0 P wo K mg base [wE, wK, wW] qual scope f cdv A outer s H C8.E0 (a, oe)) [] (L2.start [wE, wK, wW] [.ref a]) H s1 := L2H.inv_startH (ps := [wE]) (us := [.ref a]) S hpin e0 rfl (.cons rfl .nil) x
  unfold wordSB at hs
  simp only [Bool.and_eq_true, decide_eq_true_eq, List.all_eq_true] at hs
  obtain ⟨⟨⟨⟨⟨s1', s2⟩, s3⟩, s4⟩, s5⟩, s6⟩ := hs
  have wx : WordY (L2H.cxH C8.CX0 P wo K mg base [wE, wK, wW] qual scope f cdv A outer s H C8.E0 (a, oe)) a dx oe C ns := by
    refine ⟨rfl, s1', s2, s3, s4, mi, s5, mv, hs2, mr, fun x j hx => s6 (x, j) (PySem.mem_of_lookup hx), ⟨?_, gd, sm⟩, List.mem_cons_self, hz, hf, his, hxf, hno⟩
    have := hr.un
    show (A.deeper _).units + 200 < cLine
    show A.units + 3 + 200 < cLine
    omega
  have rows := wx.rows (px := px) (i := i) (word := word) hb hb2 hd hw
  have rr : RR K px (w.enter 3) [.u, .u, .u] h (L2.start [wE, wK, wW] [.ref a]) H := by
    refine ⟨hh.weak rfl (fun a z => Wd.enter_forb z) (fun a ha => ⟨rep_none, (hh.sep a ha).2⟩) hh.prd, ⟨rfl, rfl, fun i => ?_, fun i j a q => (rep_none (List.mem_iff_getElem?.mpr ⟨i, q⟩)).elim, fun i a q => (rep_none (List.mem_iff_getElem?.mpr ⟨i, q⟩)).elim⟩, tb⟩
    rcases i with _ | _ | _ | i <;> exact trivial
  refine wpAny_mono (rows.run [] s1 _ H { nx := fun _ H' => Q .non H', rt := Q } I ⟨w.enter 3, h, rr, ⟨rfl, hdx⟩, fun v w' H' x1 x2 x3 x4 => fin v w' H' (ext_enter.trans x1) x2 x3 x4⟩) (fun fl s' hs => ?_) fun e s' hs => hs
  cases fl with
  | ret u => obtain ⟨v, σ', H', J, rv, q⟩ := hs; exact ⟨v, H', J.os, J.bare, J.base, J.hok, rv, q⟩
  | next => obtain ⟨σ', H', J, q⟩ := hs; exact ⟨V.non, H', J.os, J.bare, J.base, J.hok, rfl, q⟩
  | brk => obtain ⟨_, _, _, q⟩ := hs; exact q.elim
  | cont => obtain ⟨_, _, _, q⟩ := hs; exact q.elim
end
end Tv
end

section
set_option autoImplicit false
set_option maxHeartbeats 2000000
/-! A lambda made, handed over, called. -/
namespace Tv
open PySem PySem.Spec PyProof.Rows L2
section
variable {X : Cx} {pins : List (Addr × Obj)} {σ : L2.St} {H HZ : Hp} {s s1 : Shared}
/-- the lambda is made; no address goes free -/
theorem lam_made {T : List (Addr × Str)} {c P : Addr} {ar : Arguments} {bd : Expr} {sc : Scope} {pos : Pos} {E Q : Value → Shared → Prop} (I : Inv X pins σ H s) (TB : LamX.TabB X.base X.mg c P) (hcd : X.env.code = .ref c) (hm : (P, X.env.qual ++ "<lambda>") ∈ T) (hu : ∀ p ∈ T, p.1 = P → p.2 = X.env.qual ++ "<lambda>")
    (hT : LamX.Tabs T H) (hdf : defaultsOf ar X.env = ([], [])) (hfree : ∀ y ∈ sc.names, y.2 = .free → ∃ c, X.env.cells.lookup y.1 = some c)
    (go : ∀ (f c' : Addr) (pm ctv : Value) (H1 : Hp) (s' : Shared), Inv X pins σ H1 s' → LamX.ExtN H H1 → (∀ b, H1 b = none → H b = none) → LamX.Tabs T H1 → s'.heap.get? f = some (PySem.W.kla_obj "<lambda>" (X.env.qual ++ "<lambda>") ar bd sc (cloFrom X.env.cells sc.names []) pm c' ctv) → H1 f = none → f ∉ frs X.stack → H1 c' = some (LamX.CodeO c' (X.env.qual ++ "<lambda>")) → Q (.ref f) s') :
    wpAny (model X.prog X.w) X.A (eval (.Lambda ar bd sc pos) X.env) Q E s := by
  obtain ⟨ps, hP, ht, ha⟩ := hT _ hm
  refine PySem.W.kla_eval hdf ?_
  have bP : s.heap.BuiltinsAt X.mg P := TB.bm.keeps I.bk; have hP' : s.heap.get? P = some { cls := .none, data := .fields ps } := I.hok P _ hP
  have nofr : ∀ f, s.heap.objs.size ≤ f → f ∉ frs X.stack := fun f hf z => (List.mem_cons.mp (I.stkSub _ z)).elim (fun e => Nat.lt_irrefl _ (Nat.lt_of_lt_of_le (e ▸ I.lt) hf)) fun e => I.nofs hf e
  cases hc : codeAmong pos ps.toList with
  | none =>
    refine PySem.W.kla_makeFunction (mg := X.mg) (c := c) (P := P) (ps := ps) (closure_ok hfree) I.ok.glob (I.mod.glob.keeps I.bk) hcd (TB.code.keeps I.bk) hP' ht hc TB.gP bP fun c' ctv h' tk hx hge hlt hrec htb => ?_
    obtain ⟨c2, oc, vs, t, e2, hoc, hd, hv⟩ := hrec; cases e2
    have hsz : s.heap.objs.size ≤ h'.objs.size := Nat.le_trans hge (Nat.le_of_lt hlt); have nC : H c' = none := I.hok.fresh hge
    have I1 := LamX.inv_table (t' := tk) (more := #[rawInt pos.line, rawInt pos.col, .ref c']) (h' := h'.push (PySem.W.kla_obj "<lambda>" (X.env.qual ++ "<lambda>") ar bd sc (cloFrom X.env.cells sc.names []) ((X.mg "__name__").getD .none) c' ctv)) I hP (fun b o hb e => Heap.get?_push_of_some _ (hx b o hb e)) (Heap.get?_push_of_some _ htb) hge ⟨oc, vs, t, Heap.get?_push_of_some _ hoc, hd, hv⟩
    have hE : LamX.ExtN H (upd (upd H P (.tbl (ps ++ #[rawInt pos.line, rawInt pos.col, .ref c']))) c' (LamX.CodeO c' (X.env.qual ++ "<lambda>"))) := fun b o e n => by
      rw [upd_ne (ne_of_none e nC), upd_ne (fun z => n ps (Option.some.inj (e.symm.trans (by rw [z]; exact hP)))), e]
    have hD : ∀ b, upd (upd H P (.tbl (ps ++ #[rawInt pos.line, rawInt pos.col, .ref c']))) c' (LamX.CodeO c' (X.env.qual ++ "<lambda>")) b = none → H b = none := fun b e => by
      by_cases h1 : b = c'
      · rw [h1]; exact nC
      · by_cases h2 : b = P
        · rw [upd_ne h1, h2, upd_same] at e; cases e
        · rw [upd_ne h1, upd_ne h2] at e; exact e
    have eL : (ps ++ #[rawInt pos.line, rawInt pos.col, .ref c']).toList = ps.toList ++ [rawInt pos.line, rawInt pos.col, .ref c'] := by simp
    refine go h'.objs.size c' ((X.mg "__name__").getD .none) ctv _ _ I1 hE hD (fun p hp => ?_) (Heap.get?_push_size _ rfl) ?_ (nofr _ hsz) upd_same
    · by_cases hb : p.1 = P
      · rw [hu p hp hb, hb]
        refine ⟨_, by rw [upd_ne (ne_of_none hP nC), upd_same], by rw [eL]; exact PySem.TriplesOk_snoc _ _ _ _ ht, fun p' cv hcv => ?_⟩
        rw [eL] at hcv
        rcases LamX.among_app _ ht hcv with z | z
        · obtain ⟨c0, e1, e2⟩ := ha p' cv z; exact ⟨c0, e1, hE _ _ e2 LamX.codeO_ne⟩
        · exact ⟨c', z, upd_same⟩
      · obtain ⟨ps', a1, a2, a3⟩ := hT p hp
        refine ⟨ps', by rw [upd_ne (ne_of_none a1 nC), upd_ne hb, a1], a2, fun p' cv hcv => ?_⟩
        obtain ⟨c0, e1, e2⟩ := a3 p' cv hcv; exact ⟨c0, e1, hE _ _ e2 LamX.codeO_ne⟩
    · rw [upd_ne (Nat.ne_of_gt hlt), upd_ne (Nat.ne_of_gt (Nat.lt_of_lt_of_le (Heap.lt_size hP') hsz))]
      exact I.hok.fresh hsz
  | some cv =>
    obtain ⟨c', e, hco⟩ := ha pos cv hc; subst e
    refine PySem.W.kla_makeFunctionHit (mg := X.mg) (c := c) (P := P) (ps := ps) (closure_ok hfree) I.ok.glob (I.mod.glob.keeps I.bk) hcd (TB.code.keeps I.bk) hP' ht hc bP fun ctv h' tk hx hsz => ?_
    have I1 : Inv X pins σ H { s with heap := h'.push (PySem.W.kla_obj "<lambda>" (X.env.qual ++ "<lambda>") ar bd sc (cloFrom X.env.cells sc.names []) ((X.mg "__name__").getD .none) c' ctv), toks := tk } := I.kept fun b o e => Heap.get?_push_of_some _ (hx b o e)
    exact go h'.objs.size c' ((X.mg "__name__").getD .none) ctv H _ I1 (LamX.ExtN.refl H) (fun _ e => e) hT (Heap.get?_push_size _ rfl) (I.hok.fresh hsz) (nofr _ hsz) hco
/-- it is called where it was handed in -/
theorem lam_act {CXg : CXT} {Eg E : XK} {Ng : List Str} {qg a : Str} {sg sc : Scope} {g f c' : Addr} {cdg pm ctv : Value} {ar : Arguments} {bd : Expr} {i : Nat} {pn : List (Addr × Obj)} {xe : Value → Shared → Prop} {W : WX} {tb : TE} {p1 p2 : Pos} (I : Inv X pins σ H s) (L : LamX.LamS X.env.scope sc)
    (hf : s.heap.get? f = some (PySem.W.kla_obj "<lambda>" (X.env.qual ++ "<lambda>") ar bd sc (cloFrom X.env.cells sc.names []) pm c' ctv)) (hfn : H f = none) (hfr : f ∉ frs X.stack) (hbi : bindArgs (PySem.W.kla_fn "<lambda>" (X.env.qual ++ "<lambda>") ar bd sc (cloFrom X.env.cells sc.names []) pm (.ref c') ctv) ⟨[], []⟩ = pure [])
    (tk : Takes ((cxOf CXg X.prog X.w X.K X.mg X.base Ng qg sg g cdg X.A X.stack s H Eg).tr pn xe) W) (hW : ∀ cls d σ' H', E cls d H' → W cls d σ' H') (hr : Room 1 (X.A.deeper (envOfC qg sg s.heap.objs.size g cdg)))
    (hbody : ∀ (outer : List Env) (s0 : Shared) (H : Hp), PE (LamX.lamCx X (X.A.deeper (envOfC qg sg s.heap.objs.size g cdg)) outer s0 H E sc f c') bd tb) (hN : Ng[i]? = some a) (hv : Vis sg a) (hd : (a == ("__debug__" : Str)) = false) (hcd : (a == ("__classdict__" : Str)) = false) :
    PE ((cxOf CXg X.prog X.w X.K X.mg X.base Ng qg sg g cdg X.A X.stack s H Eg).tr pn xe) (.Call (.Name a p1) [] [] p2) (fun σZ HZ Q => σZ[i]? = some (some (.ref f)) ∧ HZ c' = some (LamX.CodeO c' (X.env.qual ++ "<lambda>")) ∧ tb σ HZ Q) := by
  refine ⟨fun pinsZ sZ σZ HZ Q IZ ⟨hs, hc, ht⟩ => ?_⟩
  refine wpAny_Call_Name_kw (thn ((pe_var (pos := p1) (i := i) hN hv hd hcd).run pinsZ sZ σZ HZ (fun v H1 => v = .ref f ∧ H1 = HZ) IZ ⟨.ref f, hs, rfl, rfl⟩) fun u s1 ⟨v, H1, I1, r1, ev, eH⟩ => ?_)
  subst ev; rw [eH] at I1
  obtain rfl : u = Value.ref f := r1
  have of1 : s1.heap.get? f = some (PySem.W.kla_obj "<lambda>" (X.env.qual ++ "<lambda>") ar bd sc (cloFrom X.env.cells sc.names []) pm c' ctv) := I1.base.keep f _ hf hfn hfr (fun z => nomatch (show f ∈ ([] : List Addr) from z))
  refine PySem.W.callWith_F0 ⟨_, _, _, _, of1⟩ ?_
  have un : Un (frs X.stack) [] H HZ s.heap s1.heap := I1.base
  obtain ⟨⟨oc, vs, t, hoc, hdc, hvc⟩, _, _⟩ := I1.hok c' _ hc
  have rc : codeAny (model X.prog X.w) (X.A.deeper (envOfC qg sg s.heap.objs.size g cdg)) (.call (.ref f) ⟨[], []⟩) (CR (L2.CX X.prog X.w) (envOfC qg sg s.heap.objs.size g cdg :: X.stack) X.prog X.w HZ s1 Q E) s1 := by
    refine PySem.W.kla_callFunE hr.depth of1 rfl L.co L.gen rfl ⟨c', oc, vs, t, rfl, hoc, hdc, hvc⟩ ?_
    rw [hbi]
    refine wpAny_pure (wpAny_newFunctionEnv (fun y hy => (L.own y hy).2) (fun y hy => absurd hy (by simp)) (fun h₁ hns hsb => ⟨I1.nolimit.fresh _ hsb, ?_⟩) L.kind)
    show codeAny _ _ (.expr bd (LamX.lamEnv X sc s1.heap.objs.size f c')) _ _
    have kp : ∀ b o, s1.heap.get? b = some o → h₁.get? b = some o := fun b o e => hsb.extBut b o (Nat.ne_of_lt (Heap.lt_size e)) (Heap.get?_push_of_some _ e)
    have J : Inv (LamX.lamCx X (X.A.deeper (envOfC qg sg s.heap.objs.size g cdg)) (envOfC qg sg s.heap.objs.size g cdg :: X.stack) s1 HZ E sc f c') [] σ HZ { s1 with heap := h₁, toks := s1.toks + ([] : List (Str × Value)).length } := LamX.lam_start2 I L I1.env0 hr.hd un hns kp
    refine PySem.W.kla_codeExpr (wpAny_mono ((hbody _ s1 HZ).run [] _ _ HZ Q J ht) (fun v s' hq => ?_) fun e s' hq => hq)
    obtain ⟨w', H', J', rv, q⟩ := hq; exact ⟨w', H', J'.os, J'.bare, J'.base, J'.hok, rv, q⟩
  refine wpAny_call (codeAny_mono rc fun r s' hq => ?_)
  cases r with
  | error e => exact passes_call tk hW pinsZ σZ HZ s1 e s' I1 hq
  | ok fl =>
    cases fl with
    | ret u => exact I1.after hq
    | next => exact False.elim hq
    | brk => exact False.elim hq
    | cont => exact False.elim hq
end
end Tv
end

section
set_option autoImplicit false
set_option maxHeartbeats 2000000
/-! `_law_said`: what a call tells, or the word of its error. -/
namespace Tv
open PySem PySem.Spec PyProof.Rows L2
abbrev wC : Str := "_law_call"
def saidB (b : List Stmt) : Bool := match b with
  | [.Try [.Return (some (.Call (.Name r _) [.Call (.Name a _) [] [] _] [] _)) _] [.ExceptHandler (some (.Name t _)) (some n) [.Return (some (.Call (.Name wd _) [.Name e _] [] _)) _] _] [] [] _] =>
    decide (r = "repr") && decide (a = wC) && decide (t = "TurnError") && decide (n = wE) && decide (wd = "_law_word") && decide (e = wE)
  | _ => false
def saidSB (sc : Scope) : Bool :=
  decide (sc.names.lookup wC = some NameKind.local) && decide (sc.names.lookup wE = some NameKind.local) && decide (sc.names.lookup ("repr" : Str) = some NameKind.globalImplicit) && decide (sc.names.lookup ("TurnError" : Str) = some NameKind.globalImplicit) && decide (sc.names.lookup ("_law_word" : Str) = some NameKind.globalImplicit)
/-- the two defs, as the world has them -/
structure SaidG (P : Program) (wo : World) (K : PySem.W.Frag) (mg : Str → Option Value) (base : Heap) (px : Px) : Prop where
  sd : ∃ (g : Addr) (oc : Value) (od : Option Addr) (osl : Array (Option Value)) (pg : Arguments) (bg : List Stmt) (sg : Scope) (dV kV doc pm cdv ct : Value) (an : Option Addr), K.lookup g = some ⟨oc, od, .func (PySem.W.fnOf "_law_said" "_law_said" pg bg sg dV kV doc pm an cdv ct), osl⟩ ∧ PySem.W.codeIn K cdv "_law_said" = true ∧
    mg "_law_said" = some (.ref g) ∧ PySem.W.keepIn K (.ref g) = true ∧ L2.Binds K (PySem.W.fnOf "_law_said" "_law_said" pg bg sg dV kV doc pm an cdv ct) [wC] [] ∧ FnScope [wC, wE] [wC] sg ∧ saidB bg = true ∧ saidSB sg = true
  wd : ∃ (f : Addr) (fd : FuncData) (ns : List (Str × Nat)), mg "_law_word" = some (.ref f) ∧ PySem.W.keepIn K (.ref f) = true ∧ L2.Binds K fd [wE] [] ∧ WordF P wo K mg base px ns 1 f fd ∧ (∀ c, 1 ≤ c → c ≤ 15 → IsW K (.ref (px.ex c)) c ns mg) ∧ WordFB P wo K mg base px ns 1 f fd ∧ IsW K (.ref (px.ex 16)) 16 ns mg
  br : XfC K (px.ex 16) ∧ PySem.W.findIn K (.ref (px.ex 16)) "at" = some none
  cs : ∃ CS : Addr, mg "TurnError" = some (.ref CS) ∧ ∀ c, 1 ≤ c → c ≤ 16 → PySem.W.exmOne K (.ref (px.ex c)) (.ref CS) = some true
  rp : mg "repr" = none
/-- where a lambda is made -/
structure SaidX (X : Cx) (px : Px) (kk : Nat) : Prop where
  tb : ∃ c P, LamX.TabB X.base X.mg c P ∧ X.env.code = .ref c ∧ (P, X.env.qual ++ "<lambda>") ∈ px.T ∧ ∀ p ∈ px.T, p.1 = P → p.2 = X.env.qual ++ "<lambda>"
  rm : Room 2 X.A
  rk : ∀ e1 e2, Room (kk + 3) ((X.A.deeper e1).deeper e2)
def fSaid (fa : Ev → Hs → R D) : Ev → Hs → R D := fun e h => match fa e h with
  | .ok d h => if d.shows then .ok (.str (PyData.shown d.py)) h else .bad
  | .exc x h => if wordFits x then .ok (.str (wordOf x)) h else .bad
  | .bad => .bad
section
variable {X : Cx} {px : Px} {W : WX} {kk : Nat}
/-- what the caught error must give -/
def CatchW (K : PySem.W.Frag) (px : Px) (cls : Value) (dd : Option Addr) (H : Hp) (Q : VK) : Prop := dd = none ∧ ∃ c w h, 1 ≤ c ∧ c ≤ 15 ∧ cls = .ref (px.ex c) ∧ Wd.ow w = [] ∧ HR K w h H ∧ LamX.Tabs px.T H ∧ ∀ v w' H', ExtS w H w' H' → HR K w' h H' → LamX.Tabs px.T H' → VR K w' H' (.str (wordN c)) v → Q v H'
/-- the same of a course that breaks -/
def CatchB (K : PySem.W.Frag) (px : Px) (cls : Value) (dd : Option Addr) (H : Hp) (Q : VK) : Prop := ∃ (dx : Addr) (i : Int) (word : Str) (w : Wd) (h : Hs), dd = some dx ∧ cls = .ref (px.ex 16) ∧ H dx = some (.xd [(bAt, .int i)]) ∧ dRep (.int i) = some (.str (PyData.shown (.int i))) ∧ dBin .add (.str "! broken ") (.str (PyData.shown (.int i))) = some (.str word) ∧
  Wd.ow w = [] ∧ HR K w h H ∧ LamX.Tabs px.T H ∧ ∀ v w' H', ExtS w H w' H' → HR K w' h H' → LamX.Tabs px.T H' → VR K w' H' (.str word) v → Q v H'
/-- the word is told where the error was caught -/
theorem word_call {X0 : Cx} {a : Addr} {oe : Obj} {cls : Value} {d : Option Addr} {pn : List (Addr × Obj)} {f : Addr} {fd : FuncData} {ns : List (Str × Nat)} {p p1 pos : Pos} (hN : X0.N = [wC, wE]) (hv : X0.env.scope.names.lookup wE = some NameKind.local) (hg : Gl X0 "_law_word") (hm : X0.mg "_law_word" = some (.ref f)) (hk : PySem.W.keepIn X0.K (.ref f) = true) (hb : L2.Binds X0.K fd [wE] [])
    (F : WordF X0.prog X0.w X0.K X0.mg X0.base px ns 1 f fd) (his : ∀ c, 1 ≤ c → c ≤ 15 → IsW X0.K (.ref (px.ex c)) c ns X0.mg) (hr : L2H.RoomH 1 X0.A) (gd : X0.A.guards = some []) (hz : Zc cls d oe) (hf : ∃ vs, oe.data = .fields vs) :
    PE (X0.suite a ((a, oe) :: pn)) (.Call (.Name "_law_word" p) [.Name wE p1] [] pos) (fun σ H Q => (∃ σ0 : L2.St, σ = σ0.set 1 (some (.ref a))) ∧ CatchW X0.K px cls d H Q) := by
  refine ⟨fun pins s σ H Q I ⟨⟨σ0, hσ⟩, hd, c, w, h, c1, c2, ecl, how, hh, tb, fin⟩ => ?_⟩
  subst hd; subst ecl
  have h1 : σ[1]? = some (some (.ref a)) := by
    have l : σ.length = 2 := by rw [I.len]; show X0.N.length = 2; rw [hN]; rfl
    rw [hσ] at l ⊢
    rw [List.length_set] at l
    exact List.getElem?_set_self (by omega)
  refine wpAny_Call_Name_kw (ld_glob (X := X0.suite a ((a, oe) :: pn)) I hg hm ?_ (by decide))
  refine PySem.W.callWith_K (h₀ := X0.base) I.ok.mod.kin hk (thn ((pa_cons (X := X0.suite a ((a, oe) :: pn)) (pe_var (i := 1) (by show X0.N[1]? = _; rw [hN]; rfl) (.inl hv)) pa_nil).run pos pins s σ H (fun vs H1 => vs = [.ref a] ∧ H1 = H) I ⟨.ref a, h1, rfl, rfl⟩) fun us s1 ⟨vs, H1, I1, r, ev, eH⟩ => ⟨I1.kIn, ?_⟩) rfl rfl
  subst ev; subst eH
  obtain ⟨u, rfl, ru⟩ := vals1 r
  cases ru
  have b := hb s1 [.ref a] I1.kIn rfl
  rw [List.append_nil] at b
  have P1 := I1.pin (a, oe) (List.mem_append_left _ List.mem_cons_self)
  have hpin : L2H.PinOk (X0.suite a ((a, oe) :: pn)).stack H1 s1 (a, oe) := ⟨P1.1, P1.2.1, fun hm => (List.mem_cons.mp (I1.stkSub a hm)).elim P1.2.2.1 P1.2.2.2.1, P1.2.2.2.2⟩
  refine wpAny_call (codeAny_mono (F (X0.suite a ((a, oe) :: pn)).A (X0.suite a ((a, oe) :: pn)).stack s1 H1 a oe (.ref (px.ex c)) c (wordN c) w h Q ⟨hr.dp, hr.un⟩ gd hpin hz hf (his c c1 c2) (words_of c c1 c2) I1.env0 b how hh tb fin) fun r s' hq => ?_)
  cases r with
  | error e => exact (show False from hq).elim
  | ok fl =>
    cases fl with
    | ret u => exact I1.after hq
    | next => exact False.elim hq
    | brk => exact False.elim hq
    | cont => exact False.elim hq
theorem word_callB {X0 : Cx} {a : Addr} {oe : Obj} {cls : Value} {d : Option Addr} {pn : List (Addr × Obj)} {f : Addr} {fd : FuncData} {ns : List (Str × Nat)} {p p1 pos : Pos} (hN : X0.N = [wC, wE]) (hv : X0.env.scope.names.lookup wE = some NameKind.local) (hg : Gl X0 "_law_word") (hm : X0.mg "_law_word" = some (.ref f)) (hk : PySem.W.keepIn X0.K (.ref f) = true) (hb : L2.Binds X0.K fd [wE] [])
    (F : WordFB X0.prog X0.w X0.K X0.mg X0.base px ns 1 f fd) (his : IsW X0.K (.ref (px.ex 16)) 16 ns X0.mg) (hxf : XfC X0.K (px.ex 16)) (hno : PySem.W.findIn X0.K (.ref (px.ex 16)) "at" = some none) (hr : L2H.RoomH 1 X0.A) (gd : X0.A.guards = some []) (hz : Zc cls d oe) (hf : ∃ vs, oe.data = .fields vs) :
    PE (X0.suite a ((a, oe) :: pn)) (.Call (.Name "_law_word" p) [.Name wE p1] [] pos) (fun σ H Q => (∃ σ0 : L2.St, σ = σ0.set 1 (some (.ref a))) ∧ CatchB X0.K px cls d H Q) := by
  refine ⟨fun pins s σ H Q I ⟨⟨σ0, hσ⟩, dx, i, word, w, h, hd, ecl, hdx, hrp, hwd, how, hh, tb, fin⟩ => ?_⟩
  subst hd; subst ecl
  have h1 : σ[1]? = some (some (.ref a)) := by
    have l : σ.length = 2 := by rw [I.len]; show X0.N.length = 2; rw [hN]; rfl
    rw [hσ] at l ⊢
    rw [List.length_set] at l
    exact List.getElem?_set_self (by omega)
  refine wpAny_Call_Name_kw (ld_glob (X := X0.suite a ((a, oe) :: pn)) I hg hm ?_ (by decide))
  refine PySem.W.callWith_K (h₀ := X0.base) I.ok.mod.kin hk (thn ((pa_cons (X := X0.suite a ((a, oe) :: pn)) (pe_var (i := 1) (by show X0.N[1]? = _; rw [hN]; rfl) (.inl hv)) pa_nil).run pos pins s σ H (fun vs H1 => vs = [.ref a] ∧ H1 = H) I ⟨.ref a, h1, rfl, rfl⟩) fun us s1 ⟨vs, H1, I1, r, ev, eH⟩ => ⟨I1.kIn, ?_⟩) rfl rfl
  subst ev; subst eH
  obtain ⟨u, rfl, ru⟩ := vals1 r
  cases ru
  have b := hb s1 [.ref a] I1.kIn rfl
  rw [List.append_nil] at b
  have P1 := I1.pin (a, oe) (List.mem_append_left _ List.mem_cons_self)
  have hpin : L2H.PinOk (X0.suite a ((a, oe) :: pn)).stack H1 s1 (a, oe) := ⟨P1.1, P1.2.1, fun hm => (List.mem_cons.mp (I1.stkSub a hm)).elim P1.2.2.1 P1.2.2.2.1, P1.2.2.2.2⟩
  refine wpAny_call (codeAny_mono (F (X0.suite a ((a, oe) :: pn)).A (X0.suite a ((a, oe) :: pn)).stack s1 H1 a dx oe (px.ex 16) i word w h Q ⟨hr.dp, hr.un⟩ gd hpin hz hf his hxf hno hdx hrp hwd I1.env0 b how hh tb fin) fun r s' hq => ?_)
  cases r with
  | error e => exact (show False from hq).elim
  | ok fl =>
    cases fl with
    | ret u => exact I1.after hq
    | next => exact False.elim hq
    | brk => exact False.elim hq
    | cont => exact False.elim hq
theorem PE.orR {X : Cx} {e : Expr} {t u : TE} (h1 : PE X e t) (h2 : PE X e u) : PE X e (fun σ H Q => t σ H Q ∨ u σ H Q) := ⟨fun pins s σ H Q I z => z.elim (h1.run pins s σ H Q I) (h2.run pins s σ H Q I)⟩
end
end Tv
end

section
set_option autoImplicit false
set_option maxHeartbeats 2000000
/-! `_law_said(lambda: ..)` as an expression. -/
namespace Tv
open PySem PySem.Spec PyProof.Rows L2
section
variable {X : Cx} {px : Px} {W : WX} {kk : Nat}
theorem cz_of {Z : Cx} (un : Z.A.units + 200 < cLine) (gd : Z.A.guards = some []) (sm : ∃ o, Z.base.get? sysModules = some o ∧ o.cls ≠ .type "list") : Cz Z := ⟨un, gd, sm⟩
theorem se_said {fa : Ev → Hs → R D} {ar : Arguments} {bd : Expr} {sc : Scope} {p lpos pos : Pos} (G : SaidG X.prog X.w X.K X.mg X.base px) (S : SaidX X px kk) (z : Cz X) (hg : Gl X "_law_said") (L : LamX.LamS X.env.scope sc) (hdf : defaultsOf ar X.env = ([], []))
    (hbi : ∀ (q : Str) (cl : List (Str × Addr)) (pm cv ctv : Value), bindArgs (PySem.W.kla_fn "<lambda>" q ar bd sc cl pm cv ctv) ⟨[], []⟩ = pure [])
    (hbody : ∀ (e1 : Env) (outer : List Env) (s0 : Shared) (H : Hp) (E : XK) (f c' : Addr), SE (LamX.lamCx X (X.A.deeper e1) outer s0 H E sc f c') px (fun cls d _ H => E cls d H) bd fa) :
    SE X px W (.Call (.Name "_law_said" p) [.Lambda ar bd sc lpos] [] pos) (fSaid fa) := by
  refine ⟨fun pins s σ H Q I ⟨w, e, h, pr⟩ => ?_⟩
  obtain ⟨g, oc, od, osl, pg, bg, sg, dV, kV, doc, pm, cdv, ct, an, lk, hcd, hm, hk, hb, Sg, hB, hS⟩ := G.sd
  obtain ⟨fw, fdw, ns, hmw, hkw, hbw, F, his, FB, hisB⟩ := G.wd
  obtain ⟨hxf, hno⟩ := G.br
  obtain ⟨CS, hmc, hex⟩ := G.cs
  obtain ⟨cA, P, TB, hcode, hmT, hu⟩ := S.tb
  refine wpAny_Call_Name_kw (ld_glob I hg hm ?_ (by decide))
  refine PySem.W.callWith_K (h₀ := X.base) I.ok.mod.kin hk ?_ (by rfl) (by rfl)
  show wpAny _ _ (spliced ((false, eval (.Lambda ar bd sc lpos) X.env) :: backTo pos (starEach [] X.env))) _ _ s
  refine Calls.spliced_cons (lam_made I TB hcode hmT hu pr.rr.tb hdf (L.has I.ok) fun f c' pm' ctv H1 s' I1 eN hD T1 hf hfn hfr hco => ?_)
  refine Calls.spliced_nil ⟨I1.kIn, ?_⟩
  have x1 : Ext w H w H1 := by
    refine ⟨⟨[], by simp, fun _ h => by cases h⟩, rfl, fun _ h => h, fun _ h => .inl h, fun a o h n t => eN a o h t, fun a xs q => ?_, hD⟩
    exact eN _ _ q fun ps z => by cases z
  have hr1 : HR X.K w h H1 := pr.rr.hr.mono x1 rfl fun a ha => by
    obtain ⟨xs, q⟩ := pr.rr.hr.there ha
    rw [q]; exact eN _ _ q fun ps z => by cases z
  have rr1 := pr.rr.ext x1 hr1 T1
  have q := pr.po
  unfold saidB at hB
  split at hB
  case h_2 => cases hB
  rename_i r pr1 a pa pca pcr pret t pt n wd pw en pe pcw prw ph ptry
  simp only [Bool.and_eq_true, decide_eq_true_eq] at hB
  obtain ⟨⟨⟨⟨⟨rfl, rfl⟩, rfl⟩, rfl⟩, rfl⟩, rfl⟩ := hB
  unfold saidSB at hS
  simp only [Bool.and_eq_true, decide_eq_true_eq] at hS
  obtain ⟨⟨⟨⟨l1, l2⟩, l3⟩, l4⟩, l5⟩ := hS
  have rc : codeAny (model X.prog X.w) X.A (.call (.ref g) ⟨[.ref f], []⟩) (CR C8.CX0 X.stack X.prog X.w H1 s' Q C8.E0) s' := by
    refine LamX.run_ofS (N := [wC, wE]) (ps := [wC]) (us := [.ref f]) (vs := [.ref f]) lk hcd Sg S.rm I1.env0 (hb s' [.ref f] I1.kIn rfl) (.cons rfl .nil) rfl fun hr' => ?_
    have un' : (X.A.deeper (envOfC "_law_said" sg s'.heap.objs.size g cdv)).units + 200 < cLine := by have := hr'.un; omega
    have act := fun (W' : WX) (pn : List (Addr × Obj)) (xe : Value → Shared → Prop) (E : XK) (p1 p2 : Pos) (tk : Takes ((cxOf C8.CX0 X.prog X.w X.K X.mg X.base [wC, wE] "_law_said" sg g cdv X.A X.stack s' H1 C8.E0).tr pn xe) W') (hW : ∀ cls d σ' H', E cls d H' → W' cls d σ' H') =>
      lam_act (i := 0) (p1 := p1) (p2 := p2) (E := E) (tb := rdE X.K px (fun cls dd _ H => E cls dd H) fa) I1 L hf hfn hfr (hbi _ _ _ _ _) tk hW hr' (fun outer s0 H => hbody _ outer s0 H E f c') (a := wC) rfl (.inl l1) (by decide) (by decide)
    have tr := ps_try_as (X := (cxOf C8.CX0 X.prog X.w X.K X.mg X.base [wC, wE] "_law_said" sg g cdv X.A X.stack s' H1 C8.E0).nox) (x := "TurnError") (n := wE) (c := .ref CS) (i := 1)
      (body := [.Return (some (.Call (.Name "repr" pr1) [.Call (.Name wC pa) [] [] pca] [] pcr)) pret]) (suite := []) (b₀ := .Return (some (.Call (.Name "_law_word" pw) [.Name wE pe] [] pcw)) prw) (np := pt) (pos := ptry) (pos' := ph) (Wout := fun _ _ _ _ => False)
      (tb := fun W' Dn σZ HZ => ∃ Ech : XK, (∀ cls d σ' H', Ech cls d H' → W' cls d σ' H') ∧ σZ[0]? = some (some (.ref f)) ∧ HZ c' = some (LamX.CodeO c' (X.env.qual ++ "<lambda>")) ∧ rdE X.K px (fun cls d _ H => Ech cls d H) fa σ HZ (fun v H2 => rBi X.K px Wno .rep [v] H2 Dn.rt))
      (ts := fun a cls d Dn σ H => ((∃ σ0 : L2.St, σ = σ0.set 1 (some (.ref a))) ∧ CatchW X.K px cls d H Dn.rt) ∨ ((∃ σ0 : L2.St, σ = σ0.set 1 (some (.ref a))) ∧ CatchB X.K px cls d H Dn.rt))
      rfl rfl (show [wC, wE].Nodup by decide) rfl l2 ⟨l4, by decide, .inl hmc⟩ LamX.takes0 (fun W' pn xe tk _ => ?_) (fun a oe cls d pn hz hfs => ?_)
    · refine ⟨_, (pss_one tr).nox, ?_⟩
      refine ⟨fun cls dd H2 => CatchW X.K px cls dd H2 Q ∨ CatchB X.K px cls dd H2 Q, fun cls dd σ' H' hc => ?_, rfl, hco, w, e, h, rr1, ?_⟩
      · rcases hc with ⟨hd, c, w2, h2, c1, c2, ec, rest⟩ | ⟨dx, i, wd, w2, h2, hd, ec, rest⟩
        · refine ⟨true, by rw [ec]; exact hex c c1 (by omega), fun _ a _ => .inl ⟨⟨σ', rfl⟩, hd, c, w2, h2, c1, c2, ec, rest⟩, fun h => by cases h⟩
        · refine ⟨true, by rw [ec]; exact hex 16 (by decide) (by decide), fun _ a _ => .inr ⟨⟨σ', rfl⟩, dx, i, wd, w2, h2, hd, ec, rest⟩, fun h => by cases h⟩
      · unfold fSaid at q
        cases e1 : fa e h with
        | bad => rw [e1] at q; exact q.elim
        | ok d h' =>
          rw [e1] at q
          dsimp only at q
          split at q
          · rename_i hs
            intro v w' H2 y1 y2 y3 y4
            refine ⟨σ, w', e, h', [d], .cons y4 .nil, rr1.ext y1 y2 y3, ?_⟩
            show Post X.K px Wno σ (relV X.K) w' H2 Q (R.of (dRep d) h')
            unfold dRep
            rw [if_pos hs]
            exact fun u w'' H3 z1 z2 z3 z4 => q u w'' H3 (x1.trans (y1.trans z1)) z2 z3 z4
          · exact q.elim
        | exc x h' =>
          rw [e1] at q
          dsimp only at q
          split at q
          · rename_i hs
            intro cls dd w' H2 y1 y2 y3 y4
            unfold wordFits at hs
            split at hs
            · rename_i c pd
              rw [Bool.or_eq_true, Bool.and_eq_true, Bool.and_eq_true, Bool.and_eq_true, decide_eq_true_eq, decide_eq_true_eq, decide_eq_true_eq, decide_eq_true_eq] at hs
              obtain ⟨ec, hn, hb16⟩ := y4
              rcases hs with hs | ⟨⟨h16, hs1⟩, hs2⟩
              · have e2 := wordN_of c hs.1 hs.2 pd
                rw [e2] at q
                refine .inl ⟨hn (by omega), c, w'.call, h', hs.1, hs.2, ec, rfl, (rr1.ext y1 y2 y3).call, y3, fun v w'' H3 z1 z2 z3 z4 => ?_⟩
                refine q v (w'.back w'') H3 (x1.trans (y1.trans (Ext.back z1))) (HR.back z1 z2) z3 ?_
                cases z4
                exact .str _
              · subst h16
                obtain ⟨dx, i, hdd, hpd, hdx⟩ := hb16 rfl
                subst hpd
                have e2 : wordOf (.exc 16 (.int i)) = ("! broken " : Str) ++ PyData.shown (.int i) := rfl
                rw [e2] at q
                have hs2 : (PyData.shown (.int i)).length ≤ 1000 := hs2
                have e3 : dBin .add (.str "! broken ") (.str (PyData.shown (.int i))) = some (.str (("! broken " : Str) ++ PyData.shown (.int i))) := by
                  show ofLen _ _ = _
                  unfold ofLen
                  rw [if_pos]
                  show (9 : Nat) + (PyData.shown (.int i)).length ≤ 16777216
                  omega
                refine .inr ⟨dx, i, _, w'.call, h', hdd, ec, hdx, ?_, e3, rfl, (rr1.ext y1 y2 y3).call, y3, fun v w'' H3 z1 z2 z3 z4 => ?_⟩
                · unfold dRep
                  rw [if_pos hs1]
                  rfl
                · refine q v (w'.back w'') H3 (x1.trans (y1.trans (Ext.back z1))) (HR.back z1 z2) z3 ?_
                  cases z4
                  exact .str _
            · cases hs
          · exact q.elim
    · refine ⟨fun pins' s1 σ' H' Dn I' ⟨Ech, hW, h1, h2, h3⟩ => ?_⟩
      have a1 := act W' pn xe Ech pa pca tk hW
      have cz' : Cz ((cxOf C8.CX0 X.prog X.w X.K X.mg X.base [wC, wE] "_law_said" sg g cdv X.A X.stack s' H1 C8.E0).tr pn xe) := cz_of un' z.gd z.sm
      have a2 := pe_callB (p := pr1) (pos := pcr) (bi_rep (px := px) (W := Wno) cz') (x := "repr") l3 G.rp (by decide +kernel) (pa_cons a1 pa_nil)
      exact (pss_one (ps_ret (pos := pret) a2)).run pins' s1 σ' H' Dn I' ⟨h1, h2, h3⟩
    · refine PSs.of (pss_one (ps_ret (PE.orR (word_call (X0 := (cxOf C8.CX0 X.prog X.w X.K X.mg X.base [wC, wE] "_law_said" sg g cdv X.A X.stack s' H1 C8.E0).nox) (px := px) rfl l2 l5 hmw hkw hbw F his (L2H.roomH_of hr') z.gd hz hfs) (word_callB (X0 := (cxOf C8.CX0 X.prog X.w X.K X.mg X.base [wC, wE] "_law_said" sg g cdv X.A X.stack s' H1 C8.E0).nox) (px := px) rfl l2 l5 hmw hkw hbw FB hisB hxf hno (L2H.roomH_of hr') z.gd hz hfs)))) fun _ _ _ q => q
  refine wpAny_call (codeAny_mono rc fun r s2 hq => ?_)
  cases r with
  | error e => exact (show False from hq).elim
  | ok fl =>
    cases fl with
    | ret u => exact I1.after hq
    | next => exact False.elim hq
    | brk => exact False.elim hq
    | cont => exact False.elim hq
end
end Tv
end

section
set_option autoImplicit false
set_option maxHeartbeats 1000000
/-! What is held against the code computes what the trees say: expressions. -/
namespace Tv
open PySem PySem.Spec PyProof.Rows L2
/-- where an error with its year may be raised -/
def BrkX (X : Cx) (px : Px) : Prop := ∃ (C fI : Addr) (fd : FuncData), BrkC X.K X.mg C ∧ PySem.W.findIn X.K (.ref C) "__init__" = some (some (.ref fI)) ∧ PySem.W.typeIn X.K (.ref fI) = some (.type "function") ∧ FnOk X.prog X.w X.K X.mg X.base CX0 1 fI fd [bSelf, bAt] (spBr C) ∧ Room 2 X.A ∧ Binds X.K fd [bSelf, bAt] [] ∧ X.mg "Broken" = some (.ref C) ∧ px.ex 16 = C
/-- the place where checked code runs -/
structure Ok (X : Cx) (px : Px) (W : WX) (cl : Nat → List D → Hs → R D) (c : Ck) : Prop where
  N : X.N = c.N
  nd : X.N.Nodup
  sc : X.env.scope = c.sc
  fn : ∀ x, c.fn x = true → X.fn x = true
  calm : X.calm = true
  cz : Cz X
  tk : Takes X W
  defs : ∀ x i n, c.defs.lookup x = some (i, n) → ∃ k f fd ps, CallG X.prog X.w X.K X.mg X.base px k f fd ps (cl i) ∧ Room (k + 3) X.A ∧ X.mg x = some (.ref f) ∧ PySem.W.keepIn X.K (.ref f) = true ∧ BindX X.K fd ps (c.dfl x) ∧ ps.length = n
  glob : ∀ x i, c.glob.lookup x = some i → ∃ t, X.mg x = some (.int i t)
  blt : ∀ x, bltNames.contains x = true → X.mg x = none
  exc : ∀ x i, c.excs.lookup x = some i → ∃ (C : Addr) (bmB : List Value) (B newId initId : String), ExcBaseFacts B newId initId bmB ∧ PySem.W.excIn X.K C bmB newId = true ∧ X.mg x = some (.ref C) ∧ PySem.W.keepIn X.K (.ref C) = true ∧ Raises X (.ref C) ∧ px.ex i = C
  sd : c.sd = true → ∃ kk, SaidG X.prog X.w X.K X.mg X.base px ∧ SaidX X px kk ∧ ∀ x i n, c.defs.lookup x = some (i, n) → ∃ f fd ps, CallG X.prog X.w X.K X.mg X.base px kk f fd ps (cl i) ∧ X.mg x = some (.ref f) ∧ PySem.W.keepIn X.K (.ref f) = true ∧ BindX X.K fd ps (c.dfl x) ∧ ps.length = n
  brk : c.brk = true → BrkX X px
section
variable {X : Cx} {px : Px} {W : WX} {cl : Nat → List D → Hs → R D} {c : Ck}
theorem Ok.gl (ok : Ok X px W cl c) {x : Str} (h : glB c x = true) : Gl X x := by
  unfold glB at h
  show X.env.scope.names.lookup x = _
  rw [ok.sc]
  split at h
  · assumption
  · cases h
theorem Ok.vis (ok : Ok X px W cl c) {x : Str} (h : visB c x = true) : Vis X.env.scope x := by
  unfold visB at h
  rw [ok.sc]
  split at h
  · exact .inl (by assumption)
  · exact .inr (.inl (by assumption))
  · exact .inr (.inr (by assumption))
  · cases h
theorem Ok.lc (ok : Ok X px W cl c) {x : Str} (h : lcB c x = true) : X.env.scope.names.lookup x = some .local := by
  unfold lcB at h
  rw [ok.sc]
  split at h
  · assumption
  · cases h
theorem Ok.ce (ok : Ok X px W cl c) {x : Str} (h : ceB c x = true) : X.env.scope.names.lookup x = some .cell := by
  unfold ceB at h
  rw [ok.sc]
  split at h
  · assumption
  · cases h
theorem plain_of {x : Str} (h : plainN x = true) : (x == ("__debug__" : Str)) = false ∧ (x == ("__classdict__" : Str)) = false ∧ x ≠ "__name__" := by
  unfold plainN at h
  rw [Bool.and_eq_true, Bool.and_eq_true, Bool.not_eq_true', Bool.not_eq_true', decide_eq_true_eq] at h
  exact ⟨h.1.1, h.1.2, h.2⟩
theorem Ok.rd (ok : Ok X px W cl c) {x : Str} {i : Nat} (h : rdB c x i = true) : RdOk X x i := by
  unfold rdB at h
  rw [Bool.and_eq_true, Bool.and_eq_true, decide_eq_true_eq] at h
  have p := plain_of h.2
  exact ⟨by rw [ok.N]; exact h.1.1, ok.vis h.1.2, p.1, p.2.1⟩
theorem Ok.nm (ok : Ok X px W cl c) {x : Str} {i : Nat} (h : nmB c x i = true) : NmOk X x i := by
  unfold nmB at h
  rw [Bool.and_eq_true, decide_eq_true_eq, Bool.or_eq_true, Bool.and_eq_true] at h
  refine ⟨by rw [ok.N]; exact h.1, ?_⟩
  rcases h.2 with q | q
  · exact ⟨.inl (ok.lc q), .inr (ok.lc q)⟩
  · exact ⟨.inr (ok.ce q.1), .inl (ok.fn x q.2)⟩
theorem Ok.nms (ok : Ok X px W cl c) : ∀ {es : List Expr} {is : List Nat}, nmsB c es is = true → NmsOk X es is
  | [], [], _ => .nil
  | [], _ :: _, h => by cases h
  | _ :: _, [], h => by cases h
  | e :: es, i :: is, h => by
    unfold nmsB at h
    rw [Bool.and_eq_true] at h
    obtain ⟨h1, h2⟩ := h
    split at h1
    · exact .cons (ok.nm h1) (ok.nms h2)
    · cases h1
theorem Ok.tg (ok : Ok X px W cl c) {t : T} {e : Expr} (h : ckT c t e = true) : SG X e t := by
  cases t with
  | n i =>
    unfold ckT at h
    dsimp only at h
    split at h
    · exact sg_name ok.nd (ok.nm h)
    · cases h
  | t is =>
    unfold ckT at h
    dsimp only at h
    split at h
    · exact sg_tup ok.calm ok.nd (ok.nms h)
    · cases h
theorem Ok.mn (ok : Ok X px W cl c) {x : Str} (h : bltNames.contains x = true) : X.mg x = none := ok.blt x h
theorem sa_bool {es : List Expr} (h : es.all nst = true) : ∀ a r, es = a :: r → starEach (a :: r) X.env = (false, eval a X.env) :: starEach r X.env := fun a r e => by
  subst e
  rw [List.all_cons, Bool.and_eq_true] at h
  exact star_ok h.1
/-- a tree and its place -/
structure Snd (X : Cx) (px : Px) (W : WX) (cl : Nat → List D → Hs → R D) (t : E) (e : Expr) : Prop where
  se : SE X px W e (evE cl t)
  st : tstB t = true → ST X px W e (evE cl t)
  sw : tstB t = true → ∀ op es p, e = .BoolOp op es p → SW X px W e (evE cl t)
theorem Snd.val {t : E} {e : Expr} (h : SE X px W e (evE cl t)) (hv : isVal e = true) : Snd X px W cl t e :=
  ⟨h, fun _ => st_val h (isVal_of hv X.env), fun _ op es p q => by subst q; cases hv⟩
theorem se_bi {b : Bi} {x : Str} {a : Expr} {es : List Expr} {fr : Ev → Hs → R (List D)} {p pos : Pos} (ok : Ok X px W cl c) (h : biB b x (es.length + 1) = true) (hg : glB c x = true) (hs : (a :: es).all nst = true) (ha : SA X px W (a :: es) fr) :
    SE X px W (.Call (.Name x p) (a :: es) [] pos) (fun e h => (fr e h).bind fun ds h => R.of (dBi b ds) h) := by
  have hg := ok.gl hg
  cases b <;> first | (cases h; done) | skip
  all_goals (unfold biB at h)
  all_goals (simp only [Bool.and_eq_true, decide_eq_true_eq] at h)
  · subst h; exact se_callB bi_len hg (ok.mn (by decide)) (by decide +kernel) ha hs (by decide) (by decide)
  · subst h; exact se_callB (bi_all ok.calm) hg (ok.mn (by decide)) (by decide +kernel) ha hs (by decide) (by decide)
  · subst h; exact se_callB (bi_any ok.calm) hg (ok.mn (by decide)) (by decide +kernel) ha hs (by decide) (by decide)
  · subst h; exact se_callB bi_abs hg (ok.mn (by decide)) (by decide +kernel) ha hs (by decide) (by decide)
  · subst h; exact se_callB bi_divmod hg (ok.mn (by decide)) (by decide +kernel) ha hs (by decide) (by decide)
  · subst h; exact se_callTy bi_int hg (ok.mn (by decide)) (by decide +kernel) ha hs (by decide) (by decide)
  · subst h; exact se_callTy bi_list hg (ok.mn (by decide)) (by decide +kernel) ha hs (by decide) (by decide)
  · subst h; exact se_callTy bi_tuple hg (ok.mn (by decide)) (by decide +kernel) ha hs (by decide) (by decide)
  · obtain ⟨h, _⟩ := h; subst h; exact se_callB (bi_max1 ok.calm) hg (ok.mn (by decide)) (by decide +kernel) ha hs (by decide) (by decide)
  · obtain ⟨h, _⟩ := h; subst h; exact se_callB (bi_max2 ok.calm) hg (ok.mn (by decide)) (by decide +kernel) ha hs (by decide) (by decide)
  · obtain ⟨h, _⟩ := h; subst h; exact se_callB (bi_min2 ok.calm) hg (ok.mn (by decide)) (by decide +kernel) ha hs (by decide) (by decide)
  · subst h; exact se_callB (bi_rep ok.cz) hg (ok.mn (by decide)) (by decide +kernel) ha hs (by decide) (by decide)
  · subst h; exact se_callTy bi_str hg (ok.mn (by decide)) (by decide +kernel) ha hs (by decide) (by decide)
  · subst h; exact se_callB (bi_sum ok.calm) hg (ok.mn (by decide)) (by decide +kernel) ha hs (by decide) (by decide)
  · subst h; exact se_callB (bi_sorted ok.cz) hg (ok.mn (by decide)) (by decide +kernel) ha hs (by decide) (by decide)
theorem se_dic0 {pos : Pos} : SE X px W (.Dict [] [] pos) (fun _ h => .ok (.dct []) h) := by
  refine PE.of pe_dnewK fun σ H Q ⟨w, e, h, p⟩ q hq => ?_
  exact p.new hq _ (.of (.of (.dct (p.rr.free hq) (by simp) upd_same)))
theorem se_dic1 {i j : Int} {k1 k2 : Nat} {p1 p2 pos : Pos} : SE X px W (.Dict [some (.Constant (.int i) k1 p1)] [.Constant (.int j) k2 p2] pos) (fun _ h => .ok (.dct [(i, j)]) h) := by
  refine PE.of (pe_disp (pps_cons pe_int pe_int pps_nil) rfl rfl (by simp) (by simp)) fun σ H Q ⟨w, e, h, p⟩ q hq => ?_
  refine ⟨upd_same, [(.inl i, .int j)], rfl, by simp, ?_⟩
  have e1 : upd (upd H q (.dK [])) q (.dK (mergeK [] [(Sum.inl i, V.int j)])) = upd H q (.dK [(Sum.inl i, V.int j)]) := by rw [upd_upd]; rfl
  rw [e1]
  exact p.new hq _ (.of (.of (.dct (p.rr.free hq) (by simp) upd_same)))
/-! ### blocks -/
theorem Ok.blk (ok : Ok X px W cl c) {scope : Scope} {s : Shared} {H : Hp} {C : Addr} {cs : List (Str × Addr)} {fp : List Addr} : Ok (X.blk s H scope (compEnvC scope cs C X.env) fp) px Wno cl (c.blk scope) where
  N := ok.N
  nd := ok.nd
  sc := by
    show relS scope X.env.scope = relS scope c.sc
    rw [ok.sc]
  fn := fun x h => h
  calm := ok.calm
  cz := ⟨ok.cz.un, ok.cz.gd, ok.cz.sm⟩
  tk := LamX.takes0
  defs := ok.defs
  glob := ok.glob
  blt := ok.blt
  exc := ok.exc
  sd := fun z => by cases z
  brk := fun z => by cases z
/-- a lambda's body -/
theorem Ok.lam (ok : Ok X px W cl c) {kk : Nat} (S : SaidX X px kk) (dfs : ∀ x i n, c.defs.lookup x = some (i, n) → ∃ f fd ps, CallG X.prog X.w X.K X.mg X.base px kk f fd ps (cl i) ∧ X.mg x = some (.ref f) ∧ PySem.W.keepIn X.K (.ref f) = true ∧ BindX X.K fd ps (c.dfl x) ∧ ps.length = n)
    {e1 : Env} {outer : List Env} {s0 : Shared} {H : Hp} {E : XK} {sc : Scope} {f c' : Addr} : Ok (LamX.lamCx X (X.A.deeper e1) outer s0 H E sc f c') px (fun cls d _ H => E cls d H) cl (c.lam sc) where
  N := ok.N
  nd := ok.nd
  sc := rfl
  fn := fun x h => by cases h
  calm := rfl
  cz := ⟨by have := (S.rk e1 (LamX.lamEnv X sc s0.heap.objs.size f c')).un; show ((X.A.deeper e1).deeper _).units + 200 < cLine; omega, ok.cz.gd, ok.cz.sm⟩
  tk := takes_of rfl rfl rfl rfl
  defs := fun x i n h => by
    obtain ⟨f1, fd, ps, h1, h2, h3, h4, h5⟩ := dfs x i n h
    exact ⟨kk, f1, fd, ps, h1, S.rk e1 _, h2, h3, h4, h5⟩
  glob := ok.glob
  blt := ok.blt
  exc := fun x i h => by cases h
  sd := fun z => by cases z
  brk := fun z => by cases z
theorem noArgs_of {ar : Arguments} (h : noArgs ar = true) : ar = ⟨[], [], none, [], [], none, []⟩ := by
  unfold noArgs at h
  split at h
  · rfl
  · cases h
theorem own_map {vs : List Nat} : (ownOf c vs).map (·.2) = vs := by
  unfold ownOf
  rw [List.map_map]
  exact List.map_id _
/-! ### what a tree's list of parts gives -/
theorem evEs_len : ∀ (es : Es) {as : List Expr}, ckEs c es as = true → ∀ e h ds h', evEs cl es e h = .ok ds h' → ds.length = as.length
  | .nil, as, hc, e, h, ds, h', q => by
    unfold ckEs at hc; try dsimp only at hc
    have : as = [] := List.isEmpty_iff.mp hc
    subst this
    rw [evEs] at q
    cases q
    rfl
  | .cons a r, as, hc, e, h, ds, h', q => by
    unfold ckEs at hc; try dsimp only at hc
    split at hc
    · rename_i a' r'
      rw [Bool.and_eq_true] at hc
      rw [evEs] at q
      obtain ⟨x, h1, _, q⟩ := bind_ok q
      obtain ⟨xs, h2, q2, q⟩ := bind_ok q
      cases q
      exact congrArg (· + 1) (evEs_len r hc.2 _ _ _ _ q2)
    · cases hc
end
mutual
theorem sndE {px : Px} {cl : Nat → List D → Hs → R D} : ∀ (t : E) {X : Cx} {W : WX} {c : Ck} {e : Expr}, Ok X px W cl c → ckE c t e = true → Snd X px W cl t e
  | .c d, X, W, c, e, ok, h => by
    unfold ckE at h; try dsimp only at h
    split at h
    · exact .val (se_c h) rfl
    · cases h
  | .g x d, X, W, c, e, ok, h => by
    unfold ckE at h; try dsimp only at h
    split at h
    · rename_i y _ i
      rw [Bool.and_eq_true, Bool.and_eq_true, Bool.and_eq_true, decide_eq_true_eq, decide_eq_true_eq] at h
      obtain ⟨⟨⟨rfl, h1⟩, h2⟩, h3⟩ := h
      obtain ⟨t, ht⟩ := ok.glob _ _ h3
      exact .val (se_g (v := .int i) (ok.gl h1) ht ⟨t, rfl⟩ (fun _ _ => .of (.of (.int _))) (plain_of h2).1) rfl
    · cases h
  | .v i, X, W, c, e, ok, h => by
    unfold ckE at h; try dsimp only at h
    split at h
    · have r := ok.rd h
      exact .val (se_v r.ix r.vis r.db r.cd) rfl
    · cases h
  | .bin o a b, X, W, c, e, ok, h => by
    unfold ckE at h; try dsimp only at h
    split at h
    · rw [Bool.and_eq_true, Bool.and_eq_true] at h
      obtain ⟨h1, h2, h3⟩ := h
      rw [bopB_of h1]
      exact .val (se_bin (sndE a ok h2).se (sndE b ok h3).se) rfl
    · cases h
  | .neg a, X, W, c, e, ok, h => by
    unfold ckE at h; try dsimp only at h
    split at h
    · exact .val (se_neg (sndE a ok h).se) rfl
    · cases h
  | .not a, X, W, c, e, ok, h => by
    unfold ckE at h; try dsimp only at h
    split at h
    · have q := sndE a ok h
      exact ⟨se_not q.se, fun ht => st_not (q.st ht), fun _ op es p e => by cases e⟩
    · cases h
  | .and a b, X, W, c, e, ok, h => by
    unfold ckE at h; try dsimp only at h
    split at h
    · rw [Bool.and_eq_true] at h
      have qa := sndE a ok h.1
      have qb := sndE b ok h.2
      refine ⟨se_and qa.se (pe_one qb.se), fun ht => ?_, fun ht op es p e => ?_⟩
      · rw [tstB, Bool.and_eq_true] at ht
        exact (sw_and (qa.st ht.1) (sw_and1 (qb.st ht.2))).pt
      · rw [tstB, Bool.and_eq_true] at ht
        exact sw_and (qa.st ht.1) (sw_and1 (qb.st ht.2))
    · rw [Bool.and_eq_true] at h
      have qa := sndE a ok h.1
      have qb := sndE b ok h.2
      refine ⟨se_and qa.se qb.se, fun ht => ?_, fun ht op es p e => ?_⟩
      · rw [tstB, Bool.and_eq_true] at ht
        exact (sw_and (qa.st ht.1) (qb.sw ht.2 _ _ _ rfl)).pt
      · rw [tstB, Bool.and_eq_true] at ht
        exact sw_and (qa.st ht.1) (qb.sw ht.2 _ _ _ rfl)
    · cases h
  | .or a b, X, W, c, e, ok, h => by
    unfold ckE at h; try dsimp only at h
    split at h
    · rw [Bool.and_eq_true] at h
      have qa := sndE a ok h.1
      have qb := sndE b ok h.2
      refine ⟨se_or qa.se (pe_one qb.se), fun ht => ?_, fun ht op es p e => ?_⟩
      · rw [tstB, Bool.and_eq_true] at ht
        exact (sw_or (qa.st ht.1) (sw_or1 (qb.st ht.2))).pt
      · rw [tstB, Bool.and_eq_true] at ht
        exact sw_or (qa.st ht.1) (sw_or1 (qb.st ht.2))
    · rw [Bool.and_eq_true] at h
      have qa := sndE a ok h.1
      have qb := sndE b ok h.2
      refine ⟨se_or qa.se qb.se, fun ht => ?_, fun ht op es p e => ?_⟩
      · rw [tstB, Bool.and_eq_true] at ht
        exact (sw_or (qa.st ht.1) (qb.sw ht.2 _ _ _ rfl)).pt
      · rw [tstB, Bool.and_eq_true] at ht
        exact sw_or (qa.st ht.1) (qb.sw ht.2 _ _ _ rfl)
    · cases h
  | .ite t a b, X, W, c, e, ok, h => by
    unfold ckE at h; try dsimp only at h
    split at h
    · rw [Bool.and_eq_true, Bool.and_eq_true, Bool.and_eq_true] at h
      obtain ⟨h0, h1, h2, h3⟩ := h
      exact ⟨se_ite ((sndE t ok h1).st h0) (sndE a ok h2).se (sndE b ok h3).se, (fun ht => by cases ht), (fun ht => by cases ht)⟩
    · cases h
  | .cmp o a b, X, W, c, e, ok, h => by
    unfold ckE at h; try dsimp only at h
    split at h
    · rw [Bool.and_eq_true, Bool.and_eq_true, Bool.and_eq_true] at h
      obtain ⟨⟨h1, h2⟩, h3, h4⟩ := h
      rw [copB_of h1]
      exact ⟨se_cmp ok.cz (sndE a ok h3).se (sndE b ok h4).se (noSet_in h2), fun _ => st_cmp ok.cz (sndE a ok h3).se (sndE b ok h4).se (noSet_in h2), fun _ op es p e => by cases e⟩
    · cases h
  | .chn o p a b d, X, W, c, e, ok, h => by
    unfold ckE at h; try dsimp only at h
    split at h
    · rw [Bool.and_eq_true, Bool.and_eq_true, Bool.and_eq_true, Bool.and_eq_true, Bool.and_eq_true] at h
      obtain ⟨⟨⟨h1, h2⟩, h3⟩, h4, h5, h6⟩ := h
      rw [copB_of h1, copB_of h2]
      exact ⟨se_chn ok.cz (sndE a ok h4).se (sndE b ok h5).se (sndE d ok h6).se (noSet_in h3), fun _ => st_chn ok.cz (sndE a ok h4).se (sndE b ok h5).se (sndE d ok h6).se (noSet_in h3), fun _ op es p e => by cases e⟩
    · cases h
  | .call f es, X, W, c, e, ok, h => by
    unfold ckE at h; try dsimp only at h
    split at h
    · rw [Bool.and_eq_true, Bool.and_eq_true, Bool.and_eq_true, Bool.and_eq_true, decide_eq_true_eq] at h
      obtain ⟨⟨⟨⟨h1, h2⟩, h3⟩, h4⟩, h5⟩ := h
      obtain ⟨k, fa, fd, ps, G, hr, hm, hk, hb, hl⟩ := ok.defs _ _ _ h1
      exact .val (se_call G hr ok.cz.gd ok.tk (ok.gl h2) hm hk hb.full (sndEs es ok h5 h4) h4 (fun e h ds h' q => by rw [hl]; exact evEs_len es h5 e h ds h' q) (plain_of h3).1) rfl
    · cases h
  | .cld f es di, X, W, c, e, ok, h => by
    unfold ckE at h; try dsimp only at h
    split at h
    · rw [Bool.and_eq_true, Bool.and_eq_true, Bool.and_eq_true, Bool.and_eq_true, Bool.and_eq_true, decide_eq_true_eq, decide_eq_true_eq] at h
      obtain ⟨⟨⟨⟨⟨h1, h0⟩, h2⟩, h3⟩, h4⟩, h5⟩ := h
      obtain ⟨k, fa, fd, ps, G, hr, hm, hk, hb, hl⟩ := ok.defs _ _ _ h1
      obtain ⟨t, hb⟩ := hb.short _ h0
      exact .val (se_cld G hr ok.cz.gd ok.tk (ok.gl h2) hm hk hb (sndEs es ok h5 h4) h4 (fun e h ds h' q => by rw [hl, evEs_len es h5 e h ds h' q]; rfl) (plain_of h3).1) rfl
    · cases h
  | .bi b es, X, W, c, e, ok, h => by
    unfold ckE at h; try dsimp only at h
    split at h
    · rw [Bool.and_eq_true, Bool.and_eq_true, Bool.and_eq_true] at h
      obtain ⟨⟨⟨h1, h2⟩, h3⟩, h4⟩ := h
      exact .val (se_bi ok h1 h2 h3 (sndEs es ok h4 h3)) rfl
    · cases h
  | .me m a b, X, W, c, e, ok, h => by
    unfold ckE at h; try dsimp only at h
    split at h
    · rw [Bool.and_eq_true, Bool.and_eq_true, Bool.and_eq_true, Bool.and_eq_true, Bool.and_eq_true] at h
      obtain ⟨⟨⟨⟨h1, h2⟩, h3⟩, h4⟩, h5, h6⟩ := h
      have qa := (sndE a ok h5).se
      have qb := (sndE b ok h6).se
      cases m <;> first | (cases h1; done) | skip
      all_goals (unfold meB at h1)
      all_goals (rw [decide_eq_true_eq] at h1)
      · subst h1; exact .val (se_meth (m := .index) PySem.F.plainAttrs_list PySem.F.slot_list_index PySem.F.type_list_index (mt_indexDD ok.cz) qa qb h2 h3 h4) rfl
      · subst h1; exact .val (se_meth (m := .count) PySem.F.plainAttrs_list PySem.F.slot_list_count PySem.F.type_list_count (mt_countD ok.cz) qa qb h2 h3 h4) rfl
      · subst h1; exact .val (se_meth (m := .join) PySem.F.plainAttrs_str PySem.F.slot_str_join PySem.F.type_str_join mt_joinD qa qb h2 h3 h4) rfl
    · cases h
  | .isi a t, X, W, c, e, ok, h => by
    unfold ckE at h; try dsimp only at h
    split at h
    · rw [Bool.and_eq_true, Bool.and_eq_true, Bool.and_eq_true, Bool.and_eq_true, Bool.and_eq_true, decide_eq_true_eq] at h
      obtain ⟨⟨⟨⟨⟨rfl, h1⟩, h2⟩, h3⟩, h4⟩, h5⟩ := h
      have qa := (sndE a ok h5).se
      have g1 := ok.gl h1
      have g2 := ok.gl h3
      cases t <;> first | (cases h2; done) | skip
      all_goals (unfold tyB at h2)
      all_goals (rw [decide_eq_true_eq] at h2; subst h2)
      all_goals exact .val (se_isi rfl g1 (ok.mn (by decide)) g2 (ok.mn (by decide)) (by decide +kernel) (by decide) (by decide) qa h4) rfl
    · cases h
  | .ix a b, X, W, c, e, ok, h => by
    unfold ckE at h; try dsimp only at h
    split at h
    · rw [Bool.and_eq_true, Bool.and_eq_true] at h
      obtain ⟨h1, h2, h3⟩ := h
      exact .val (se_ix (sndE a ok h2).se (sndE b ok h3).se h1) rfl
    · cases h
  | .sl a lo hi, X, W, c, e, ok, h => by
    unfold ckE at h; try dsimp only at h
    split at h
    · rw [Bool.and_eq_true, Bool.and_eq_true] at h
      obtain ⟨h1, h2, h3⟩ := h
      exact .val (se_sl (sndE a ok h1).se (sndE lo ok h2).se (sndE hi ok h3).se) rfl
    · cases h
  | .slf a lo, X, W, c, e, ok, h => by
    unfold ckE at h; try dsimp only at h
    split at h
    · rw [Bool.and_eq_true] at h
      exact .val (se_slf (sndE a ok h.1).se (sndE lo ok h.2).se) rfl
    · cases h
  | .slt a hi, X, W, c, e, ok, h => by
    unfold ckE at h; try dsimp only at h
    split at h
    · rw [Bool.and_eq_true] at h
      exact .val (se_slt (sndE a ok h.1).se (sndE hi ok h.2).se) rfl
    · cases h
  | .kg i a, X, W, c, e, ok, h => by
    unfold ckE at h; try dsimp only at h
    split at h
    · rw [Bool.and_eq_true, Bool.and_eq_true] at h
      obtain ⟨⟨h1, h2⟩, h3⟩ := h
      exact .val (se_kg (by have := ok.cz.un; omega) (ok.rd h1) (sndE a ok h3).se h2) rfl
    · cases h
  | .kin n i a, X, W, c, e, ok, h => by
    unfold ckE at h; try dsimp only at h
    split at h
    · rename_i a' op x p2 p3
      rw [Bool.and_eq_true, Bool.and_eq_true] at h
      obtain ⟨⟨h1, h2⟩, h3⟩ := h
      have eop : op = kinOp n := by
        cases n <;> cases op <;> first | rfl | (cases h2; done)
      subst eop
      have hu : X.A.units + 1 < cLine := by have := ok.cz.un; omega
      have hm : behindInMarks (kinOp n) (.Name x p2) = false := noSet_in rfl
      exact ⟨se_kin hu (ok.rd h1) (sndE a ok h3).se hm, fun _ => st_kin hu (ok.rd h1) (sndE a ok h3).se hm, fun _ op es p e => by cases e⟩
    · cases h
  | .rev a, X, W, c, e, ok, h => by
    unfold ckE at h; try dsimp only at h
    split at h
    · exact .val (se_rev (sndE a ok h).se) rfl
    · cases h
  | .tup es, X, W, c, e, ok, h => by
    unfold ckE at h; try dsimp only at h
    split at h
    · rw [Bool.and_eq_true, Bool.and_eq_true, decide_eq_true_eq] at h
      obtain ⟨⟨h1, h2⟩, h3⟩ := h
      exact .val (se_tup (sndEs es ok h3 h1) h2 (evEs_len es h3)) rfl
    · cases h
  | .lst es, X, W, c, e, ok, h => by
    unfold ckE at h; try dsimp only at h
    split at h
    · rw [Bool.and_eq_true, Bool.and_eq_true, decide_eq_true_eq] at h
      obtain ⟨⟨h1, h2⟩, h3⟩ := h
      exact .val (se_lst (sndEs es ok h3 h1) h2 (evEs_len es h3)) rfl
    · cases h
  | .mls es, X, W, c, e, ok, h => by
    unfold ckE at h; try dsimp only at h
    split at h
    · rw [Bool.and_eq_true, Bool.and_eq_true, decide_eq_true_eq] at h
      obtain ⟨⟨h1, h2⟩, h3⟩ := h
      exact .val (se_mls (sndEs es ok h3 h1) h2 (evEs_len es h3)) rfl
    · cases h
  | .dic kvs, X, W, c, e, ok, h => by
    unfold ckE at h; try dsimp only at h
    split at h
    · exact .val se_dic0 rfl
    · rw [Bool.and_eq_true, decide_eq_true_eq, decide_eq_true_eq] at h
      obtain ⟨rfl, rfl⟩ := h
      exact .val se_dic1 rfl
    · cases h
  | .comp it t vs cnd elt, X, W, c, e, ok, h => by
    unfold ckE at h; try dsimp only at h
    split at h
    · rename_i elt' tg iter ifs scope pos
      rw [Bool.and_eq_true, Bool.and_eq_true, Bool.and_eq_true, Bool.and_eq_true, Bool.and_eq_true, Bool.and_eq_true] at h
      obtain ⟨⟨⟨⟨⟨h1, h2⟩, h3⟩, h4⟩, h5⟩, h6, h7⟩ := h
      have hb : BlkOk X.N X.env.scope scope (ownOf c vs) := by rw [ok.N, ok.sc]; exact blkOk_by h3
      have htv : ∀ i ∈ t.is, i ∈ (ownOf c vs).map (·.2) := fun i hi => by
        rw [own_map]
        rw [List.all_eq_true] at h4
        have := h4 i hi
        simpa using this
      have hf : ∀ (s : Shared) (H : Hp) (C : Addr) (cs : List (Str × Addr)) (fp : List Addr), STs (X.blk s H scope (compEnvC scope cs C X.env) fp) px Wno ifs (evE cl cnd) := fun s H C cs fp => by
        split at h6
        · cases cnd <;> try (cases h6; done)
          rename_i d
          cases d <;> try (cases h6; done)
          rename_i b
          have hb : b = true := h6
          subst hb
          exact sts_nil
        · rw [Bool.and_eq_true] at h6
          exact sts_one ((sndE cnd ok.blk h6.2).st h6.1)
        · cases h6
      have q := se_compF (W := W) (pos := pos) ok.calm ok.nd (sndI it ok h1) hb htv (fun s H C cs fp => ok.blk.tg h5) hf (fun s H C cs fp => (sndE elt ok.blk h7).se) (noSet_fold h2 X.env)
      rw [own_map] at q
      exact .val q.se rfl
    · cases h
  | .said a, X, W, c, e, ok, h => by
    unfold ckE at h; try dsimp only at h
    split at h
    · rename_i x p ar bd scope lp pos
      simp only [Bool.and_eq_true, decide_eq_true_eq] at h
      obtain ⟨⟨⟨⟨⟨rfl, h1⟩, h2⟩, h3⟩, h4⟩, h5⟩ := h
      obtain ⟨kk, G, S, dfs⟩ := ok.sd h2
      obtain rfl := noArgs_of h4
      have L := LamX.lamS_by (sc := X.env.scope) (by rw [ok.sc]; exact h3)
      exact .val (se_said (fa := evE cl a) G S ok.cz (ok.gl h1) L rfl (fun _ _ _ _ _ => rfl) fun e1 outer s0 H E f c' => (sndE a (ok.lam S dfs) h5).se) rfl
    · cases h
  | .nv, X, W, c, e, ok, h => ⟨⟨fun _ _ _ _ _ _ ⟨_, _, _, p⟩ => p.po.elim⟩, fun _ => ⟨fun _ _ _ _ _ _ ⟨_, _, _, p⟩ => p.po.elim⟩, fun _ _ _ _ _ => ⟨fun _ _ _ _ _ _ _ ⟨_, _, _, p⟩ => p.po.elim⟩⟩
theorem sndEs {px : Px} {cl : Nat → List D → Hs → R D} : ∀ (t : Es) {X : Cx} {W : WX} {c : Ck} {es : List Expr}, Ok X px W cl c → ckEs c t es = true → es.all nst = true → SA X px W es (evEs cl t)
  | .nil, X, W, c, es, ok, h, hs => by
    unfold ckEs at h; try dsimp only at h
    have : es = [] := List.isEmpty_iff.mp h
    subst this
    exact sa_nil
  | .cons a r, X, W, c, es, ok, h, hs => by
    unfold ckEs at h; try dsimp only at h
    split at h
    · rw [Bool.and_eq_true] at h
      rw [List.all_cons, Bool.and_eq_true] at hs
      exact sa_cons (sndE a ok h.1).se (sndEs r ok h.2 hs.2) (star_ok hs.1)
    · cases h
theorem sndI {px : Px} {cl : Nat → List D → Hs → R D} {st : Bool} : ∀ (t : It) {X : Cx} {W : WX} {c : Ck} {tg e : Expr}, Ok X px W cl c → ckI c t tg e = true → SI X px W st tg e (evI cl st t)
  | .seq a, X, W, c, tg, e, ok, h => by
    unfold ckI at h; try dsimp only at h
    exact si_seq (sndE a ok h).se
  | .rng a, X, W, c, tg, e, ok, h => by
    unfold ckI at h; try dsimp only at h
    split at h
    · rw [Bool.and_eq_true, Bool.and_eq_true, Bool.and_eq_true, decide_eq_true_eq] at h
      obtain ⟨⟨⟨rfl, h1⟩, h2⟩, h3⟩ := h
      exact si_rng (sndE a ok h3).se (ok.gl h1) (ok.mn (by decide)) h2
    · cases h
  | .rngs a b, X, W, c, tg, e, ok, h => by
    unfold ckI at h; try dsimp only at h
    split at h
    · rw [Bool.and_eq_true, Bool.and_eq_true, Bool.and_eq_true, Bool.and_eq_true, Bool.and_eq_true, decide_eq_true_eq] at h
      obtain ⟨⟨⟨⟨rfl, h1⟩, h2⟩, h3⟩, h4, h5⟩ := h
      exact si_rngs (sndE a ok h4).se (sndE b ok h5).se (ok.gl h1) (ok.mn (by decide)) h2 h3
    · cases h
  | .rng3 a b d, X, W, c, tg, e, ok, h => by
    unfold ckI at h; try dsimp only at h
    split at h
    · rw [Bool.and_eq_true, Bool.and_eq_true, Bool.and_eq_true, Bool.and_eq_true, Bool.and_eq_true, Bool.and_eq_true, Bool.and_eq_true, decide_eq_true_eq] at h
      obtain ⟨⟨⟨⟨⟨rfl, h1⟩, h2⟩, h3⟩, h4⟩, h5, h6, h7⟩ := h
      exact si_rng3 (sndE a ok h5).se (sndE b ok h6).se (sndE d ok h7).se (ok.gl h1) (ok.mn (by decide)) h2 h3 h4
    · cases h
  | .zip a b, X, W, c, tg, e, ok, h => by
    unfold ckI at h; try dsimp only at h
    split at h
    · rw [Bool.and_eq_true, Bool.and_eq_true, Bool.and_eq_true, Bool.and_eq_true, Bool.and_eq_true, Bool.and_eq_true, decide_eq_true_eq] at h
      obtain ⟨⟨⟨⟨⟨rfl, h1⟩, h2⟩, h3⟩, h4⟩, h5, h6⟩ := h
      cases tg <;> try (cases h4; done)
      exact si_zip (sndE a ok h5).se (sndE b ok h6).se (ok.gl h1) (ok.mn (by decide)) h2 h3
    · cases h
  | .enm a, X, W, c, tg, e, ok, h => by
    unfold ckI at h; try dsimp only at h
    split at h
    · rw [Bool.and_eq_true, Bool.and_eq_true, Bool.and_eq_true, Bool.and_eq_true, decide_eq_true_eq] at h
      obtain ⟨⟨⟨⟨rfl, h1⟩, h2⟩, h3⟩, h4⟩ := h
      cases tg <;> try (cases h3; done)
      exact si_enm (sndE a ok h4).se (ok.gl h1) (ok.mn (by decide)) h2
    · cases h
end
end Tv
end

section
set_option autoImplicit false
set_option maxHeartbeats 1000000
/-! What is held against the code computes what the trees say: statements, defs. -/
namespace Tv
open PySem PySem.Spec PyProof.Rows L2
section
variable {X : Cx} {px : Px} {W : WX} {cl : Nat → List D → Hs → R D} {c : Ck} {a b : Expr} {fa fb fc : Ev → Hs → R D} {pos pos' p : Pos} {i j : Nat} {x y : Str}
/-! ### a comprehension's parts -/
structure CompOk (X : Cx) (px : Px) (W : WX) (c : Ck) (cl : Nat → List D → Hs → R D) (it : It) (t : T) (vs : List Nat) (cnd elt : E) (elt' tg iter : Expr) (ifs : List Expr) (scope : Scope) : Prop where
  it : SI X px W false tg iter (evI cl false it)
  blk : BlkOk X.N X.env.scope scope (ownOf c vs)
  tv : ∀ i ∈ t.is, i ∈ vs
  tg : ∀ (s : Shared) (H : Hp) (C : Addr) (cs : List (Str × Addr)) (fp : List Addr), SG (X.blk s H scope (compEnvC scope cs C X.env) fp) tg t
  cnd : ∀ (s : Shared) (H : Hp) (C : Addr) (cs : List (Str × Addr)) (fp : List Addr), STs (X.blk s H scope (compEnvC scope cs C X.env) fp) px Wno ifs (evE cl cnd)
  elt : ∀ (s : Shared) (H : Hp) (C : Addr) (cs : List (Str × Addr)) (fp : List Addr), SE (X.blk s H scope (compEnvC scope cs C X.env) fp) px Wno elt' (evE cl elt)
  fold : ∀ x, foldedSetIterable iter X.env x = pure x
theorem comp_ok (ok : Ok X px W cl c) {it : It} {t : T} {vs : List Nat} {cnd elt : E} {e : Expr} (h : ckE c (.comp it t vs cnd elt) e = true) :
    ∃ elt' tg iter ifs scope pos, e = .ListComp elt' [⟨tg, iter, ifs, 0⟩] scope pos ∧ CompOk X px W c cl it t vs cnd elt elt' tg iter ifs scope := by
  unfold ckE at h; try dsimp only at h
  split at h
  · rename_i elt' tg iter ifs scope pos
    rw [Bool.and_eq_true, Bool.and_eq_true, Bool.and_eq_true, Bool.and_eq_true, Bool.and_eq_true, Bool.and_eq_true] at h
    obtain ⟨⟨⟨⟨⟨h1, h2⟩, h3⟩, h4⟩, h5⟩, h6, h7⟩ := h
    refine ⟨elt', tg, iter, ifs, scope, pos, rfl, sndI it ok h1, by rw [ok.N, ok.sc]; exact blkOk_by h3, fun i hi => ?_, fun s H C cs fp => ok.blk.tg h5, fun s H C cs fp => ?_, fun s H C cs fp => (sndE elt ok.blk h7).se, noSet_fold h2 X.env⟩
    · rw [List.all_eq_true] at h4
      have := h4 i hi
      simpa using this
    · split at h6
      · cases cnd <;> try (cases h6; done)
        rename_i d
        cases d <;> try (cases h6; done)
        rename_i b
        have hb : b = true := h6
        subst hb
        exact sts_nil
      · rw [Bool.and_eq_true] at h6
        exact sts_one ((sndE cnd ok.blk h6.2).st h6.1)
      · cases h6
  · cases h
/-- lists made anew -/
def frF : E → Bool
  | .lst _ => true
  | .comp .. => true
  | _ => false
def frB : E → Bool
  | .lst _ => true
  | .comp .. => true
  | .bin .add _ _ => true
  | .bin .mul _ _ => true
  | _ => false
theorem sndF (ok : Ok X px W cl c) {t : E} {e : Expr} (h : ckE c t e = true) (hf : frF t = true) : SEF X px W e (evE cl t) := by
  cases t <;> try (cases hf; done)
  · rename_i es
    unfold ckE at h; try dsimp only at h
    split at h
    · rw [Bool.and_eq_true, Bool.and_eq_true, decide_eq_true_eq] at h
      obtain ⟨⟨h1, h2⟩, h3⟩ := h
      exact se_lstF (sndEs es ok h3 h1) h2 (evEs_len es h3)
    · cases h
  · rename_i it t vs cnd elt
    obtain ⟨elt', tg, iter, ifs, scope, pos, rfl, q⟩ := comp_ok ok h
    have r := se_compF (W := W) (pos := pos) ok.calm ok.nd q.it q.blk (fun i hi => by rw [own_map]; exact q.tv i hi) q.tg q.cnd q.elt q.fold
    rw [own_map] at r
    exact r
theorem sndL (ok : Ok X px W cl c) {t : E} {e : Expr} (h : ckE c t e = true) (hf : frB t = true) : SEL X px W e (evE cl t) := by
  by_cases hF : frF t = true
  · exact (sndF ok h hF).sel
  · cases t <;> first | (cases hf; done) | (exact absurd rfl hF) | skip
    rename_i o a b
    unfold ckE at h; try dsimp only at h
    split at h
    · rw [Bool.and_eq_true, Bool.and_eq_true] at h
      obtain ⟨h1, h2, h3⟩ := h
      rw [bopB_of h1]
      have qa := (sndE a ok h2).se
      have qb := (sndE b ok h3).se
      cases o <;> first | (cases hf; done) | skip
      · exact sel_bin (o := .add) (r := op_addL) qa qb
      · exact sel_bin (o := .mul) (r := op_mulL) qa qb
    · cases h
/-! ### stores that no swap is made of -/
theorem sw_cell {e : Expr} {t : Option Expr} (hx : X.env.scope.names.lookup x = some .cell) {l : Nat} : swapsWith e (some (.Name x p)) l X.env = pure false := by
  have k : X.env.kindOf x = some .cell := hx
  unfold swapsWith
  cases e <;> first | rfl | (simp only [k]; simp [show (NameKind.cell == NameKind.local) = false from rfl])
def kindFn (c : Ck) : Bool := match c.sc.kind with
  | .function => true
  | _ => false
/-- x = [..] of a name that no block reads, on one line -/
def lcSwap (c : Ck) (x : Str) (e : Expr) (l l2 : Nat) : Bool := match e with
  | .ListComp _ _ scope pos => lcB c x && kindFn c && (l == pos.line) && !(scope.names.any fun (n, k) => n == x && (k == .local || k == .cell))
  | _ => false
theorem ss_setW (ok : Ok X px W cl c) {f : Ev → Hs → R Fl} {t : E} (hn : NmOk X x i) (h : ckE c t a = true) (hc : (noComp a || ceB c x || lcSwap c x a pos'.line pos.line) = true)
    (hr : ∀ En σ H, rdS X.K px W f En σ H → tAsg (rdE X.K px W (evE cl t)) (gName i) En σ H) : SS X px W (.Assign [.Name x pos'] a pos) f := by
  rw [Bool.or_eq_true, Bool.or_eq_true] at hc
  rcases hc with (hc | hc) | hc
  · exact PS.of (ps_set ok.nd hn.1 hn.2.1 (sndE t ok h).se (noComp_sw hc _ _ _) hn.2.2) fun En σ H q => hr En σ H q
  · exact PS.of (ps_set ok.nd hn.1 hn.2.1 (sndE t ok h).se (sw_cell (t := none) (ok.ce hc)) hn.2.2) fun En σ H q => hr En σ H q
  · unfold lcSwap at hc
    split at hc
    · rename_i elt0 gs scope0 pos0
      rw [Bool.and_eq_true, Bool.and_eq_true, Bool.and_eq_true, Bool.not_eq_true'] at hc
      obtain ⟨⟨⟨k1, k2⟩, k3⟩, k4⟩ := hc
      cases t <;> try (unfold ckE at h; cases h; done)
      · rename_i it t vs cnd elt
        obtain ⟨elt', tg, iter, ifs, scope, pos2, e1, q⟩ := comp_ok ok h
        cases e1
        have hk : X.env.scope.kind = .function := by
          unfold kindFn at k2
          rw [ok.sc]
          split at k2
          · assumption
          · cases k2
        refine PS.of (ps_setLc (g := rdG X.K t) (tt := rdTs X.K px Wno (evE cl cnd)) (te := rdE X.K px Wno (evE cl elt)) ok.calm ok.nd hn.1 (ok.lc k1) (sw_true hk (ok.lc k1) k3 k4) q.it q.blk q.tg q.cnd q.elt q.fold) fun En σ H z => ?_
        have r := SEF.rd (hr En σ H z)
        rw [own_map]
        exact comp_rd q.tv r
    · cases hc
theorem lc_parts {t : E} {e : Expr} (ok : Ok X px W cl c) (h : ckE c t e = true) {l l2 : Nat} (hc : lcSwap c x e l l2 = true) : ∃ it t' vs cnd elt elt' tg iter ifs scope pos, t = .comp it t' vs cnd elt ∧ e = .ListComp elt' [⟨tg, iter, ifs, 0⟩] scope pos ∧ CompOk X px W c cl it t' vs cnd elt elt' tg iter ifs scope ∧
      X.env.scope.names.lookup x = some .local ∧ X.env.scope.kind = .function ∧ (l == pos.line) = true ∧ (scope.names.any fun (n, k) => n == x && (k == .local || k == .cell)) = false := by
  unfold lcSwap at hc
  split at hc
  · rename_i elt0 gs scope0 pos0
    rw [Bool.and_eq_true, Bool.and_eq_true, Bool.and_eq_true, Bool.not_eq_true'] at hc
    obtain ⟨⟨⟨k1, k2⟩, k3⟩, k4⟩ := hc
    cases t <;> try (unfold ckE at h; cases h; done)
    · rename_i it t vs cnd elt
      obtain ⟨elt', tg, iter, ifs, scope, pos2, e1, q⟩ := comp_ok ok h
      cases e1
      have hk : X.env.scope.kind = .function := by
        unfold kindFn at k2
        rw [ok.sc]
        split at k2
        · assumption
        · cases k2
      exact ⟨it, t, vs, cnd, elt, elt0, tg, iter, ifs, scope0, pos0, rfl, rfl, q, ok.lc k1, hk, k3, k4⟩
  · cases hc
theorem ss_ownW (ok : Ok X px W cl c) {t : E} (hn : NmOk X x i) (h : ckE c t a = true) (hf : frB t = true) (hc : (noComp a || ceB c x || lcSwap c x a pos'.line pos.line) = true) : SS X px W (.Assign [.Name x pos'] a pos) (fOwn i (evE cl t)) := by
  rw [Bool.or_eq_true, Bool.or_eq_true] at hc
  rcases hc with (hc | hc) | hc
  · exact ss_ownL ok.nd hn (sndL ok h hf) (noComp_sw hc _ _ _)
  · exact ss_ownL ok.nd hn (sndL ok h hf) (sw_cell (t := none) (ok.ce hc))
  · obtain ⟨it, t', vs, cnd, elt, elt', tg, iter, ifs, scope, pos2, rfl, rfl, q, k1, hk, k3, k4⟩ := lc_parts ok h hc
    refine PS.of (ps_setLc (g := rdG X.K t') (tt := rdTs X.K px Wno (evE cl cnd)) (te := rdE X.K px Wno (evE cl elt)) ok.calm ok.nd hn.1 k1 (sw_true hk k1 k3 k4) q.it q.blk q.tg q.cnd q.elt q.fold) fun En σ H z => ?_
    have r := own_rd z
    rw [own_map]
    exact comp_rd q.tv r
/-! ### a, b = x, y -/
def parB (c : Ck) (x y : Str) (p q : Pos) (a b : Expr) : Bool := lcB c x && lcB c y && kindFn c && (q.line == p.line) && decide (x ≠ y) && nst a && nst b && !(foldedForSure 8 a && foldedForSure 8 b) && !(constantsAlone 8 a && constantsAlone 8 b)
theorem par_sw {c : Ck} (hs : X.env.scope = c.sc) {p q pt pt2 : Pos} {kt k2 : Nat} {a b : Expr} (h : parB c x y p q a b = true) : swappedStores [.Tuple [.Name x p, .Name y q] kt pt] (.Tuple [a, b] k2 pt2) X.env = pure (some [x, y]) := by
  unfold parB at h
  simp only [Bool.and_eq_true, Bool.not_eq_true', decide_eq_true_eq] at h
  obtain ⟨⟨⟨⟨⟨⟨⟨⟨h1, h2⟩, h3⟩, h4⟩, h5⟩, h6⟩, h7⟩, h8⟩, h9⟩ := h
  have kx : X.env.kindOf x = some .local := by
    show X.env.scope.names.lookup x = _
    rw [hs]; unfold lcB at h1
    split at h1
    · assumption
    · cases h1
  have ky : X.env.kindOf y = some .local := by
    show X.env.scope.names.lookup y = _
    rw [hs]; unfold lcB at h2
    split at h2
    · assumption
    · cases h2
  have hb : X.env.blockKind = .function := by
    unfold Env.blockKind
    rw [hs]
    unfold kindFn at h3
    split at h3
    · rename_i z; rw [z]; rfl
    · cases h3
  have st : ∀ e, nst e = true → (match e with | .Starred .. => true | _ => false) = false := by
    intro e h
    cases e <;> first | rfl | cases h
  have hfo : (foldedForSure 8 a && (foldedForSure 8 b && true)) = false := by rw [Bool.and_true]; exact h8
  have hco : (constantsAlone 8 a && (constantsAlone 8 b && true)) = false := by rw [Bool.and_true]; exact h9
  have hq : (q.line == p.line) = true := h4
  have xy : (y == x) = false := by simpa using fun e => h5 e.symm
  unfold swappedStores
  simp only [hb, List.any_cons, List.any_nil, st a h6, st b h7, List.all_cons, List.all_nil, hfo, hco, List.filterMap_cons, List.filterMap_nil, kx, ky, List.head?_cons, Option.map_some, Option.getD_some, Expr.pos, hq, beq_self_eq_true, Bool.and_self, if_true, List.length_cons, List.length_nil, Bool.or_false, Bool.false_eq_true, if_false, List.eraseDups_cons, List.filter_cons, List.filter_nil, xy]
  refine (if_neg (by decide)).trans ?_
  refine (if_neg ?_).trans ?_
  · intro z
    rw [Bool.or_eq_true] at z
    rcases z with z | z
    · exact Bool.noConfusion (z.symm.trans (st a h6))
    · exact Bool.noConfusion (z.symm.trans (st b h7))
  · refine if_neg ?_
    rw [if_pos (by rfl)]
    have e1 : [y].eraseDups = [y] := by rw [List.eraseDups_cons]; rfl
    rw [e1]
    intro z
    cases z
/-- the first a new list, i's own -/
def fParT (i j : Nat) (fa fb : Ev → Hs → R D) : Ev → Hs → R Fl := fun e h => (fa e h).bind fun x h => (fb e h).bind fun y h => (match x with
    | .lst xs => if xs.all D.keep && y.keep then .ok (.nx ((e.put i (.o xs)).put j (.v y))) h else .bad
    | _ => .bad)
/-- the second -/
def fParU (i j : Nat) (fa fb : Ev → Hs → R D) : Ev → Hs → R Fl := fun e h => (fa e h).bind fun x h => (fb e h).bind fun y h => (match y with
    | .lst ys => if x.keep && ys.all D.keep then .ok (.nx ((e.put i (.v x)).put j (.o ys))) h else .bad
    | _ => .bad)
theorem ss_parT {kt k2 : Nat} {px' py' pt pt2 : Pos} (hcal : X.calm = true) (hN : X.N.Nodup) (hn : NmOk X x i) (hm : NmOk X y j) (hij : i ≠ j) (hx : X.env.scope.names.lookup x = some .local) (hy : X.env.scope.names.lookup y = some .local) (ha : SEF X px W a fa) (hb : SE X px W b fb) (sa : nst a = true) (sb : nst b = true)
    (hw : swappedStores [.Tuple [.Name x px', .Name y py'] kt pt] (.Tuple [a, b] k2 pt2) X.env = pure (some [x, y])) : SS X px W (.Assign [.Tuple [.Name x px', .Name y py'] kt pt] (.Tuple [a, b] k2 pt2) pos) (fParT i j fa fb) := by
  refine PS.of (ps_par hcal hN hn.1 hm.1 hij hx hy (pa_cons ha (pa_cons hb pa_nil (star_ok sb)) (star_ok sa)) hw) fun En σ H ⟨w, e, h, p⟩ => ?_
  refine ⟨w, e, h, p.rr, ?_⟩
  have q := p.po
  unfold fParT at q
  cases e1 : fa e h with
  | bad => rw [e1] at q; exact q
  | exc z h' => rw [e1] at q; exact fun cls dd w' H' x1 x2 x3 x4 => q cls dd w' σ H' x1.s x2 x3 x4
  | ok d h1 =>
    rw [e1, R.bind_ok] at q
    rintro v w1 H1 x1 x2 x3 ⟨l, xs, ds, rfl, rfl, h0, y1, y2, y3⟩
    refine ⟨w1, e, h1, p.rr.ext x1 x2 x3, ?_⟩
    cases e2 : fb e h1 with
    | bad => rw [e2] at q; exact q
    | exc z h' => rw [e2] at q; exact fun cls dd w' H' z1 z2 z3 z4 => q cls dd w' σ H' (x1.trans z1).s z2 z3 z4
    | ok d2 h2 =>
      rw [e2, R.bind_ok] at q
      intro u w2 H2 z1 z2 z3 z4
      dsimp only at q
      split at q
      · rename_i hk
        rw [Bool.and_eq_true] at hk
        have nh : l ∉ w1.hp := fun z => (x2.sep l z).2 y1
        have r := p.rr.own (x1.trans z1) z2 z3 i h0 (z1.pr l y1) (z1.keep l _ y2 nh fun ps z => by cases z) (y3.ext z1) hk.1
        have e3 : (w2.own i l).hp = w2.hp := rfl
        exact ⟨.ref l, u, rfl, q _ _ _ (ext_own (x1.trans z1) p.rr.hr.prd h0 (z1.pr l y1)) ⟨r.hr, r.er.put j (.of (VR.weak e3 (fun b => Wd.own_forb (z1.pr l y1)) (VT.keep z4 hk.2))), r.tb⟩⟩
      · exact q.elim
theorem ss_parU {kt k2 : Nat} {px' py' pt pt2 : Pos} (hcal : X.calm = true) (hN : X.N.Nodup) (hn : NmOk X x i) (hm : NmOk X y j) (hij : i ≠ j) (hx : X.env.scope.names.lookup x = some .local) (hy : X.env.scope.names.lookup y = some .local) (ha : SE X px W a fa) (hb : SEF X px W b fb) (sa : nst a = true) (sb : nst b = true)
    (hw : swappedStores [.Tuple [.Name x px', .Name y py'] kt pt] (.Tuple [a, b] k2 pt2) X.env = pure (some [x, y])) : SS X px W (.Assign [.Tuple [.Name x px', .Name y py'] kt pt] (.Tuple [a, b] k2 pt2) pos) (fParU i j fa fb) := by
  refine PS.of (ps_par hcal hN hn.1 hm.1 hij hx hy (pa_cons ha (pa_cons hb pa_nil (star_ok sb)) (star_ok sa)) hw) fun En σ H ⟨w, e, h, p⟩ => ?_
  refine ⟨w, e, h, p.bind.imp fun v H1 ⟨d, h1, w1, _, x1, v1, p1⟩ => ⟨w1, e, h1, p1.rr, ?_⟩⟩
  have q := p1.po
  cases e2 : fb e h1 with
  | bad => rw [e2] at q; exact q
  | exc z h' => rw [e2] at q; exact fun cls dd w' H' z1 z2 z3 z4 => q cls dd w' σ H' z1.s z2 z3 z4
  | ok d2 h2 =>
    rw [e2, R.bind_ok] at q
    rintro u w2 H2 z1 z2 z3 ⟨l, xs, ds, rfl, rfl, h0, y1, y2, y3⟩
    dsimp only at q
    split at q
    · rename_i hk
      rw [Bool.and_eq_true] at hk
      have r0 : RR X.K px w1 (e.put i (.v d)) h1 (σ.set i (some v)) H1 := ⟨p1.rr.hr, p1.rr.er.put i (.of (VT.keep v1 hk.1)), p1.rr.tb⟩
      have r := r0.own z1 z2 z3 j h0 y1 y2 y3 hk.2
      exact ⟨v, .ref l, rfl, q _ _ _ (ext_own z1 p1.rr.hr.prd h0 y1) r⟩
    · exact q.elim
/-! ### both new lists, from a tuple that is made -/
theorem Ext.own {K : PySem.W.Frag} {w1 w2 : Wd} {H1 H2 : Hp} {i : Nat} {a : Addr} (x : Ext w1 H1 w2 H2) : Ext (w1.own i a) H1 (w2.own i a) H2 where
  pre := x.pre
  ow := by
    show w2.ow.set i (some a) = w1.ow.set i (some a)
    rw [x.ow]
  pr := fun b z => ⟨x.pr b z.1, z.2⟩
  prf := fun b z => by
    rcases x.prf b z.1 with q | q
    · exact .inl ⟨q, z.2⟩
    · exact .inr q
  keep := x.keep
  tups := x.tups
  dom := x.dom
def fOwn2 (i j : Nat) (fa fb : Ev → Hs → R D) : Ev → Hs → R Fl := fun e h => (fa e h).bind fun x h => (fb e h).bind fun y h => (match x, y with
    | .lst xs, .lst ys => if xs.all D.keep && ys.all D.keep then .ok (.nx ((e.put i (.o xs)).put j (.o ys))) h else .bad
    | _, _ => .bad)
theorem ss_own2 {kt k2 : Nat} {px' py' pt pt2 : Pos} (hcal : X.calm = true) (hN : X.N.Nodup) (hn : NmOk X x i) (hm : NmOk X y j) (hij : i ≠ j) (ha : SEF X px W a fa) (hb : SEL X px W b fb) (sa : nst a = true) (sb : nst b = true)
    (hws : swapsWithSole [.Tuple [.Name x px', .Name y py'] kt pt] (.Tuple [a, b] k2 pt2) pos.line X.env = pure false) (hw : swappedStores [.Tuple [.Name x px', .Name y py'] kt pt] (.Tuple [a, b] k2 pt2) X.env = pure none) : SS X px W (.Assign [.Tuple [.Name x px', .Name y py'] kt pt] (.Tuple [a, b] k2 pt2) pos) (fOwn2 i j fa fb) := by
  refine PS.of (ps_asg (pe_tup (pa_cons ha (pa_cons hb pa_nil (star_ok sb)) (star_ok sa))) (pg_tup (n := 2) hcal (pgs_cons (pg_name hN hn.1 hn.2.1 hn.2.2) (pgs_cons (pg_name hN hm.1 hm.2.1 hm.2.2) pgs_nil))) hws hw) fun En σ H ⟨w, e, h, p⟩ => ?_
  refine ⟨w, e, h, p.rr, ?_⟩
  have q := p.po
  unfold fOwn2 at q
  cases e1 : fa e h with
  | bad => rw [e1] at q; exact q
  | exc z h' => rw [e1] at q; exact fun cls dd w' H' x1 x2 x3 x4 => q cls dd w' σ H' x1.s x2 x3 x4
  | ok d h1 =>
    rw [e1, R.bind_ok] at q
    · rintro v w1 H1 x1 x2 x3 ⟨l, xs, as, rfl, rfl, h0, y1, y2, y3⟩
      refine ⟨w1, e, h1, p.rr.ext x1 x2 x3, ?_⟩
      cases e2 : fb e h1 with
      | bad => rw [e2] at q; exact q
      | exc z h' => rw [e2] at q; exact fun cls dd w' H' z1 z2 z3 z4 => q cls dd w' σ H' (x1.trans z1).s z2 z3 z4
      | ok d2 h2 =>
        rw [e2, R.bind_ok] at q
        rw [R.bind_ok]
        by_cases hd2 : ∃ xs, d2 = .lst xs
        · obtain ⟨bs, rfl⟩ := hd2
          rintro u w2 H2 z1 z2 z3 ⟨l2, ys, ds2, ed2, rfl, g0, u1, u2, u3⟩
          cases ed2
          dsimp only at q
          split at q
          · rename_i hk
            rw [Bool.and_eq_true] at hk
            refine ⟨by rw [sizeLine_eq]; show (2 : Nat) ≤ 16777216; decide, fun q0 hq0 => ⟨q0, _, rfl, sqt upd_same, rfl, _, _, rfl, _, _, rfl, rfl, ?_⟩⟩
            have nh : l ∉ w1.hp := fun z => (x2.sep l z).2 y1
            have nh2 : l2 ∉ w2.hp := fun z => (z2.sep l2 z).2 u1
            have k1 : H2 l = some (.lst xs) := z1.keep l _ y2 nh fun ps z => by cases z
            have rr2 := (p.rr.ext (x1.trans z1) z2 z3).new (o := .tup [.ref l, .ref l2]) hq0
            have X3 : Ext w H w2 (upd H2 q0 (.tup [.ref l, .ref l2])) := (x1.trans z1).trans (Ext.new hq0 z2)
            have X4 : Ext w1 H1 w2 (upd H2 q0 (.tup [.ref l, .ref l2])) := z1.trans (Ext.new hq0 z2)
            have k3 : (upd H2 q0 (.tup [.ref l, .ref l2])) l = some (.lst xs) := by rw [upd_ne (ne_of_none k1 hq0)]; exact k1
            have k4 : (upd H2 q0 (.tup [.ref l, .ref l2])) l2 = some (.lst ys) := by rw [upd_ne (ne_of_none u2 hq0)]; exact u2
            have ne : l2 ≠ l := fun z => by rw [z] at g0; rw [y2] at g0; cases g0
            have ra := p.rr.own X3 rr2.hr rr2.tb i h0 (z1.pr l y1) k3 (y3.ext X4) hk.1
            have r1 := p.rr.own x1 x2 x3 i h0 y1 y2 y3 hk.1
            have e3 : (w2.own i l).hp = w2.hp := rfl
            have rb := r1.own (Ext.own (K := X.K) (i := i) (a := l) X4) ra.hr ra.tb j g0 ⟨u1, ne⟩ k4 (VRs.weak e3 (fun b => Wd.own_forb (z1.pr l y1)) (u3.ext (Ext.new hq0 z2))) hk.2
            exact q _ _ _ ((ext_own x1 p.rr.hr.prd h0 y1).trans (ext_own (Ext.own (K := X.K) (i := i) (a := l) X4) r1.hr.prd g0 ⟨u1, ne⟩)) rb
          · exact q.elim
        · cases d2 <;> first | exact absurd ⟨_, rfl⟩ hd2 | exact q.elim
/-- a list and a dict, both new -/
def fPard (i j : Nat) (t : Bool) (fa : Ev → Hs → R D) : Ev → Hs → R Fl := fun e h => (fa e h).bind fun x h => (match x with
    | .lst xs => if xs.all D.keep then .ok (.nx ((e.put i (.o xs)).put j (.k t []))) h else .bad
    | _ => .bad)
theorem pard_rd {K : PySem.W.Frag} {En : Ends} {σ : L2.St} {H : Hp} {o : HO} {t : Bool} (ho : ∀ w H, KvR K w H [] t o) (q : rdS K px W (fPard i j t fa) En σ H) : rdF K px W fa σ H fun v H1 => ∀ p, H1 p = none → En.nx ((σ.set i (some v)).set j (some (.ref p))) (upd H1 p o) := by
  obtain ⟨w, e, h, p⟩ := q
  refine ⟨w, e, h, p.rr, ?_⟩
  have q := p.po
  unfold fPard at q
  cases e1 : fa e h with
  | bad => rw [e1] at q; exact q
  | exc z h' => rw [e1] at q; exact fun cls dd w' H' x1 x2 x3 x4 => q cls dd w' σ H' x1.s x2 x3 x4
  | ok d h1 =>
    rw [e1, R.bind_ok] at q
    rintro v w1 H1 x1 x2 x3 ⟨l, xs, ds, rfl, rfl, h0, y1, y2, y3⟩
    dsimp only at q
    split at q
    · rename_i hk
      intro a ha
      have r1 := p.rr.own x1 x2 x3 i h0 y1 y2 y3 hk
      have r2 := r1.ownK (Ext.guard ha) (r1.hr.guard ha) (r1.new ha).tb j ha (.inr rfl) upd_same (ho _ _)
      exact q _ _ _ ((ext_own x1 p.rr.hr.prd h0 y1).trans (ext_own (Ext.guard ha) r1.hr.prd ha (.inr rfl))) r2
    · exact q.elim
theorem ss_pard {kt k2 : Nat} {px' py' pt pt2 pd : Pos} {t : Bool} (hcal : X.calm = true) (hN : X.N.Nodup) (hn : NmOk X x i) (hm : NmOk X y j) (hij : i ≠ j) (hx : X.env.scope.names.lookup x = some .local) (hy : X.env.scope.names.lookup y = some .local) (ha : SEF X px W a fa) (sa : nst a = true)
    (hw : swappedStores [.Tuple [.Name x px', .Name y py'] kt pt] (.Tuple [a, .Dict [] [] pd] k2 pt2) X.env = pure (some [x, y])) : SS X px W (.Assign [.Tuple [.Name x px', .Name y py'] kt pt] (.Tuple [a, .Dict [] [] pd] k2 pt2) pos) (fPard i j t fa) := by
  cases t with
  | false =>
    refine PS.of (ps_par hcal hN hn.1 hm.1 hij hx hy (pa_cons ha (pa_cons pe_dnewK pa_nil rfl) (star_ok sa)) hw) fun En σ H q => ?_
    obtain ⟨w, e, h, p⟩ := pard_rd (t := false) (o := .dK []) (fun _ _ => ⟨[], rfl, .nil⟩) q
    exact ⟨w, e, h, p.imp fun v H1 z a ha => ⟨_, _, rfl, z a ha⟩⟩
  | true =>
    refine PS.of (ps_par hcal hN hn.1 hm.1 hij hx hy (pa_cons ha (pa_cons pe_dnewT pa_nil rfl) (star_ok sa)) hw) fun En σ H q => ?_
    obtain ⟨w, e, h, p⟩ := pard_rd (t := true) (o := .dT []) (fun _ _ => ⟨[], rfl, .nil⟩) q
    exact ⟨w, e, h, p.imp fun v H1 z a ha => ⟨_, _, rfl, z a ha⟩⟩
/-! ### two new lists and a thing -/
def parB3 (c : Ck) (x y z : Str) (p q r : Pos) (a : Expr) : Bool := lcB c x && lcB c y && lcB c z && kindFn c && (q.line == p.line) && (r.line == p.line) && decide (x ≠ y) && decide (x ≠ z) && decide (y ≠ z) && nst a && !foldedForSure 8 a && !constantsAlone 8 a
theorem lc_of {c : Ck} {x : Str} (hs : X.env.scope = c.sc) (h : lcB c x = true) : X.env.kindOf x = some .local := by
  show X.env.scope.names.lookup x = _
  rw [hs]; unfold lcB at h
  split at h
  · assumption
  · cases h
theorem par3_sw {c : Ck} (hs : X.env.scope = c.sc) {x y z : Str} {p q r pt pt2 pa pb : Pos} {kt k2 : Nat} {a : Expr} (h : parB3 c x y z p q r a = true) : swappedStores [.Tuple [.Name x p, .Name y q, .Name z r] kt pt] (.Tuple [.List [] pa, .List [] pb, a] k2 pt2) X.env = pure (some [x, y, z]) := by
  unfold parB3 at h
  simp only [Bool.and_eq_true, Bool.not_eq_true', decide_eq_true_eq] at h
  obtain ⟨⟨⟨⟨⟨⟨⟨⟨⟨⟨⟨h1, h2⟩, h3⟩, h4⟩, h5⟩, h6⟩, h7⟩, h8⟩, h9⟩, h10⟩, h11⟩, h12⟩ := h
  have kx := lc_of hs h1
  have ky := lc_of hs h2
  have kz := lc_of hs h3
  have hb : X.env.blockKind = .function := by
    unfold Env.blockKind
    rw [hs]
    unfold kindFn at h4
    split at h4
    · rename_i z; rw [z]; rfl
    · cases h4
  have st : ∀ e, nst e = true → (match e with | .Starred .. => true | _ => false) = false := by
    intro e h
    cases e <;> first | rfl | cases h
  have xy : (y == x) = false := by simpa using fun e => h7 e.symm
  have xz : (z == x) = false := by simpa using fun e => h8 e.symm
  have yz : (z == y) = false := by simpa using fun e => h9 e.symm
  have hfo : (foldedForSure 8 (.List [] pa) && (foldedForSure 8 (.List [] pb) && (foldedForSure 8 a && true))) = false := by rw [h11]; simp
  have hco : (constantsAlone 8 (.List [] pa) && (constantsAlone 8 (.List [] pb) && (constantsAlone 8 a && true))) = false := by rw [h12]; simp
  unfold swappedStores
  simp only [hb, List.any_cons, List.any_nil, st a h10, List.all_cons, List.all_nil, hfo, hco, List.filterMap_cons, List.filterMap_nil, kx, ky, kz, List.head?_cons, Option.map_some, Option.getD_some, Expr.pos, h5, h6, beq_self_eq_true, Bool.and_self, if_true, List.length_cons, List.length_nil, Bool.or_false, Bool.false_eq_true, if_false, List.eraseDups_cons, List.filter_cons, List.filter_nil, xy, xz, yz]
  refine (if_neg (by decide)).trans ?_
  refine (if_neg ?_).trans ?_
  · intro z
    exact Bool.noConfusion (z.symm.trans (st a h10))
  · refine if_neg ?_
    rw [if_pos (by rfl), if_pos (by rfl)]
    have e1 : [y, z].eraseDups = [y, z] := by rw [List.eraseDups_cons]; simp only [List.filter_cons, List.filter_nil, yz]; rw [if_pos (by rfl), List.eraseDups_cons]; rfl
    rw [e1]
    intro z
    cases z
def fPar3 (i j l : Nat) (fa : Ev → Hs → R D) : Ev → Hs → R Fl := fun e h => (fa e h).bind fun x h => if x.keep then .ok (.nx (((e.put i (.o [])).put j (.o [])).put l (.v x))) h else .bad
theorem ss_par3 {z : Str} {a b c : Expr} {fa fb fc : Ev → Hs → R D} {i j m kt k2 : Nat} {px' py' pz' pt pt2 : Pos} (hcal : X.calm = true) (hN : X.N.Nodup) (hn : NmOk X x i) (hm : NmOk X y j) (hl : NmOk X z m) (hij : i ≠ j) (hil : i ≠ m) (hjl : j ≠ m) (hx : X.env.scope.names.lookup x = some .local) (hy : X.env.scope.names.lookup y = some .local) (hz : X.env.scope.names.lookup z = some .local)
    (ha : SEF X px W a fa) (hb : SEF X px W b fb) (hc : SE X px W c fc) (ea : ∀ e h, fa e h = .ok (.lst []) h) (eb : ∀ e h, fb e h = .ok (.lst []) h) (sa : nst a = true) (sb : nst b = true) (sc : nst c = true)
    (hw : swappedStores [.Tuple [.Name x px', .Name y py', .Name z pz'] kt pt] (.Tuple [a, b, c] k2 pt2) X.env = pure (some [x, y, z])) : SS X px W (.Assign [.Tuple [.Name x px', .Name y py', .Name z pz'] kt pt] (.Tuple [a, b, c] k2 pt2) pos) (fPar3 i j m fc) := by
  refine PS.of (ps_par3 hcal hN hn.1 hm.1 hl.1 hij hil hjl hx hy hz (pa_cons ha (pa_cons hb (pa_cons hc pa_nil (star_ok sc)) (star_ok sb)) (star_ok sa)) hw) fun En σ H ⟨w, e, h, p⟩ => ?_
  refine ⟨w, e, h, p.rr, ?_⟩
  have q := p.po
  unfold fPar3 at q
  rw [ea]
  rintro v w1 H1 x1 x2 x3 ⟨l, xs, as, e1, rfl, h0, y1, y2, y3⟩
  cases e1
  refine ⟨w1, e, h, p.rr.ext x1 x2 x3, ?_⟩
  rw [eb]
  rintro u w2 H2 z1 z2 z3 ⟨l2, ys, ds2, e2, rfl, g0, u1, u2, u3⟩
  cases e2
  refine ⟨w2, e, h, p.rr.ext (x1.trans z1) z2 z3, ?_⟩
  cases e3 : fc e h with
  | bad => rw [e3] at q; exact q
  | exc z h' => rw [e3] at q; exact fun cls dd w' H' c1 c2 c3 c4 => q cls dd w' σ H' ((x1.trans z1).trans c1).s c2 c3 c4
  | ok d3 h3 =>
    rw [e3, R.bind_ok] at q
    rintro t w3 H3 c1 c2 c3 c4
    split at q
    · rename_i hk
      have nh : l ∉ w1.hp := fun z => (x2.sep l z).2 y1
      have nh1 : l ∉ w2.hp := fun z => (z2.sep l z).2 (z1.pr l y1)
      have nh2 : l2 ∉ w2.hp := fun z => (z2.sep l2 z).2 u1
      have k1 : H3 l = some (.lst xs) := c1.keep l _ (z1.keep l _ y2 nh fun ps z => by cases z) nh1 fun ps z => by cases z
      have k2 : H3 l2 = some (.lst ys) := c1.keep l2 _ u2 nh2 fun ps z => by cases z
      have X4 : Ext w1 H1 w3 H3 := z1.trans c1
      have ne : l2 ≠ l := fun z => by rw [z] at g0; rw [y2] at g0; cases g0
      have pl : w3.pr l := c1.pr l (z1.pr l y1)
      have pl2 : w3.pr l2 := c1.pr l2 u1
      have ra := p.rr.own (x1.trans X4) c2 c3 i h0 pl k1 (y3.ext X4) rfl
      have r1 := p.rr.own x1 x2 x3 i h0 y1 y2 y3 rfl
      have e5 : (w3.own i l).hp = w3.hp := rfl
      have e6 : ((w3.own i l).own j l2).hp = (w3.own i l).hp := rfl
      have rb := r1.own (Ext.own (K := X.K) (i := i) (a := l) X4) ra.hr ra.tb j g0 ⟨pl2, ne⟩ k2 (VRs.weak e5 (fun b => Wd.own_forb pl) (u3.ext c1)) rfl
      exact ⟨.ref l, .ref l2, t, rfl, q _ _ _ ((ext_own x1 p.rr.hr.prd h0 y1).trans (ext_own (Ext.own (K := X.K) (i := i) (a := l) X4) r1.hr.prd g0 ⟨pl2, ne⟩)) ⟨rb.hr, rb.er.put m (.of (VR.weak e6 (fun b => Wd.own_forb ⟨pl2, ne⟩) (VR.weak e5 (fun b => Wd.own_forb pl) (VT.keep c4 hk)))), rb.tb⟩⟩
    · exact q.elim
end
end Tv
end

section
set_option autoImplicit false
set_option maxHeartbeats 1000000
/-! Statements held against the code. -/
namespace Tv
open PySem PySem.Spec PyProof.Rows L2
section
variable {X : Cx} {px : Px} {W : WX} {cl : Nat → List D → Hs → R D} {c : Ck} {a b : Expr} {fa fb fc : Ev → Hs → R D} {pos pos' p : Pos} {i j : Nat} {x y : Str}
def noTup : Expr → Bool
  | .Tuple .. => false
  | _ => true
theorem swp_noTup {es : List Expr} {k : Nat} {q : Pos} {v : Expr} {env : Env} (h : noTup v = true) : swappedStores [.Tuple es k q] v env = pure none := by
  cases v <;> first | rfl | cases h
theorem swp_sub {o k v : Expr} {q : Pos} {env : Env} : swappedStores [.Subscript o k q] v env = pure none := by
  cases v <;> rfl
theorem sws_sub {o k v : Expr} {q : Pos} {l : Nat} {env : Env} : swapsWithSole [.Subscript o k q] v l env = pure false := by
  cases v <;> rfl
theorem sws_tup {es : List Expr} {k : Nat} {v : Expr} {q : Pos} {l : Nat} {env : Env} : swapsWithSole [.Tuple es k q] v l env = pure false := by
  cases v <;> rfl
theorem fm_lt {α β : Type} {f : α → Option β} : ∀ {l : List α}, (∃ a ∈ l, f a = none) → (l.filterMap f).length < l.length
  | [], ⟨_, h, _⟩ => by cases h
  | a :: l, ⟨b, hb, hf⟩ => by
    rw [List.filterMap_cons]
    cases e : f a with
    | none =>
      have := List.length_filterMap_le f l
      simp only [List.length_cons]
      omega
    | some z =>
      rcases List.mem_cons.mp hb with q | q
      · rw [q, e] at hf; cases hf
      · have := fm_lt ⟨b, q, hf⟩
        simp only [List.length_cons]
        omega
/-- a name of the target is a cell -/
def hasCell (c : Ck) (es : List Expr) : Bool := es.any fun e => match e with
  | .Name x _ => ceB c x
  | _ => false
theorem swp_cell (hs : X.env.scope = c.sc) {es : List Expr} {k : Nat} {v : Expr} {q : Pos} (h : hasCell c es = true) : swappedStores [.Tuple es k q] v X.env = pure none := by
  by_cases hv : noTup v = true
  · exact swp_noTup hv
  · cases v <;> first | (exact absurd rfl hv) | skip
    rename_i vs k2 q2
    have key : (es.filterMap fun
      | .Name id pos => if X.env.kindOf id == some .local && pos.line == ((es.head?.map (·.pos.line)).getD 0) then some id else none
      | _ => none).length < es.length := by
      refine fm_lt ?_
      unfold hasCell at h
      rw [List.any_eq_true] at h
      obtain ⟨e, he, hc⟩ := h
      refine ⟨e, he, ?_⟩
      split at hc
      · rename_i x p
        have kx : X.env.kindOf x = some .cell := by
          show X.env.scope.names.lookup x = _
          rw [hs]; unfold ceB at hc
          split at hc
          · assumption
          · cases hc
        rw [kx]
        exact if_neg (fun z => by cases z)
      · cases hc
    unfold swappedStores
    dsimp only
    split
    · rfl
    · split
      · rfl
      · refine if_pos ?_
        rw [Bool.or_eq_true]
        refine .inl ?_
        simp only [bne_iff_ne]
        exact Nat.ne_of_lt key
theorem ss_unp {es : List Expr} {is : List Nat} {k : Nat} {q : Pos} (hN : X.N.Nodup) (hc : X.calm = true) (ha : SE X px W a fa) (hn : NmsOk X es is) (hw : swappedStores [.Tuple es k q] a X.env = pure none) : SS X px W (.Assign [.Tuple es k q] a pos) (fun e h => (fa e h).bind fun x h => match putT (.t is) x e with
    | some e' => .ok (.nx e') h
    | none => .bad) := by
  refine PS.of (ps_asg ha (sg_tup hc hN hn) sws_tup hw) fun En σ H ⟨w, e, h, p⟩ => ⟨w, e, h, p.bind.imp fun x H1 ⟨d, h1, w1, _, x1, v1, p1⟩ => ?_⟩
  cases e1 : putT (.t is) d e with
  | none => rw [e1] at p1; exact p1.po.elim
  | some e' =>
    rw [e1] at p1
    have hk : d.keep = true := by
      obtain ⟨ds, rfl, _⟩ := putT_t e1
      rfl
    exact ⟨w1, e, d, e', VT.keep v1 hk, p1.rr.er, e1, fun σ' l hl hm he => p1.done (ExtS.refl _ _) ⟨p1.rr.hr, he, p1.rr.tb⟩⟩
end
def setB (c : Ck) (x : Str) (e : Expr) (l l2 : Nat) : Bool := noComp e || ceB c x || lcSwap c x e l l2
mutual
def ckS (c : Ck) : S → Stmt → Bool
  | .set i a, s => (match s with
    | .Assign [.Name x p] e q => nmB c x i && setB c x e p.line q.line && ckE c a e
    | _ => false)
  | .own i a, s => (match s with
    | .Assign [.Name x p] e q => nmB c x i && setB c x e p.line q.line && frB a && ckE c a e
    | _ => false)
  | .unp is a, s => (match s with
    | .Assign [.Tuple es _ _] e _ => nmsB c es is && (noTup e || hasCell c es) && ckE c a e
    | _ => false)
  | .par i oi j oj a b, s => (match s with
    | .Assign [.Tuple [.Name x p, .Name y q] _ _] (.Tuple [e, f] _ _) _ => nmB c x i && nmB c y j && decide (i ≠ j) && (ckE c a e && ckE c b f) && (!oi || frF a) && (if oi && oj then hasCell c [.Name x p, .Name y q] && frB b && nst e && nst f else parB c x y p q e f && (!oj || frF b))
    | _ => false)
  | .pard i j tk a, s => (match s with
    | .Assign [.Tuple [.Name x p, .Name y q] _ _] (.Tuple [e, .Dict [] [] pd] _ _) _ => nmB c x i && nmB c y j && decide (i ≠ j) && parB c x y p q e (.Dict [] [] pd) && ckE c a e && frF a
    | _ => false)
  | .par3 i j l a, s => (match s with
    | .Assign [.Tuple [.Name x p, .Name y q, .Name z r] _ _] (.Tuple [.List [] _, .List [] _, e] _ _) _ => nmB c x i && nmB c y j && nmB c z l && decide (i ≠ j) && decide (i ≠ l) && decide (j ≠ l) && parB3 c x y z p q r e && ckE c a e
    | _ => false)
  | .retP a, s => (match s with
    | .Return (some e) _ => ckE c a e
    | _ => false)
  | .popu i is, s => (match s with
    | .Assign [.Tuple es _ _] (.Call (.Attribute (.Name x _) m apos) [a0] [] cpos) _ => decide (m = "pop") && rdB c x i && nmsB c es is && ckE c (.c (.int 0)) a0 && nst a0 && (apos.endLine == cpos.line)
    | _ => false)
  | .sd2 a b i d, s => (match s with
    | .Assign [.Tuple [.Subscript a' b' _, .Name x _] _ _] d' _ => nmB c x i && nsl b' && noTup d' && (ckE c a a' && (ckE c b b' && ckE c d d'))
    | _ => false)
  | .sr a b d, s => (match s with
    | .Assign [.Subscript a' b' _] d' _ => nsl b' && (ckE c a a' && (ckE c b b' && ckE c d d'))
    | _ => false)
  | .si i b d, s => (match s with
    | .Assign [.Subscript (.Name x _) b' _] d' _ => rdB c x i && nsl b' && (ckE c b b' && ckE c d d')
    | _ => false)
  | .ownd i _, s => (match s with
    | .Assign [.Name x _] (.Dict [] [] _) _ => nmB c x i
    | _ => false)
  | .sk i b d, s => (match s with
    | .Assign [.Subscript (.Name x _) b' _] d' _ => rdB c x i && nsl b' && (ckE c b b' && ckE c d d')
    | _ => false)
  | .app i a, s => (match s with
    | .Expr (.Call (.Attribute (.Name x _) m apos) [a'] [] cpos) _ => decide (m = "append") && rdB c x i && nst a' && (apos.endLine == cpos.line) && ckE c a a'
    | _ => false)
  | .ext i a, s => (match s with
    | .Expr (.Call (.Attribute (.Name x _) m apos) [a'] [] cpos) _ => decide (m = "extend") && rdB c x i && nst a' && (apos.endLine == cpos.line) && ckE c a a'
    | _ => false)
  | .pop i, s => (match s with
    | .Expr (.Call (.Attribute (.Name x _) m apos) [] [] cpos) _ => decide (m = "pop") && rdB c x i && (apos.endLine == cpos.line)
    | _ => false)
  | .ex a, s => (match s with
    | .Expr e _ => noComp e && ckE c a e
    | _ => false)
  | .ite t a b, s => (match s with
    | .If t' a' b' _ => tstB t && ckE c t t' && (ckB c a a' && ckB c b b')
    | _ => false)
  | .for it t b, s => (match s with
    | .For tg iter body [] _ => ckI c it tg iter && noSet iter && ckT c t tg && ckB c b body
    | _ => false)
  | .whl t b, s => (match s with
    | .While t' body [] _ => tstB t && ckE c t t' && ckB c b body
    | _ => false)
  | .ret a, s => (match s with
    | .Return (some e) _ => ckE c a e
    | _ => false)
  | .retN, s => (match s with
    | .Return none _ => true
    | _ => false)
  | .rai k a, s => (match s, a with
    | .Raise (some (.Call (.Name x _) [.Constant (.str m) _ _] [] _)) none _, .c (.str n) => decide (m = n) && decide (c.excs.lookup x = some k) && decide (k ≠ 16) && glB c x && plainN x
    | _, _ => false)
  | .raiB a, s => (match s with
    | .Raise (some (.Call (.Name x _) [a'] [] _)) none _ => decide (x = "Broken") && c.brk && glB c x && nst a' && ckE c a a'
    | _ => false)
  | .ownf i f es, s => (match s with
    | .Assign [.Name x p] (.Call (.Name g _) (a :: as) [] q0) q => nmB c x i && (decide (c.defs.lookup g = some (f, as.length + 1)) && glB c g && plainN g && (a :: as).all nst && ckEs c es (a :: as))
    | _ => false)
  | .mv i j, s => (match s with
    | .Assign [.Name x _] (.Name y _) _ => nmB c x i && rdB c y j && decide (i ≠ j)
    | _ => false)
  | .nv, _ => true
  | _, _ => false
def ckB (c : Ck) : Ss → List Stmt → Bool
  | .nil, ss => ss.isEmpty
  | .cons s r, ss => (match s with
    | .frz _ => ckB c r ss
    | s => (match ss with
      | s' :: r' => ckS c s s' && ckB c r r'
      | [] => false))
end
section
variable {X : Cx} {px : Px} {W : WX} {cl : Nat → List D → Hs → R D} {c : Ck}
theorem ss_setF (ok : Ok X px W cl c) {x : Str} {i : Nat} {a : Expr} {t : E} {pos pos' : Pos} (hn : NmOk X x i) (h : ckE c t a = true) (hc : setB c x a pos'.line pos.line = true) : SS X px W (.Assign [.Name x pos'] a pos) (exS cl (.set i t)) :=
  ss_setW ok hn h hc fun En σ H ⟨w, e, h, p⟩ => ⟨w, e, h, p.bind.imp fun x H1 ⟨d, h1, w1, _, x1, v1, p1⟩ => by
    split at p1
    · rename_i hk
      exact p1.done (ExtS.refl _ _) ⟨p1.rr.hr, p1.rr.er.put i (.of (VT.keep v1 hk)), p1.rr.tb⟩
    · exact p1.po.elim⟩
end
theorem sb_skip {X : Cx} {px : Px} {W : WX} {f g : Ev → Hs → R Fl} {ss : List Stmt} (h : SB X px W ss f) (e : ∀ e h, f e h = g e h) : SB X px W ss g := by
  have : f = g := by funext a b; exact e a b
  rw [← this]; exact h
theorem exS_whl {cl : Nat → List D → Hs → R D} {t : E} {b : Ss} : exS cl (.whl t b) = whlL (fun e h => (evE cl t e h).bind fun x h => R.of x.tru h) (exB cl b) turns := by
  funext e h
  rw [exS]
mutual
theorem sndS {px : Px} {cl : Nat → List D → Hs → R D} {W : WX} {X : Cx} {c : Ck} (ok : Ok X px W cl c) (hp : PassesOwn (model X.prog X.w) X.A X.env X.xe) : ∀ (t : S) {s : Stmt}, ckS c t s = true → SS X px W s (exS cl t)
  | .set i a, s, h => by
    unfold ckS at h; try dsimp only at h
    split at h
    · rw [Bool.and_eq_true, Bool.and_eq_true] at h
      exact ss_setF ok (ok.nm h.1.1) h.2 h.1.2
    · cases h
  | .own i a, s, h => by
    unfold ckS at h; try dsimp only at h
    split at h
    · rw [Bool.and_eq_true, Bool.and_eq_true, Bool.and_eq_true] at h
      exact ss_ownW ok (ok.nm h.1.1.1) h.2 h.1.2 h.1.1.2
    · cases h
  | .ownd i b, s, h => by
    unfold ckS at h; try dsimp only at h
    split at h
    · exact ss_ownd ok.nd (ok.nm h) (noComp_sw rfl _ _ _)
    · cases h
  | .unp is a, s, h => by
    unfold ckS at h; try dsimp only at h
    split at h
    · rw [Bool.and_eq_true, Bool.and_eq_true, Bool.or_eq_true] at h
      obtain ⟨⟨h1, h2⟩, h3⟩ := h
      refine ss_unp ok.nd ok.calm (sndE a ok h3).se (ok.nms h1) ?_
      rcases h2 with h2 | h2
      · exact swp_noTup h2
      · exact swp_cell ok.sc h2
    · cases h
  | .par i oi j oj a b, s, h => by
    unfold ckS at h; try dsimp only at h
    split at h
    · rename_i x p y q kt pt e f k2 pt2 pos
      rw [Bool.and_eq_true, Bool.and_eq_true, Bool.and_eq_true, Bool.and_eq_true, Bool.and_eq_true, Bool.and_eq_true, decide_eq_true_eq] at h
      obtain ⟨⟨⟨⟨⟨h1, h2⟩, h3⟩, h5, h6⟩, h7⟩, h8⟩ := h
      have oth : ∀ (z : parB c x y p q e f = true) (y2 : (!oj || frF b) = true), (oi && oj) = false → SS X px W (.Assign [.Tuple [.Name x p, .Name y q] kt pt] (.Tuple [e, f] k2 pt2) pos) (exS cl (.par i oi j oj a b)) := fun h4 g8 h9 => by
        have hw := par_sw ok.sc (kt := kt) (k2 := k2) (pt := pt) (pt2 := pt2) h4
        unfold parB at h4
        simp only [Bool.and_eq_true, Bool.not_eq_true', decide_eq_true_eq] at h4
        obtain ⟨⟨⟨⟨⟨⟨⟨⟨k1, k2⟩, k3⟩, k4⟩, k5⟩, k6⟩, k7⟩, k8⟩, k9⟩ := h4
        cases oi <;> cases oj
        · exact ss_par ok.calm ok.nd (ok.nm h1) (ok.nm h2) h3 (ok.lc k1) (ok.lc k2) (sndE a ok h5).se (sndE b ok h6).se k6 k7 hw
        · exact ss_parU ok.calm ok.nd (ok.nm h1) (ok.nm h2) h3 (ok.lc k1) (ok.lc k2) (sndE a ok h5).se (sndF ok h6 (by simpa using g8)) k6 k7 hw
        · exact ss_parT ok.calm ok.nd (ok.nm h1) (ok.nm h2) h3 (ok.lc k1) (ok.lc k2) (sndF ok h5 (by simpa using h7)) (sndE b ok h6).se k6 k7 hw
        · cases h9
      cases z : (oi && oj) with
      | false =>
        rw [z, if_neg (by simp), Bool.and_eq_true] at h8
        exact oth h8.1 h8.2 z
      | true =>
        rw [Bool.and_eq_true] at z
        obtain ⟨rfl, rfl⟩ := z
        rw [Bool.and_self, if_pos rfl, Bool.and_eq_true, Bool.and_eq_true, Bool.and_eq_true] at h8
        obtain ⟨⟨⟨c1, c2⟩, c3⟩, c4⟩ := h8
        exact ss_own2 ok.calm ok.nd (ok.nm h1) (ok.nm h2) h3 (sndF ok h5 (by simpa using h7)) (sndL ok h6 c2) c3 c4 sws_tup (swp_cell ok.sc c1)
    · cases h
  | .pard i j tk a, s, h => by
    unfold ckS at h; try dsimp only at h
    split at h
    · simp only [Bool.and_eq_true, decide_eq_true_eq] at h
      obtain ⟨⟨⟨⟨⟨h1, h2⟩, h3⟩, h4⟩, h5⟩, h6⟩ := h
      have hw := par_sw ok.sc (kt := by assumption) (k2 := by assumption) (pt := by assumption) (pt2 := by assumption) h4
      unfold parB at h4
      simp only [Bool.and_eq_true, Bool.not_eq_true', decide_eq_true_eq] at h4
      obtain ⟨⟨⟨⟨⟨⟨⟨⟨k1, k2⟩, k3⟩, k4⟩, k5⟩, k6⟩, k7⟩, k8⟩, k9⟩ := h4
      exact ss_pard ok.calm ok.nd (ok.nm h1) (ok.nm h2) h3 (ok.lc k1) (ok.lc k2) (sndF ok h5 h6) k6 hw
    · cases h
  | .par3 i j l a, s, h => by
    unfold ckS at h; try dsimp only at h
    split at h
    · simp only [Bool.and_eq_true, decide_eq_true_eq] at h
      obtain ⟨⟨⟨⟨⟨⟨⟨h1, h2⟩, h3⟩, h4⟩, h5⟩, h6⟩, h7⟩, h8⟩ := h
      have hw := par3_sw ok.sc (kt := by assumption) (k2 := by assumption) (pt := by assumption) (pt2 := by assumption) (pa := by assumption) (pb := by assumption) h7
      unfold parB3 at h7
      simp only [Bool.and_eq_true, Bool.not_eq_true', decide_eq_true_eq] at h7
      obtain ⟨⟨⟨⟨⟨⟨⟨⟨⟨⟨⟨k1, k2⟩, k3⟩, k4⟩, k5⟩, k6⟩, k7⟩, k8⟩, k9⟩, k10⟩, k11⟩, k12⟩ := h7
      exact ss_par3 ok.calm ok.nd (ok.nm h1) (ok.nm h2) (ok.nm h3) h4 h5 h6 (ok.lc k1) (ok.lc k2) (ok.lc k3) (sndF (t := .lst .nil) ok (by unfold ckE; unfold ckEs; rfl) rfl) (sndF (t := .lst .nil) ok (by unfold ckE; unfold ckEs; rfl) rfl) (sndE a ok h8).se (fun _ _ => rfl) (fun _ _ => rfl) rfl rfl k10 hw
    · cases h
  | .retP a, s, h => by
    unfold ckS at h; try dsimp only at h
    split at h
    · exact ss_retP (sndE a ok h).se
    · cases h
  | .sd2 a b i d, s, h => by
    unfold ckS at h; try dsimp only at h
    split at h
    · simp only [Bool.and_eq_true] at h
      obtain ⟨⟨⟨h1, h2⟩, h3⟩, h4, h5, h6⟩ := h
      exact ss_sd2 ok.calm ok.nd (ok.nm h1) (sndE a ok h4).se (sndE b ok h5).se (sndE d ok h6).se h2 sws_tup (swp_noTup h3)
    · cases h
  | .sr a b d, s, h => by
    unfold ckS at h; try dsimp only at h
    split at h
    · simp only [Bool.and_eq_true] at h
      obtain ⟨h2, h4, h5, h6⟩ := h
      exact ss_sr (sndE a ok h4).se (sndE b ok h5).se (sndE d ok h6).se sws_sub swp_sub rfl (asg_sub h2)
    · cases h
  | .si i b d, s, h => by
    unfold ckS at h; try dsimp only at h
    split at h
    · simp only [Bool.and_eq_true] at h
      obtain ⟨⟨h1, h2⟩, h5, h6⟩ := h
      exact ss_si (ok.rd h1) (sndE b ok h5).se (sndE d ok h6).se sws_sub swp_sub rfl (asg_sub h2)
    · cases h
  | .sk i b d, s, h => by
    unfold ckS at h; try dsimp only at h
    split at h
    · simp only [Bool.and_eq_true] at h
      obtain ⟨⟨h1, h2⟩, h5, h6⟩ := h
      exact ss_sk (by have := ok.cz.un; omega) (ok.rd h1) (sndE b ok h5).se (sndE d ok h6).se sws_sub swp_sub rfl (asg_sub h2)
    · cases h
  | .app i a, s, h => by
    unfold ckS at h; try dsimp only at h
    split at h
    · simp only [Bool.and_eq_true, decide_eq_true_eq] at h
      obtain ⟨⟨⟨⟨rfl, h2⟩, h3⟩, h4⟩, h5⟩ := h
      exact ss_app (ok.rd h2) (sndE a ok h5).se h4 h3
    · cases h
  | .ext i a, s, h => by
    unfold ckS at h; try dsimp only at h
    split at h
    · simp only [Bool.and_eq_true, decide_eq_true_eq] at h
      obtain ⟨⟨⟨⟨rfl, h2⟩, h3⟩, h4⟩, h5⟩ := h
      exact ss_ext (ok.rd h2) (sndE a ok h5).se h4 h3
    · cases h
  | .pop i, s, h => by
    unfold ckS at h; try dsimp only at h
    split at h
    · simp only [Bool.and_eq_true, decide_eq_true_eq] at h
      obtain ⟨⟨rfl, h2⟩, h4⟩ := h
      exact ss_pop (ok.rd h2) h4
    · cases h
  | .popu i is, s, h => by
    unfold ckS at h; try dsimp only at h
    split at h
    · simp only [Bool.and_eq_true, decide_eq_true_eq] at h
      obtain ⟨⟨⟨⟨⟨rfl, h2⟩, h3⟩, h4⟩, h5⟩, h6⟩ := h
      exact ss_popu ok.nd ok.calm (ok.rd h2) (ok.nms h3) (sndE (.c (.int 0)) ok h4).se h6 h5 sws_tup (swp_noTup rfl)
    · cases h
  | .ex a, s, h => by
    unfold ckS at h; try dsimp only at h
    split at h
    · rw [Bool.and_eq_true] at h
      exact ss_ex (sndE a ok h.2).se (noComp_sw h.1 _ _ _)
    · cases h
  | .ite t a b, s, h => by
    unfold ckS at h; try dsimp only at h
    split at h
    · simp only [Bool.and_eq_true] at h
      obtain ⟨⟨h1, h2⟩, h3, h4⟩ := h
      exact ss_if ((sndE t ok h2).st h1) (sndB ok hp a h3) (sndB ok hp b h4)
    · cases h
  | .for it t b, s, h => by
    unfold ckS at h; try dsimp only at h
    split at h
    · simp only [Bool.and_eq_true] at h
      obtain ⟨⟨⟨h1, h2⟩, h3⟩, h4⟩ := h
      exact ss_for hp ok.calm (sndI it ok h1) (ok.tg h3) (sndB ok hp b h4) (noSet_fold h2 X.env)
    · cases h
  | .whl t b, s, h => by
    unfold ckS at h; try dsimp only at h
    split at h
    · simp only [Bool.and_eq_true] at h
      obtain ⟨⟨h1, h2⟩, h3⟩ := h
      rw [exS_whl]
      exact ss_while turns hp ((sndE t ok h2).st h1) (sndB ok hp b h3)
    · cases h
  | .ret a, s, h => by
    unfold ckS at h; try dsimp only at h
    split at h
    · exact ss_ret (sndE a ok h).se
    · cases h
  | .retN, s, h => by
    unfold ckS at h; try dsimp only at h
    split at h
    · exact ss_retN
    · cases h
  | .rai k a, s, h => by
    unfold ckS at h; try dsimp only at h
    split at h
    · simp only [Bool.and_eq_true, decide_eq_true_eq] at h
      obtain ⟨⟨⟨⟨rfl, h1⟩, h2⟩, h3⟩, h4⟩ := h
      obtain ⟨C, bmB, B, n1, n2, F, q1, q2, q3, q4, q5⟩ := ok.exc _ _ h1
      exact ss_raise ok.calm ok.tk F q1 q2 q3 q4 (ok.gl h3) (plain_of h4).1 q5 h2
    · cases h
  | .raiB a, s, h => by
    unfold ckS at h; try dsimp only at h
    split at h
    · simp only [Bool.and_eq_true, decide_eq_true_eq] at h
      obtain ⟨⟨⟨⟨rfl, h1⟩, h2⟩, h3⟩, h4⟩ := h
      obtain ⟨C, fI, fd, B, iC, tI, F1, hr, hb, hm, hC⟩ := ok.brk h1
      exact ss_raiB ok.calm ok.tk B iC tI F1 hr hb (ok.gl h2) hm (by decide) hC (sndE a ok h4).se h3
    · cases h
  | .ownf i f es, s, h => by
    unfold ckS at h; try dsimp only at h
    split at h
    · simp only [Bool.and_eq_true, decide_eq_true_eq] at h
      obtain ⟨h0, ⟨⟨⟨h1, h2⟩, h3⟩, h4⟩, h5⟩ := h
      obtain ⟨k, fa, fd, ps, G, hr, hm, hk, hb, hl⟩ := ok.defs _ _ _ h1
      exact ss_ownL ok.nd (ok.nm h0) (sel_clf G hr ok.cz.gd ok.tk (ok.gl h2) hm hk hb.full (sndEs es ok h5 h4) h4 (fun e h ds h' q => by rw [hl]; exact evEs_len es h5 e h ds h' q) (plain_of h3).1) (noComp_sw rfl _ _ _)
    · cases h
  | .frz i, s, h => by
    unfold ckS at h; cases h
  | .mv i j, s, h => by
    unfold ckS at h; try dsimp only at h
    split at h
    · simp only [Bool.and_eq_true, decide_eq_true_eq] at h
      obtain ⟨⟨h1, h2⟩, h3⟩ := h
      exact ss_mv ok.nd (ok.nm h1) (ok.rd h2) h3 (noComp_sw rfl _ _ _)
    · cases h
  | .nv, s, h => ⟨fun _ _ _ _ _ _ ⟨_, _, _, p⟩ => p.po.elim⟩
theorem sndB {px : Px} {cl : Nat → List D → Hs → R D} {W : WX} {X : Cx} {c : Ck} (ok : Ok X px W cl c) (hp : PassesOwn (model X.prog X.w) X.A X.env X.xe) : ∀ (t : Ss) {ss : List Stmt}, ckB c t ss = true → SB X px W ss (exB cl t)
  | .nil, ss, h => by
    unfold ckB at h; try dsimp only at h
    have : ss = [] := List.isEmpty_iff.mp h
    subst this
    exact sb_nil
  | .cons s r, ss, h => by
    by_cases hf : ∃ i, s = .frz i
    · obtain ⟨i, rfl⟩ := hf
      unfold ckB at h; try dsimp only at h
      exact sb_frz i (sndB ok hp r h)
    · have key : ∃ s' r', ss = s' :: r' ∧ ckS c s s' = true ∧ ckB c r r' = true := by
        unfold ckB at h; try dsimp only at h
        split at h
        · exact absurd ⟨_, rfl⟩ hf
        · split at h
          · rw [Bool.and_eq_true] at h
            exact ⟨_, _, rfl, h.1, h.2⟩
          · cases h
      obtain ⟨s', r', rfl, h1, h2⟩ := key
      exact sb_cons (sndS ok hp s h1) (sndB ok hp r h2)
end
end Tv
end

section
set_option autoImplicit false
set_option maxHeartbeats 1000000
/-! The whole program: each def keeps its promise. -/
namespace Tv
open PySem PySem.Spec PyProof.Rows L2
/-- one def: its row, its names, its tree -/
structure Ent where
  d : He.DefD
  N : List Str
  ps : List Str
  num : Nat
  fn : Fn
  sd : Bool
  brk : Bool
def scopeB (N P : List Str) (sc : Scope) : Bool := (match sc.kind with
  | .function => true
  | _ => false) && !sc.isCoroutine && !sc.isGenerator && decide N.Nodup && decide (N.take P.length = P) && (P.all fun x => match sc.names.lookup x with
    | some .local => true
    | some .cell => true
    | _ => false) && sc.names.all fun y => match y.2 with
    | .free => false
    | _ => true
theorem scope_of {N P : List Str} {sc : Scope} (h : scopeB N P sc = true) : FnScope N P sc := by
  unfold scopeB at h
  simp only [Bool.and_eq_true, Bool.not_eq_true', decide_eq_true_eq, List.all_eq_true] at h
  obtain ⟨⟨⟨⟨⟨⟨h1, h2⟩, h3⟩, h4⟩, h5⟩, h6⟩, h7⟩ := h
  refine ⟨?_, h2, h3, h4, h5, fun x hx => ?_, fun y hy e => ?_⟩
  · split at h1
    · assumption
    · cases h1
  · have q := h6 x hx
    split at q
    · exact .inl (by assumption)
    · exact .inr (by assumption)
    · cases q
  · have q := h7 y hy
    rw [e] at q
    cases q
def entB (defs : List (Str × Nat × Nat)) (glob : List (Str × Int)) (excs : List (Str × Nat)) (dfl : Str → Option Int) (e : Ent) : Bool := scopeB e.N e.ps e.d.scope && decide (e.N.length = e.fn.nn) && decide (e.ps.length = e.fn.np) && ckB ⟨e.N, e.d.scope, fun _ => true, defs, glob, excs, e.sd, dfl, e.brk⟩ e.fn.body e.d.body
/-- a lambda's name in the def x -/
def lamName (x : Str) : Str := (x ++ ".<locals>.") ++ "<lambda>"
/-- the entry of a name -/
def entOf (es : List Ent) (x : Str) : Option Ent := es.find? fun e => e.d.name == x
/-- the error with its year, as the world has it -/
def BrkG (K : PySem.W.Frag) (mg : Str → Option Value) (px : Px) : Prop := ∃ (C fI : Addr) (fd : FuncData), BrkC K mg C ∧ PySem.W.findIn K (.ref C) "__init__" = some (some (.ref fI)) ∧ PySem.W.typeIn K (.ref fI) = some (.type "function") ∧ (∀ P wo base, FnOk P wo K mg base CX0 1 fI fd [bSelf, bAt] (spBr C)) ∧ Binds K fd [bSelf, bAt] [] ∧ mg "Broken" = some (.ref C) ∧ px.ex 16 = C
/-- what the world gives -/
structure GlW (Pg : Nat → Option Fn) (K : PySem.W.Frag) (mg : Str → Option Value) (base : Heap) (px : Px) (es : List Ent) (defs : List (Str × Nat × Nat)) (glob : List (Str × Int)) (excs : List (Str × Nat)) (dfl : Str → Option Int) : Prop where
  ents : ∀ x i n, defs.lookup x = some (i, n) → ∃ e f fd, entOf es x = some e ∧ Pg i = some e.fn ∧ entB defs glob excs dfl e = true ∧ n = e.ps.length ∧ (∃ dvs, FunD K e.d.name e.d.qual e.d.params e.d.body e.d.scope dvs [] f fd) ∧ mg x = some (.ref f) ∧ BindX K fd e.ps (dfl x) ∧ (e.sd = true → (∀ P wo, SaidG P wo K mg base px) ∧ ∃ c T, LamX.TabB base mg c T ∧ fd.code = .ref c ∧ (T, lamName e.d.qual) ∈ px.T ∧ ∀ p ∈ px.T, p.1 = T → p.2 = lamName e.d.qual) ∧ (e.brk = true → BrkG K mg px)
  glob : ∀ x i, glob.lookup x = some i → ∃ t, mg x = some (.int i t)
  blt : ∀ x, bltNames.contains x = true → mg x = none
  exc : ∀ x i, excs.lookup x = some i → ∃ (C : Addr) (bmB : List Value) (B newId initId : String), ExcBaseFacts B newId initId bmB ∧ PySem.W.excIn K C bmB newId = true ∧ mg x = some (.ref C) ∧ PySem.W.keepIn K (.ref C) = true ∧ (∀ X : Cx, X.K = K → Raises X (.ref C)) ∧ px.ex i = C
  sm : ∃ o, base.get? sysModules = some o ∧ o.cls ≠ .type "list"
theorem CallG.imp {P : Program} {wo : World} {K : PySem.W.Frag} {mg : Str → Option Value} {base : Heap} {px : Px} {k : Nat} {f : Addr} {fd : FuncData} {ps : List Str} {F G : List D → Hs → R D} (h : CallG P wo K mg base px k f fd ps G) (e : ∀ ds h, F ds h = .bad ∨ F ds h = G ds h) : CallG P wo K mg base px k f fd ps F := by
  intro A outer s H ar us vs Q E hr gd e0 hb r hl sp
  refine h A outer s H ar us vs Q E hr gd e0 hb r hl ?_
  obtain ⟨w, hs, ds, h1, h2, h3, h4, h5⟩ := sp
  refine ⟨w, hs, ds, h1, h2, h3, h4, ?_⟩
  rcases e ds hs with q | q
  · rw [q] at h5; exact h5.elim
  · rw [← q]; exact h5
theorem callG_all {Pg : Nat → Option Fn} {P : Program} {wo : World} {K : PySem.W.Frag} {mg : Str → Option Value} {base : Heap} {px : Px} {es : List Ent} {defs : List (Str × Nat × Nat)} {glob : List (Str × Int)} {excs : List (Str × Nat)} {dfl : Str → Option Int} (G : GlW Pg K mg base px es defs glob excs dfl) :
    ∀ (k : Nat) (x : Str) (i n : Nat), defs.lookup x = some (i, n) → ∃ f fd ps, CallG P wo K mg base px k f fd ps (runF Pg k i) ∧ mg x = some (.ref f) ∧ PySem.W.keepIn K (.ref f) = true ∧ BindX K fd ps (dfl x) ∧ ps.length = n ∧ ∃ e, entOf es x = some e ∧ ps = e.ps ∧ ∃ dvs, FunD K e.d.name e.d.qual e.d.params e.d.body e.d.scope dvs [] f fd
  | 0, x, i, n, hx => by
    obtain ⟨e, f, fd, h1, hp, h2, h3, ⟨dvs, F⟩, h4, h5, h6, h7⟩ := G.ents x i n hx
    refine ⟨f, fd, e.ps, ?_, h4, F.kp, h5, h3.symm, e, h1, rfl, dvs, F⟩
    intro A outer s H ar us vs Q E hr gd e0 hb r hl sp
    obtain ⟨w, hs, ds, _, _, _, _, q⟩ := sp
    exact q.elim
  | k + 1, x, i, n, hx => by
    obtain ⟨e, f, fd, h1, hp, h2, h3, ⟨dvs, F⟩, h4, h5, h6, h7⟩ := G.ents x i n hx
    refine ⟨f, fd, e.ps, ?_, h4, F.kp, h5, h3.symm, e, h1, rfl, dvs, F⟩
    unfold entB at h2
    simp only [Bool.and_eq_true, decide_eq_true_eq] at h2
    obtain ⟨⟨⟨k1, k2⟩, k3⟩, k4⟩ := h2
    have S := scope_of k1
    have hpl : e.ps.length ≤ e.N.length := by
      have q := congrArg List.length S.pre
      rw [List.length_take] at q
      omega
    obtain ⟨oc, od, dV, kV, doc, pm, an, cdv, ct, osl, efd, lk, hcd, _, _⟩ := F.ex
    subst efd
    refine CallG.imp (G := fun ds h => (exB (runF Pg k) e.fn.body (startE e.N.length (ds.map D.hand)) h).out) ?_ fun ds h => ?_
    · refine callG_of lk hcd S hpl fun A outer s H E hr gd => ?_
      have ok : Ok (cxOf (L2.CX P wo) P wo K mg base e.N e.d.qual e.d.scope f cdv A outer s H E) px (fun cls d _ H => E cls d H) (runF Pg k) ⟨e.N, e.d.scope, fun _ => true, defs, glob, excs, e.sd, dfl, e.brk⟩ := by
        have hr' : Room (k + 3) (A.deeper (envOfC e.d.qual e.d.scope s.heap.objs.size f cdv)) := hr.deeper _
        refine ⟨rfl, S.nd, rfl, fun _ _ => rfl, rfl, ⟨?_, gd, G.sm⟩, takes_of rfl rfl rfl rfl, fun y j m hy => ?_, G.glob, G.blt, fun y j hy => ?_, fun hs => ?_, fun hs => ?_⟩
        · have := hr'.un
          show (A.deeper _).units + 200 < cLine
          omega
        · obtain ⟨f', fd', ps', c1, c2, c3, c4, c5, _⟩ := callG_all G k y j m hy
          exact ⟨k, f', fd', ps', c1, hr', c2, c3, c4, c5⟩
        · obtain ⟨C, bmB, B, n1, n2, q1, q2, q3, q4, q5, q6⟩ := G.exc y j hy
          exact ⟨C, bmB, B, n1, n2, q1, q2, q3, q4, q5 _ rfl, q6⟩
        · obtain ⟨G1, c, T, t1, t2, t3, t4⟩ := h6 hs
          refine ⟨k, G1 _ _, ⟨⟨c, T, t1, t2, t3, t4⟩, hr'.mono (by omega), fun e1 e2 => ⟨hr.hd, ?_, ?_⟩⟩, fun y j m hy => ?_⟩
          · have := hr.dp; show A.depth + 1 + 1 + 1 + 3 * (k + 3) + 5 < recursionLimit; omega
          · have := hr.un; show A.units + 3 + 3 + 3 + 16 * (k + 3) + 200 < cLine; omega
          · obtain ⟨f', fd', ps', c1, c2, c3, c4, c5, _⟩ := callG_all G k y j m hy
            exact ⟨f', fd', ps', c1, c2, c3, c4, c5⟩
        · obtain ⟨C, fI, fdI, b1, b2, b3, b4, b5, b6, b7⟩ := h7 hs
          exact ⟨C, fI, fdI, b1, b2, b3, b4 _ _ _, hr'.mono (by omega), b5, b6, b7⟩
      exact sndB ok (passes_of rfl) e.fn.body k4
    · show runF Pg (k + 1) i ds h = .bad ∨ _
      have e1 : runF Pg (k + 1) i ds h = if ds.length = e.fn.np then (exB (runF Pg k) e.fn.body (startE e.fn.nn (ds.map D.hand)) h).out else .bad := by
        rw [runF, hp]
      rw [e1, k2]
      split
      · exact .inr rfl
      · exact .inl rfl
end Tv
end

section
set_option autoImplicit false
set_option maxHeartbeats 1000000
/-! The law's own call. -/
namespace Tv
open PySem PySem.Spec PyProof.Rows L2
section
variable {P : Program} {wo : World} {K : PySem.W.Frag} {mg mb : Str → Option Value} {px : Px} {k : Nat} {fa a : Addr} {cs : List (Addr × Addr)} {fd : FuncData} {x : Str} {F : List D → Hs → R D} {s : Shared} {us : List Value} {is : List Int}
/-- not a list, not an empty table -/
def solid (o : Obj) : Bool := match o.data with
  | .seq .. => false
  | .fields vs => !vs.isEmpty
  | _ => true
/-- what is tracked at the law's call: the script, the tables -/
def hpEnd (K : PySem.W.Frag) (T : List Addr) (a : Addr) (us : List Value) (is : List Int) : Hp := fun b =>
  if b ∈ T then some (.tbl #[]) else if b = a ∧ K.lookup a = none then some (.frz ⟨.type "list", none, .seq us.toArray 0, #[]⟩ (.lst (is.map V.int))) else none
/-- the state ahead of the law's call -/
structure EndAt (K : PySem.W.Frag) (mg mb : Str → Option Value) (cs : List (Addr × Addr)) (a : Addr) (us : List Value) (is : List Int) (h : Heap) : Prop where
  kin : K.In h
  glo : h.Ns mainGlobals mg
  blt : h.Ns builtinsNs mb
  boot : ∀ x : Str, x ≠ "__name__" → mb x = bootBuiltins x
  lim : h.NoLimit
  tab : ∀ p ∈ cs, h.get? p.2 = some { cls := .none, data := .fields #[] }
  out : ∀ p ∈ cs, K.lookup p.2 = none
  hd : ∀ p ∈ cs, PySem.W.CodeHd h p.1 p.2
  bm : ∃ (m : Addr) (o : Obj), mg "__builtins__" = some (.ref m) ∧ m ≠ builtinsNs ∧ h.get? m = some o ∧ o.cls = .type "module" ∧ o.dict = some builtinsNs ∧ o.data = .plain
  scr : h.get? a = some { cls := .type "list", data := .seq us.toArray }
  iar : IntsAre us is
  len : is.length ≤ sizeLine
  sys : ∃ o, h.get? sysModules = some o ∧ solid o = true ∧ o.cls ≠ .type "list"
variable {h : Heap}
theorem EndAt.at_ (e : EndAt K mg mb cs a us is h) {b : Addr} {u : HO} (hb : hpEnd K (cs.map (·.2)) a us is b = some u) :
    (b ∈ cs.map (·.2) ∧ u = .tbl #[]) ∨ (b ∉ cs.map (·.2) ∧ b = a ∧ K.lookup a = none ∧ u = .frz ⟨.type "list", none, .seq us.toArray 0, #[]⟩ (.lst (is.map V.int))) := by
  unfold hpEnd at hb
  split at hb
  · rename_i h1
    exact .inl ⟨h1, (Option.some.inj hb).symm⟩
  · rename_i h1
    split at hb
    · rename_i h2
      exact .inr ⟨h1, h2.1, h2.2, (Option.some.inj hb).symm⟩
    · cases hb
theorem EndAt.tabs (e : EndAt K mg mb cs a us is h) {b : Addr} (hb : b ∈ cs.map (·.2)) : h.get? b = some { cls := .none, data := .fields #[] } := by
  obtain ⟨p, hp, rfl⟩ := List.mem_map.mp hb
  exact e.tab p hp
theorem EndAt.free (e : EndAt K mg mb cs a us is h) {b : Addr} {o : Obj} (hb : h.get? b = some o) (hs : solid o = true) : hpEnd K (cs.map (·.2)) a us is b = none := by
  cases q : hpEnd K (cs.map (·.2)) a us is b with
  | none => rfl
  | some u =>
    rcases e.at_ q with ⟨h1, _⟩ | ⟨_, rfl, _, _⟩
    · rw [e.tabs h1] at hb
      cases hb
      cases hs
    · rw [e.scr] at hb
      cases hb
      cases hs
theorem EndAt.stay (e : EndAt K mg mb cs a us is h) {b : Addr} {o : Obj} (hb : h.get? b = some o) (hs : solid o = true) : (hidT h (hpEnd K (cs.map (·.2)) a us is)).get? b = some o := hidT_get hb (e.free hb hs)
theorem EndAt.ns (e : EndAt K mg mb cs a us is h) {b : Addr} {m : Str → Option Value} (q : h.Ns b m) : (hidT h (hpEnd K (cs.map (·.2)) a us is)).Ns b m := by
  obtain ⟨o, es, ep, h1, h2, r⟩ := q
  exact ⟨o, es, ep, e.stay h1 (by unfold solid; rw [h2]), h2, r⟩
theorem EndAt.keep (e : EndAt K mg mb cs a us is h) : K.In (hidT h (hpEnd K (cs.map (·.2)) a us is)) := by
  intro b o hb
  refine hidT_get (e.kin b o hb) ?_
  cases q : hpEnd K (cs.map (·.2)) a us is b with
  | none => rfl
  | some u =>
    rcases e.at_ q with ⟨h1, _⟩ | ⟨_, rfl, h2, _⟩
    · obtain ⟨p, hp, rfl⟩ := List.mem_map.mp h1
      rw [e.out p hp] at hb
      cases hb
    · rw [h2] at hb
      cases hb
theorem EndAt.mod (e : EndAt K mg mb cs a us is h) : L2.Mod K mg (hidT h (hpEnd K (cs.map (·.2)) a us is)) := by
  obtain ⟨mc, h1, h2⟩ := e.lim
  exact ⟨e.keep, e.ns e.glo, ⟨mb, e.ns e.blt, e.boot⟩, mc, e.ns h1, h2⟩
theorem EndAt.hok (e : EndAt K mg mb cs a us is h) : HOk P wo (hpEnd K (cs.map (·.2)) a us is) h := by
  intro b u hb
  rcases e.at_ hb with ⟨h1, rfl⟩ | ⟨_, rfl, _, rfl⟩
  · exact e.tabs h1
  · exact ⟨e.scr, by rw [List.length_map]; exact e.len, us, 0, vals_ints e.iar, e.scr⟩
theorem EndAt.nota (e : EndAt K mg mb cs a us is h) : a ∉ cs.map (·.2) := fun z => by
  have q := e.tabs z
  rw [e.scr] at q
  cases q
/-- the law's call: the tables' names are in px, F is true of the script -/
theorem law_end (e : EndAt K mg mb cs a us is s.heap) (hg : s.gens = #[]) (hr : Room (k + 3) callerA) (hpx : ∀ p ∈ px.T, p.1 ∈ cs.map (·.2)) (hb : ∀ (s : Shared) (u : Value), BindsTo s fd ⟨[u], []⟩ [(x, u)])
    (G : ∀ base : Heap, K.In base → base.Ns mainGlobals mg → (∃ o, base.get? sysModules = some o ∧ o.cls ≠ .type "list") → (∀ p ∈ cs, LamX.TabB base mg p.1 p.2) → CallG P wo K mg base px k fa fd [x] F)
    (hF : ∃ h', F [.scr (is.map .int)] [] = .ok (.bl true) h') :
    codeAny (model P wo) callerA (.call (.ref fa) ⟨[.ref a], []⟩) (fun r s' => r = .ok (.ret (.bool true)) ∧ OldK s.heap s'.heap ∧ s'.os = s.os ∧ AllBare s'.gens) s := by
  have hT : ∀ p ∈ cs, hpEnd K (cs.map (·.2)) a us is p.2 = some (.tbl #[]) := fun p hp => if_pos (List.mem_map.mpr ⟨p, hp, rfl⟩)
  have hS : SqL K (hpEnd K (cs.map (·.2)) a us is) a (is.map V.int) := by
    cases hk : K.lookup a with
    | none => exact .inl (.inr ⟨_, (if_neg e.nota).trans (if_pos ⟨rfl, hk⟩)⟩)
    | some o =>
      have q := e.kin a o hk
      rw [e.scr] at q
      cases q
      exact .inr ⟨_, us.toArray, 0, hk, rfl, rfl, rfl, by rw [List.size_toArray, e.iar.length]; exact e.len, by simpa using vals_ints e.iar⟩
  have env : Env0 P wo K mg (hidT s.heap (hpEnd K (cs.map (·.2)) a us is)) callerA [] s (hpEnd K (cs.map (·.2)) a us is) :=
    ⟨rfl, e.mod, fun b o q => of_hidT q, Nat.le_of_eq (hidT_size _ _), trivial, (fun b q => by cases q), e.hok, .of_eq hg⟩
  have hd : ∀ p ∈ cs, PySem.W.CodeHd (hidT s.heap (hpEnd K (cs.map (·.2)) a us is)) p.1 p.2 := fun p hp => by
    obtain ⟨o, vs, file, tf, flags, tg, inF, text, tt, q1, q2, q3, q4, r⟩ := e.hd p hp
    refine ⟨o, vs, file, tf, flags, tg, inF, text, tt, e.stay q1 ?_, q2, q3, q4, r⟩
    unfold solid
    rw [q3]
    cases hv : vs.isEmpty with
    | false =>
      show (!vs.isEmpty) = true
      rw [hv]; rfl
    | true =>
      rw [Array.isEmpty_iff.mp hv] at q4
      simp at q4
  have sys : ∃ o, (hidT s.heap (hpEnd K (cs.map (·.2)) a us is)).get? sysModules = some o ∧ o.cls ≠ .type "list" := by
    obtain ⟨o, q1, q2, q3⟩ := e.sys
    exact ⟨o, e.stay q1 q2, q3⟩
  have vs : ∀ {is : List Int} {w : Wd} {H : Hp}, VRs K w H (is.map D.int) (is.map V.int) := fun {is w H} => by
    induction is with
    | nil => exact .nil
    | cons i is ih => exact .cons (.int i) ih
  obtain ⟨hs, hF⟩ := hF
  have tb : ∀ p ∈ cs, LamX.TabB (hidT s.heap (hpEnd K (cs.map (·.2)) a us is)) mg p.1 p.2 := fun p hp => by
    obtain ⟨m, o, b1, b2, b3, b4, b5, b6⟩ := e.bm
    refine ⟨hd p hp, ⟨m, o, b1, b2, fun z => ?_, fun z => ?_, e.stay b3 (by unfold solid; rw [b6]), b4, b5, b6⟩, fun z => ?_⟩
    · obtain ⟨o2, es, ep, q1, q2, _⟩ := e.glo
      rw [z, q1] at b3; cases b3
      rw [q2] at b6; cases b6
    · rw [z, e.tab p hp] at b3; cases b3; cases b6
    · obtain ⟨o2, es, ep, q1, q2, _⟩ := e.glo
      rw [z, e.tab p hp] at q1; cases q1; cases q2
  have run := G _ e.keep (e.ns e.glo) sys tb callerA [] s (hpEnd K (cs.map (·.2)) a us is) ⟨[.ref a], []⟩ [.ref a] [.ref a] (fun v _ => v = .bl true) (fun _ _ _ => False) hr rfl env (hb s (.ref a)) (.cons rfl .nil) rfl
    ⟨⟨[], [], fun _ => False⟩, [], [.scr (is.map .int)], rfl, ⟨rfl, .nil, (fun i b o q => by simp at q), (fun b q => by cases q), fun b q => False.elim q⟩, fun p hp => ?_, .cons ?_ .nil, ?_⟩
  · refine codeAny_mono run fun r s' hq => ?_
    cases r with
    | error u =>
      obtain ⟨_, _, _, _, _, _, _, _, _, _, _, _, z⟩ := hq
      exact False.elim z
    | ok fl =>
      cases fl with
      | next => exact False.elim hq
      | brk => exact False.elim hq
      | cont => exact False.elim hq
      | ret u =>
        obtain ⟨v, H', os, bare, un, hok', rv, rfl⟩ := hq
        cases rv
        have same : ∀ b o, b ∉ cs.map (·.2) → s.heap.get? b = some o → s'.heap.get? b = some o := fun b o nb q => by
          cases z : hpEnd K (cs.map (·.2)) a us is b with
          | none => exact un.keep b o q z (by intro y; cases y) (by intro y; cases y)
          | some u =>
            rcases e.at_ z with ⟨h1, _⟩ | ⟨_, rfl, _, rfl⟩
            · exact absurd h1 nb
            · obtain ⟨k1, _⟩ := e.hok (P := P) (wo := wo) _ _ z
              obtain ⟨k2, _⟩ := hok' _ _ (un.frzs _ _ _ z)
              rw [q] at k1
              cases k1
              exact k2
        have more : ∀ p ∈ cs, ∃ m : Array Value, s'.heap.get? p.2 = some { cls := .none, data := .fields m } := fun p hp => by
          obtain ⟨m, z⟩ := un.tbls p.2 #[] (hT p hp)
          exact ⟨_, hok' _ _ z⟩
        refine ⟨rfl, ⟨fun b o q => ?_, fun b o q => ?_⟩, os, bare⟩
        · by_cases hb : b ∈ cs.map (·.2)
          · obtain ⟨p, hp, rfl⟩ := List.mem_map.mp hb
            obtain ⟨m, hm⟩ := more p hp
            rw [e.tab p hp] at q
            cases q
            exact .inr (.inl ⟨((e.hd p hp).tab (e.tab p hp)).isCodeTable, rfl, #[], m, rfl, by rw [Array.empty_append]; exact hm⟩)
          · exact .inl (same b o hb q)
        · by_cases hb : b ∈ cs.map (·.2)
          · obtain ⟨p, hp, rfl⟩ := List.mem_map.mp hb
            obtain ⟨m, hm⟩ := more p hp
            exact ⟨_, hm⟩
          · exact ⟨o, same b o hb q⟩
  · refine LamX.TabS.nil ?_
    obtain ⟨p', hp', eq⟩ := List.mem_map.mp (hpx p hp)
    rw [← eq]
    exact hT p' hp'
  · rcases hS with hS | hS
    · exact .scr (by simp) (by simp) hS vs
    · exact .scrK hS vs
  · show PostF K px _ _ _ _ (F [.scr (is.map .int)] [])
    rw [hF]
    intro v w' H' _ _ _ y
    cases y
    rfl
end
end Tv
end

section
set_option autoImplicit false
set_option maxHeartbeats 1000000
/-! From the program's top to the law. -/
namespace Tv
open PySem PySem.Spec PyProof.Rows L2
/-- what sys.modules is: no list -/
def sysB (g : Addr → Option Obj) : Bool := match g sysModules with
  | some o => solid o && !(o.cls == .type "list")
  | none => false
theorem sysB_ok {h : Heap} (q : sysB h.get? = true) : ∃ o, h.get? sysModules = some o ∧ solid o = true ∧ o.cls ≠ .type "list" := by
  unfold sysB at q
  split at q
  · rename_i o ho
    rw [Bool.and_eq_true, Bool.not_eq_true'] at q
    refine ⟨o, ho, q.1, fun z => ?_⟩
    rw [z] at q
    cases q.2
  · cases q
/-- where the top is looked at -/
def asV (g : Addr → Option Obj) (n : Nat) : List Addr := cStatics :: He.asD g n
abbrev AlV : Type := He.AlD × Bool
def obsV (n : Nat) (fa : List He.Fa) (fn : List He.DefD) (tf : List He.Defn) (ex : PySem.W.Frag → Bool) (g : Addr → Option Obj) : AlV :=
  let K := He.frT g (asV g n)
  (He.obsD fa fn K, He.tabsB g tf K && sysB g && ex K)
/-- what the top left -/
structure SaysV (fa : List He.Fa) (fn : List He.DefD) (tf : List He.Defn) (ex : PySem.W.Frag → Bool) (h : Heap) (K : PySem.W.Frag) : Prop where
  kin : K.In h
  d : He.SaysD fa fn K
  hd : ∀ p ∈ tf, PySem.W.codeHdIn K (He.cT K p).1 (He.cT K p).2 = true
  out : ∀ p ∈ tf, K.lookup (He.cT K p).2 = none
  tab : ∀ p ∈ tf, h.get? (He.cT K p).2 = some { cls := .none, data := .fields #[] }
  sys : ∃ o, h.get? sysModules = some o ∧ solid o = true ∧ o.cls ≠ .type "list"
  ex : ex K = true
theorem saysV_of {ex : PySem.W.Frag → Bool} {n : Nat} {fa : List He.Fa} {fn : List He.DefD} {tf : List He.Defn} {h : Heap} (e : obsV n fa fn tf ex h.get? = (He.valD fn, true)) : SaysV fa fn tf ex h (He.frT h.get? (asV h.get? n)) := by
  have e1 := congrArg Prod.fst e
  have e2 : (He.tabsB h.get? tf (He.frT h.get? (asV h.get? n)) && sysB h.get? && ex (He.frT h.get? (asV h.get? n))) = true := congrArg Prod.snd e
  rw [Bool.and_eq_true] at e2
  obtain ⟨e2, e3⟩ := e2
  rw [Bool.and_eq_true] at e2
  have t : ∀ p ∈ tf, PySem.W.codeHdIn (He.frT h.get? (asV h.get? n)) (He.cT (He.frT h.get? (asV h.get? n)) p).1 (He.cT (He.frT h.get? (asV h.get? n)) p).2 = true ∧
      ∃ o, h.get? (He.cT (He.frT h.get? (asV h.get? n)) p).2 = some o ∧ He.emptyTab o = true := by
    intro p hp
    have q := e2.1
    unfold He.tabsB at q
    rw [List.all_eq_true] at q
    have r := q p hp
    rw [Bool.and_eq_true] at r
    refine ⟨r.1, ?_⟩
    have r2 := r.2
    split at r2
    · rename_i o ho
      exact ⟨o, ho, r2⟩
    · cases r2
  refine ⟨He.frT_in, e1, fun p hp => (t p hp).1, fun p hp => ?_, fun p hp => ?_, sysB_ok e2.2, e3⟩
  · obtain ⟨_, o, q, z⟩ := t p hp
    exact He.frT_none q z
  · obtain ⟨_, o, q, z⟩ := t p hp
    rw [q]
    exact congrArg some (He.emptyTab_eq z)
def hookV (n : Nat) (fa : List He.Fa) (fn : List He.DefD) (tf : List He.Defn) (ex : PySem.W.Frag → Bool) : PySem.W.Hook where
  α := AlV
  obs := fun s => obsV n fa fn tf ex s.heap.get?
  val := fun _ => (He.valD fn, true)
  says := fun _ h => ∃ K : PySem.W.Frag, SaysV fa fn tf ex h K
  of := fun _ _ e => ⟨_, saysV_of e⟩
  keeps := fun _ _ _ ⟨K, c⟩ k => ⟨K, PySem.W.Frag.In.keeps c.kin k, c.d, c.hd, c.out, fun p hp => k _ _ (c.tab p hp), let ⟨o, h1, h2⟩ := c.sys; ⟨o, k _ _ h1, h2⟩, c.ex⟩
def obV (n : Nat) (fa : List He.Fa) (fn : List He.DefD) (tf : List He.Defn) (ex : PySem.W.Frag → Bool) (s : PySem.W.SharedT) : AlV := obsV n fa fn tf ex (HandSHeadRun.getT s)
theorem obV_eq {ex : PySem.W.Frag → Bool} {n : Nat} {fa : List He.Fa} {fn : List He.DefD} {tf : List He.Defn} (s : PySem.W.SharedT) : obV n fa fn tf ex s = (hookV n fa fn tf ex).obs s.abs := by
  have e : HandSHeadRun.getT s = s.abs.heap.get? := funext (HandSHeadRun.getT_eq s)
  unfold obV
  rw [e]
  rfl
/-- the law holds when its tree says so of every script -/
theorem walk_V {ex : PySem.W.Frag → Bool} {l : PySem.W.OpenLaw} {n k : Nat} {q : Program} {loose : List Str} {XP : (Str → Option Value) → Heap → Prop} {d : DefRec} {x : Str} {m : Nat} {fa : List He.Fa} {fn : List He.DefD} {tf : List He.Defn} {F : List D → Hs → R D}
    (hn : l.most = some n) (hn2 : n ≤ sizeLine) (hdf : d.params.defaults = []) (hr : Room (k + 3) callerA)
    (G : ∀ (w : World) (mg : Str → Option Value) (f : Addr) (h : Heap) (K : PySem.W.Frag), SaysV fa fn tf ex h K → h.Ns mainGlobals mg → mg d.name = some (.ref f) → ∃ (px : Px) (fd : FuncData), (∀ p ∈ px.T, ∃ t ∈ tf, p.1 = (He.cT K t).2) ∧ (∀ (s : Shared) (u : Value), BindsTo s fd ⟨[u], []⟩ [(x, u)]) ∧
      ∀ base : Heap, K.In base → base.Ns mainGlobals mg → (∃ o, base.get? sysModules = some o ∧ o.cls ≠ .type "list") → (∀ p ∈ tf, LamX.TabB base mg (He.cT K p).1 (He.cT K p).2) → CallG l.prog w K mg base px k f fd [x] F)
    (hF : ∀ is : List Int, is.length ≤ n → (∀ z ∈ is, Builtin.Int.intBits z ≤ 1048576) → ∃ h', F [.scr (is.map .int)] [] = .ok (.bl true) h') :
    PySem.W.WalkO q loose XP (hookV m fa fn tf ex).says l.row.toRowW d [] (fun f vs => PySem.call f vs) := by
  refine Att.attach_callB hn hdf fun w s₀ s mg mb f o pm cd doc a vs is gr Y ho hd hcd hmg hobj hin hlen hbits hg => ?_
  obtain ⟨K, c⟩ := Y
  obtain ⟨px, fd, h1, h2, h3⟩ := G w mg f _ K c gr.T.g hmg
  have memc : ∀ {p : Addr × Addr}, p ∈ tf.map (He.cT K) → ∃ t ∈ tf, p = He.cT K t := fun {p} hp => by
    obtain ⟨t, ht, e⟩ := List.mem_map.mp hp
    exact ⟨t, ht, e.symm⟩
  have e : EndAt K mg mb (tf.map (He.cT K)) a vs is s.heap := by
    refine ⟨c.kin, gr.T.g, gr.T.b, gr.T.builtins, gr.T.nolimit, fun p hp => ?_, fun p hp => ?_, fun p hp => ?_, gr.T.bmain, hobj, hin, Nat.le_trans hlen hn2, c.sys⟩
    · obtain ⟨t, ht, rfl⟩ := memc hp
      exact c.tab t ht
    · obtain ⟨t, ht, rfl⟩ := memc hp
      exact c.out t ht
    · obtain ⟨t, ht, rfl⟩ := memc hp
      exact PySem.W.codeHd_of_K c.kin (c.hd t ht)
  refine law_end e hg hr (fun p hp => ?_) h2 (fun base b1 b2 b3 b4 => h3 base b1 b2 b3 fun p hp => b4 _ (List.mem_map.mpr ⟨p, hp, rfl⟩)) (hF is hlen hbits)
  obtain ⟨t, ht, z⟩ := h1 p hp
  rw [z]
  exact List.mem_map.mpr ⟨He.cT K t, List.mem_map.mpr ⟨t, ht, rfl⟩, rfl⟩
/-! ### the program's facts, as the walk wants them -/
/-- what is looked at behind the top -/
def faOf (es : List Ent) (glob : List (Str × Int)) (excs : List (Str × Nat)) : List He.Fa :=
  (es.map fun e => .glo e.d.name) ++ (glob.map fun p => .int p.1 p.2) ++ (bltNames.map .free) ++ (excs.flatMap fun p => [.glo p.1, .exc p.1])
def defsOf (es : List Ent) : List (Str × Nat × Nat) := es.map fun e => (e.d.name, e.num, e.ps.length)
theorem defsOf_at : ∀ {es : List Ent} {x : Str} {i n : Nat}, (defsOf es).lookup x = some (i, n) → ∃ e, entOf es x = some e ∧ e ∈ es ∧ e.num = i ∧ e.ps.length = n ∧ e.d.name = x
  | [], _, _, _, h => by cases h
  | e :: es, x, i, n, h => by
    unfold defsOf at h
    rw [List.map_cons, List.lookup_cons] at h
    unfold entOf
    rw [List.find?_cons]
    by_cases q : e.d.name = x
    · have q1 : (x == e.d.name) = true := by rw [beq_iff_eq]; exact q.symm
      have q2 : (e.d.name == x) = true := by rw [beq_iff_eq]; exact q
      rw [q1] at h
      rw [q2]
      cases h
      exact ⟨e, rfl, List.mem_cons_self, rfl, rfl, q⟩
    · have q1 : (x == e.d.name) = false := by rw [beq_eq_false_iff_ne]; exact fun z => q z.symm
      have q2 : (e.d.name == x) = false := by rw [beq_eq_false_iff_ne]; exact q
      rw [q1] at h
      rw [q2]
      obtain ⟨e', a, b, c, d, f⟩ := defsOf_at (es := es) h
      exact ⟨e', a, List.mem_cons_of_mem _ b, c, d, f⟩
def pxOf (K : PySem.W.Frag) (excs : List (Str × Nat)) (T : List (Addr × Str)) : Px := ⟨T, fun i => match excs.find? fun p => p.2 == i with
  | some p => He.ga K p.1
  | none => He.ga K "Broken"⟩
theorem nodup_map_inj {α β : Type} {f : α → β} : ∀ {l : List α}, (l.map f).Nodup → ∀ {a b : α}, a ∈ l → b ∈ l → f a = f b → a = b
  | [], _, _, _, h, _, _ => by cases h
  | x :: l, nd, a, b, ha, hb, e => by
    rw [List.map_cons, List.nodup_cons] at nd
    rcases List.mem_cons.mp ha with rfl | ha
    · rcases List.mem_cons.mp hb with rfl | hb
      · rfl
      · exact absurd (List.mem_map.mpr ⟨b, hb, e.symm⟩) nd.1
    · rcases List.mem_cons.mp hb with hb | hb
      · exact absurd (List.mem_map.mpr ⟨a, ha, by rw [e, hb]⟩) nd.1
      · exact nodup_map_inj nd.2 ha hb e
theorem lookup_mem' {α : Type} {x : Str} {v : α} : ∀ {l : List (Str × α)}, l.lookup x = some v → (x, v) ∈ l := fun {l} h => PySem.mem_of_lookup h
/-- a def's names bind -/
def BindN (e : Ent) : Prop := ∀ (kV doc pm : Value) (an : Option Addr) (cdv ct : Value) (us : List Value), us.length = e.ps.length → bindArgs (PySem.W.fnOf e.d.name e.d.qual e.d.params e.d.body e.d.scope .none kV doc pm an cdv ct) ⟨us, []⟩ = pure (e.ps.zip us)
def BindF (e : Ent) : Prop := ∀ (T : Addr) (kV doc pm : Value) (an : Option Addr) (cdv ct : Value) (us its : List Value), us.length = e.ps.length → its.length = 1 → ∃ k, bindArgs (PySem.W.fnOf e.d.name e.d.qual e.d.params e.d.body e.d.scope (.ref T) kV doc pm an cdv ct) ⟨us, []⟩ = seqItems? (.ref T) >>= k ∧ k (some its.toArray) = pure (e.ps.zip (us ++ its.drop 1))
def BindS (e : Ent) : Prop := ∀ (T : Addr) (kV doc pm : Value) (an : Option Addr) (cdv ct : Value) (us its : List Value), us.length = e.ps.length - 1 → its.length = 1 → ∃ k, bindArgs (PySem.W.fnOf e.d.name e.d.qual e.d.params e.d.body e.d.scope (.ref T) kV doc pm an cdv ct) ⟨us, []⟩ = seqItems? (.ref T) >>= k ∧ k (some its.toArray) = pure (e.ps.zip (us ++ its.drop 0))
/-- what stands for the last name where it is left out -/
def dlE (e : Ent) : Option Int := match e.d.dfl with
  | [.int i] => some i
  | _ => none
def BindE (e : Ent) : Prop := (dlE e = none → BindN e) ∧ (dlE e ≠ none → BindF e ∧ BindS e ∧ 1 ≤ e.ps.length)
def dflOf (es : List Ent) (x : Str) : Option Int := (entOf es x).bind dlE
/-- a plain def of the top -/
def plainE (e : Ent) : Bool := decide (e.d.at_ = (e.d.name, none)) && (e.d.dfl.isEmpty || (dlE e).isSome) && e.d.kwd.isEmpty
/-! ### what is caught and told -/
structure SdI where
  on : Bool
  dS : He.DefD
  dW : He.DefD
  dB : He.DefD
def nsOf (excs : List (Str × Nat)) : List (Str × Nat) := excs ++ [(("Broken" : Str), 16)]
def SdI.ds (x : SdI) : List He.DefD := if x.on then [x.dS, x.dW, x.dB] else []
def SdI.fa (x : SdI) : List He.Fa := if x.on then [.glo "TurnError", .glo "_law_said", .glo "_law_word", .glo "Broken", .free "ValueError"] else []
def isxB (K : PySem.W.Frag) (D : Addr) : Bool :=
  decide (PySem.W.findIn K (.ref D) "__getattribute__" = some (some (.builtin "BaseException.__getattribute__"))) && decide (PySem.W.findIn K (.ref D) "__getattr__" = some none) && decide (PySem.W.subIn K (.ref D) (.type "BaseException") = some true) && PySem.W.hasDictIn K D &&
  decide (PySem.W.findIn K (.ref D) "__class__" = some (some (.builtin "object.__class__"))) && decide (PySem.W.specialIn K (.builtin "object.__class__") "__get__" = some (some (.builtin "getset_descriptor.__get__"))) && decide (PySem.W.takesIn K (.builtin "object.__class__") = some true) && decide (PySem.W.mroIn K D (.type "object") = some true)
theorem isxB_ok {K : PySem.W.Frag} {D : Addr} (h : isxB K D = true) : ExcC K D := by
  unfold isxB at h
  simp only [Bool.and_eq_true, decide_eq_true_eq] at h
  obtain ⟨⟨⟨⟨⟨⟨⟨h1, h2⟩, h3⟩, h4⟩, h5⟩, h6⟩, h7⟩, h8⟩ := h
  exact ⟨h1, h2, h3, h4, h5, h6, h7, h8⟩
/-- an own error class over ValueError with a making of its own -/
def oexB (K : PySem.W.Frag) (C : Addr) : Bool := (match K.lookup C with
  | some ⟨.type "type", _, .cls cd, sl⟩ => (match cd.mro, sl.toList with
    | .ref C' :: bm, [_, _, _, _, some (.builtin n), _] => C' == C && n == "ValueError.__new__" && !cd.hasDel && cd.hasDict && PySem.HandSPX.refsVE bm
    | _, _ => false)
  | _ => false) && decide (PySem.W.findIn K (.ref C) "__setattr__" = some (some (.builtin "object.__setattr__"))) && decide (PySem.W.subIn K (.ref C) (.type "BaseException") = some true) && decide (PySem.W.typeIn K (.ref C) = some (.type "type")) && PySem.W.keepIn K (.ref C)
theorem oexB_ok {K : PySem.W.Frag} {C : Addr} (h : oexB K C = true) : OexC K C := by
  unfold oexB at h
  simp only [Bool.and_eq_true, decide_eq_true_eq] at h
  obtain ⟨⟨⟨⟨h1, h2⟩, h3⟩, h4⟩, h5⟩ := h
  refine ⟨?_, h2, h3, h4, h5⟩
  split at h1
  · rename_i dd cd sl ho
    split at h1
    · rename_i C' bm k0 k1 k2 k3 n k5 hm hs
      simp only [Bool.and_eq_true, beq_iff_eq, Bool.not_eq_true'] at h1
      obtain ⟨⟨⟨⟨rfl, rfl⟩, hdel⟩, hdc⟩, hbm⟩ := h1
      obtain ⟨nm, bs, mro, ns, qn, hd, sn, sub, ab, col, del⟩ := cd
      dsimp only at hm hdel hdc
      subst hm hdel hdc
      have hsl : sl = #[k0, k1, k2, k3, some (.builtin "ValueError.__new__"), k5] := by
        obtain ⟨l⟩ := sl
        simp only at hs
        rw [hs]
      subst hsl
      exact ⟨nm, qn, ns, bs, bm, sn, sub, ab, col, dd, k0, k1, k2, k3, k5, ho, hbm⟩
    · cases h1
  · cases h1
/-- what is looked at of the error with its year -/
def brkKB (excs : List (Str × Nat)) (K : PySem.W.Frag) : Bool :=
  oexB K (He.ga K "Broken") && decide (PySem.W.findIn K (.ref (He.ga K "Broken")) "at" = some none) && xfB K (He.ga K "Broken") &&
  decide (PySem.W.specialIn K (.ref (He.ga K "TurnError")) "__getattribute__" = some (some (.builtin "type.__getattribute__"))) && decide (PySem.W.typeIn K (.ref (He.ga K "TurnError")) = some (.type "type")) && PySem.W.readsIn K (He.ga K "TurnError") (.type "type") &&
  (match PySem.W.findCls K (.ref (He.ga K "TurnError")) (.type "type") "__init__" with
    | some (.val (.builtin b)) => decide (b = "ValueError.__init__")
    | _ => false) &&
  decide (PySem.W.findIn K (.ref (He.ga K "Broken")) "__init__" = some (some (.ref (He.fAd K (("Broken" : Str), some ("__init__" : Str)))))) && decide (PySem.W.typeIn K (.ref (He.fAd K (("Broken" : Str), some ("__init__" : Str)))) = some (.type "function")) &&
  isxB K (He.ga K "Broken") && ((nsOf excs).all fun q => decide (PySem.W.kitOne K (.ref (He.ga K "Broken")) (.ref (He.ga K q.1)) = some (16 == q.2))) && decide (PySem.W.kitOne K (.ref (He.ga K "Broken")) (.type "ValueError") = some true) && decide (PySem.W.exmOne K (.ref (He.ga K "Broken")) (.ref (He.ga K "TurnError")) = some true)
/-- what is looked at of the classes -/
def exB_ (x : SdI) (excs : List (Str × Nat)) (tf : List He.Defn) (K : PySem.W.Frag) : Bool := (!x.on || (decide ((tf.map fun t => (He.cT K t).2).Nodup) && excs.all fun p => isxB K (He.ga K p.1) &&
  ((nsOf excs).all fun q => decide (PySem.W.kitOne K (.ref (He.ga K p.1)) (.ref (He.ga K q.1)) = some (p.2 == q.2))) && decide (PySem.W.kitOne K (.ref (He.ga K p.1)) (.type "ValueError") = some true) && decide (PySem.W.exmOne K (.ref (He.ga K p.1)) (.ref (He.ga K "TurnError")) = some true))) && (!x.on || brkKB excs K)
def plainD (d : He.DefD) (nm : Str) : Bool := decide (d.at_ = (nm, none)) && decide (d.name = nm) && decide (d.qual = nm) && d.dfl.isEmpty && d.kwd.isEmpty
/-- the making of the error with its year -/
def brkDB (x : SdI) (es : List Ent) (excs : List (Str × Nat)) : Bool := (!x.on || (decide (x.dB.at_ = (("Broken" : Str), some ("__init__" : Str))) && decide (x.dB.name = "__init__") && x.dB.dfl.isEmpty && x.dB.kwd.isEmpty && scopeB [bSelf, bAt] [bSelf, bAt] x.dB.scope && brkB x.dB.body && brkSB x.dB.scope &&
  wordYB x.dW.body && decide (x.dW.scope.names.lookup ("repr" : Str) = some NameKind.globalImplicit) && !(excs.any fun p => p.2 == 16))) && es.all fun e => !e.brk || x.on
/-- the two defs, the entries that hand a lambda over -/
def sdQa (x : SdI) (es : List Ent) (excs : List (Str × Nat)) (tf : List He.Defn) : Bool := (!x.on || (plainD x.dS "_law_said" && plainD x.dW "_law_word" && scopeB [wC, wE] [wC] x.dS.scope && saidB x.dS.body && saidSB x.dS.scope && scopeB [wE, wK, wW] [wE] x.dW.scope && wordB (nsOf excs) x.dW.body && wordSB (nsOf excs) x.dW.scope &&
  (List.range 15).all fun i => excs.any fun p => p.2 == i + 1)) && es.all fun e => !e.sd || (x.on && decide (e.d.qual = e.d.name) && tf.any fun t => decide (t = (e.d.name, none)))
def sdB (x : SdI) (es : List Ent) (excs : List (Str × Nat)) (tf : List He.Defn) : Bool := sdQa x es excs tf && brkDB x es excs
def BindD (d : He.DefD) (ps : List Str) : Prop := ∀ (kV doc pm : Value) (an : Option Addr) (cdv ct : Value) (us : List Value), us.length = ps.length → bindArgs (PySem.W.fnOf d.name d.qual d.params d.body d.scope .none kV doc pm an cdv ct) ⟨us, []⟩ = pure (ps.zip us)
theorem plainD_fun {K : PySem.W.Frag} {fa : List He.Fa} {fn : List He.DefD} {d : He.DefD} {nm : Str} (c : He.SaysD fa fn K) (hm : d ∈ fn) (hp : plainD d nm = true) : d.name = nm ∧ d.qual = nm ∧ ∃ fd, FunD K d.name d.qual d.params d.body d.scope [] [] (He.ga K nm) fd := by
  unfold plainD at hp
  simp only [Bool.and_eq_true, decide_eq_true_eq] at hp
  obtain ⟨⟨⟨⟨h1, h2⟩, h3⟩, h4⟩, h5⟩ := hp
  obtain ⟨fd, Fd⟩ := c.defs (d := d) hm
  have d1 : d.dvs K = [] := by unfold He.DefD.dvs; rw [List.isEmpty_iff.mp h4]; rfl
  have d2 : d.kws K = [] := by unfold He.DefD.kws; rw [List.isEmpty_iff.mp h5]; rfl
  rw [d1, d2, h1] at Fd
  exact ⟨h2, h3, fd, Fd⟩
theorem ex16 {K : PySem.W.Frag} {excs : List (Str × Nat)} {T : List (Addr × Str)} (h : (!(excs.any fun p => p.2 == 16)) = true) : (pxOf K excs T).ex 16 = He.ga K "Broken" := by
  show (match excs.find? fun p => p.2 == 16 with
    | some p => He.ga K p.1
    | none => He.ga K "Broken") = _
  have e : (excs.find? fun p => p.2 == 16) = none := by
    rw [List.find?_eq_none]
    rw [Bool.not_eq_true', List.any_eq_false] at h
    exact fun p hp => by simpa using h p hp
  rw [e]
theorem brkG_of {K : PySem.W.Frag} {mg : Str → Option Value} {base : Heap} {es : List Ent} {glob : List (Str × Int)} {excs : List (Str × Nat)} {T : List (Addr × Str)} {tf : List He.Defn} {x : SdI} (kin : K.In base) (g : base.Ns mainGlobals mg) (c : He.SaysD (faOf es glob excs ++ x.fa) (es.map (·.d) ++ x.ds) K) (hx : exB_ x excs tf K = true)
    (sd : brkDB x es excs = true) (on : x.on = true) (bB : x.on = true → BindD x.dB [bSelf, bAt]) : BrkG K mg (pxOf K excs T) := by
  unfold brkDB at sd
  rw [on] at sd
  simp only [Bool.not_true, Bool.false_or, Bool.and_eq_true, decide_eq_true_eq] at sd
  obtain ⟨⟨⟨⟨⟨⟨⟨⟨⟨⟨k1, k2⟩, k3⟩, k4⟩, k5⟩, k6⟩, k7⟩, k8⟩, k9⟩, k10⟩, _⟩ := sd
  unfold exB_ at hx
  rw [on, Bool.and_eq_true] at hx
  obtain ⟨_, hxk⟩ := hx
  have hxk : brkKB excs K = true := hxk
  unfold brkKB at hxk
  simp only [Bool.and_eq_true, decide_eq_true_eq, List.all_eq_true] at hxk
  obtain ⟨⟨⟨⟨⟨⟨⟨⟨⟨⟨⟨⟨c1, c2⟩, c3⟩, c4⟩, c5⟩, c6⟩, c7⟩, c8⟩, c9⟩, c10⟩, c11⟩, c12⟩, c13⟩ := hxk
  have hds : x.ds = [x.dS, x.dW, x.dB] := by unfold SdI.ds; rw [on]; rfl
  have hfa : x.fa = [.glo "TurnError", .glo "_law_said", .glo "_law_word", .glo "Broken", .free "ValueError"] := by unfold SdI.fa; rw [on]; rfl
  have glo : ∀ y, He.Fa.glo y ∈ x.fa → mg y = some (.ref (He.ga K y)) := fun y hy => He.glo_ok kin g (c.facts (List.mem_append_right _ hy))
  obtain ⟨fd, Fd⟩ := c.defs (d := x.dB) (List.mem_append_right _ (by rw [hds]; simp))
  have d1 : x.dB.dvs K = [] := by unfold He.DefD.dvs; rw [List.isEmpty_iff.mp k3]; rfl
  have d2 : x.dB.kws K = [] := by unfold He.DefD.kws; rw [List.isEmpty_iff.mp k4]; rfl
  have b := bB on
  unfold BindD at b
  rw [d1, d2, k1, k2] at Fd
  rw [k2] at b
  have B : BrkC K mg (He.ga K "Broken") := by
    refine ⟨oexB_ok c1, c2, xfB_ok c3, He.ga K "TurnError", glo _ (by rw [hfa]; simp), c4, c5, c6, ?_⟩
    split at c7
    · rename_i b0 q
      rw [decide_eq_true_eq] at c7
      rw [q, c7]
    · cases c7
  exact ⟨He.ga K "Broken", _, fd, B, c8, c9, fun P wo base => brk_ok Fd (scope_of k5) k6 k7 B, Fd.bindsN b, glo _ (by rw [hfa]; simp), ex16 k10⟩
theorem saidG_of {K : PySem.W.Frag} {mg : Str → Option Value} {base : Heap} {es : List Ent} {glob : List (Str × Int)} {excs : List (Str × Nat)} {T : List (Addr × Str)} {tf : List He.Defn} {x : SdI} (kin : K.In base) (g : base.Ns mainGlobals mg) (c : He.SaysD (faOf es glob excs ++ x.fa) (es.map (·.d) ++ x.ds) K) (hx : exB_ x excs tf K = true)
    (sys : ∃ o, base.get? sysModules = some o ∧ o.cls ≠ .type "list") (sd : sdB x es excs tf = true) (on : x.on = true) (bS : x.on = true → BindD x.dS [wC]) (bW : x.on = true → BindD x.dW [wE]) (bB : x.on = true → BindD x.dB [bSelf, bAt]) (one : ∀ p ∈ excs, (excs.find? fun q => q.2 == p.2) = some p) (P : Program) (wo : World) : SaidG P wo K mg base (pxOf K excs T) := by
  unfold sdB at sd
  rw [Bool.and_eq_true] at sd
  obtain ⟨sd, sdk⟩ := sd
  unfold sdQa at sd
  rw [on] at sd
  simp only [Bool.not_true, Bool.false_or, Bool.and_eq_true, List.all_eq_true, List.any_eq_true] at sd
  obtain ⟨⟨⟨⟨⟨⟨⟨⟨⟨a1, a2⟩, a3⟩, a4⟩, a5⟩, a6⟩, a7⟩, a8⟩, a9⟩, _⟩ := sd
  have BG := brkG_of (T := T) kin g c hx sdk on bB
  unfold brkDB at sdk
  rw [on] at sdk
  simp only [Bool.not_true, Bool.false_or, Bool.and_eq_true, decide_eq_true_eq] at sdk
  obtain ⟨⟨⟨⟨_, k8⟩, k9⟩, k10⟩, _⟩ := sdk
  unfold exB_ at hx
  rw [on, Bool.and_eq_true] at hx
  obtain ⟨hx, hxk⟩ := hx
  have hxk : brkKB excs K = true := hxk
  simp only [Bool.not_true, Bool.false_or, Bool.and_eq_true, List.all_eq_true, decide_eq_true_eq] at hx
  obtain ⟨_, hx⟩ := hx
  have hds : x.ds = [x.dS, x.dW, x.dB] := by unfold SdI.ds; rw [on]; rfl
  have hfa : x.fa = [.glo "TurnError", .glo "_law_said", .glo "_law_word", .glo "Broken", .free "ValueError"] := by unfold SdI.fa; rw [on]; rfl
  have glo : ∀ y, He.Fa.glo y ∈ x.fa → mg y = some (.ref (He.ga K y)) := fun y hy => He.glo_ok kin g (c.facts (List.mem_append_right _ hy))
  have free : ∀ y, bltNames.contains y = true → mg y = none := fun y hy => He.free_ok kin g (c.facts (List.mem_append_left _ (List.mem_append_left _ (List.mem_append_right _ (List.mem_map.mpr ⟨y, by simpa using hy, rfl⟩)))))
  have ofc : ∀ cc, 1 ≤ cc → cc ≤ 15 → ∃ p ∈ excs, p.2 = cc ∧ (pxOf K excs T).ex cc = He.ga K p.1 := fun cc c1 c2 => by
    obtain ⟨p, hp, e⟩ := a9 (cc - 1) (List.mem_range.mpr (by omega))
    rw [beq_iff_eq] at e
    have e : p.2 = cc := by omega
    refine ⟨p, hp, e, ?_⟩
    show (match excs.find? fun p => p.2 == cc with
      | some p => He.ga K p.1
      | none => He.ga K "Broken") = _
    rw [← e, one p hp]
  obtain ⟨n1, n2, fdS, FS⟩ := plainD_fun c (List.mem_append_right _ (by rw [hds]; simp)) a1
  obtain ⟨m1, m2, fdW, FW⟩ := plainD_fun c (List.mem_append_right _ (by rw [hds]; simp)) a2
  have exw : ∀ cc, 1 ≤ cc → cc ≤ 15 → IsW K (.ref ((pxOf K excs T).ex cc)) cc (nsOf excs) mg := fun cc c1 c2 => by
    obtain ⟨p, hp, e, ep⟩ := ofc cc c1 c2
    obtain ⟨⟨⟨h1, h2⟩, h3⟩, h4⟩ := hx p hp
    rw [ep]
    refine ⟨He.ga K p.1, rfl, isxB_ok h1, fun y j hy => ?_, h3⟩
    have hm := lookup_mem' hy
    refine ⟨He.ga K y, ?_, by rw [← e]; exact h2 _ hm⟩
    unfold nsOf at hm
    rcases List.mem_append.mp hm with q | q
    · exact He.glo_ok kin g (c.facts (List.mem_append_left _ (List.mem_append_right _ (List.mem_flatMap.mpr ⟨_, q, by simp⟩))))
    · cases List.mem_singleton.mp q
      exact glo "Broken" (by rw [hfa]; simp)
  unfold brkKB at hxk
  simp only [Bool.and_eq_true, decide_eq_true_eq, List.all_eq_true] at hxk
  obtain ⟨⟨⟨⟨⟨⟨⟨⟨⟨⟨⟨⟨c1, c2⟩, c3⟩, c4⟩, c5⟩, c6⟩, c7⟩, c8⟩, c9⟩, c10⟩, c11⟩, c12⟩, c13⟩ := hxk
  have e16 : (pxOf K excs T).ex 16 = He.ga K "Broken" := ex16 k10
  have exB : IsW K (.ref ((pxOf K excs T).ex 16)) 16 (nsOf excs) mg := by
    rw [e16]
    refine ⟨He.ga K "Broken", rfl, isxB_ok c10, fun y j hy => ?_, c12⟩
    have hm := lookup_mem' hy
    refine ⟨He.ga K y, ?_, c11 _ hm⟩
    unfold nsOf at hm
    rcases List.mem_append.mp hm with q | q
    · exact He.glo_ok kin g (c.facts (List.mem_append_left _ (List.mem_append_right _ (List.mem_flatMap.mpr ⟨_, q, by simp⟩))))
    · cases List.mem_singleton.mp q
      exact glo "Broken" (by rw [hfa]; simp)
  constructor
  · obtain ⟨oc, od, dV, kV, doc, pm, an, cdv, ct, osl, z1, z2, z3, _, _⟩ := FS.ex
    have bN := FS.bindsN (bS on)
    rw [n1, n2] at z1
    rw [n2] at z3
    subst z1
    exact ⟨_, oc, od, osl, _, _, _, dV, kV, doc, pm, cdv, ct, an, z2, z3, glo "_law_said" (by rw [hfa]; simp), FS.kp, bN, scope_of a3, a4, a5⟩
  · obtain ⟨oc, od, dV, kV, doc, pm, an, cdv, ct, osl, z1, z2, z3, _, _⟩ := FW.ex
    have bN := FW.bindsN (bW on)
    subst z1
    refine ⟨_, _, nsOf excs, glo "_law_word" (by rw [hfa]; simp), FW.kp, bN, wordF_of (k := 0) z2 z3 (scope_of a6) a7 a8 (free _ (by decide)) (He.free_ok kin g (c.facts (List.mem_append_right _ (by rw [hfa]; simp)))) sys, exw, wordFB_of (k := 0) z2 z3 (scope_of a6) a7 k8 a8 k9 (free _ (by decide)) (He.free_ok kin g (c.facts (List.mem_append_right _ (by rw [hfa]; simp)))) (free _ (by decide)) sys, exB⟩
  · rw [e16]; exact ⟨xfB_ok c3, c2⟩
  · exact ⟨_, glo "TurnError" (by rw [hfa]; simp), fun cc d1 d2 => by
      by_cases h16 : cc = 16
      · rw [h16, e16]; exact c13
      · obtain ⟨p, hp, e, ep⟩ := ofc cc d1 (by omega)
        rw [ep]
        exact (hx p hp).2⟩
  · exact free _ (by decide)
theorem bindX_of {K : PySem.W.Frag} {es : List Ent} {e : Ent} {x : Str} {f : Addr} {fd : FuncData} (b : BindE e) (k2 : (e.d.dfl.isEmpty || (dlE e).isSome) = true) (he : entOf es x = some e) (F : FunD K e.d.name e.d.qual e.d.params e.d.body e.d.scope (e.d.dvs K) [] f fd) : BindX K fd e.ps (dflOf es x) := by
  have ed : dflOf es x = dlE e := by unfold dflOf; rw [he]; rfl
  rw [ed]
  cases q : dlE e with
  | none =>
    rw [q, Option.isSome_none, Bool.or_false] at k2
    have d1 : e.d.dvs K = [] := by unfold He.DefD.dvs; rw [List.isEmpty_iff.mp k2]; rfl
    rw [d1] at F
    exact ⟨F.bindsN (b.1 q), fun i h => by cases h⟩
  | some i =>
    obtain ⟨b1, b2, b3⟩ := b.2 (by rw [q]; intro z; cases z)
    have d0 : e.d.dfl = [.int i] := by
      unfold dlE at q
      split at q
      · rename_i j hj
        cases q
        exact hj
      · cases q
    have d1 : e.d.dvs K = [.int i] := by unfold He.DefD.dvs; rw [d0]; rfl
    rw [d1] at F
    refine ⟨?_, fun j h => ?_⟩
    · obtain ⟨ds, r, h⟩ := F.binds1 e.ps.length 1 (by simp) (by simp) fun T kV doc pm an cdv ct us its h1 h2 => b1 T kV doc pm an cdv ct us its h1 h2
      cases r
      exact h
    · cases h
      obtain ⟨ds, r, h⟩ := F.binds1 (e.ps.length - 1) 0 (by simp) (by simp; omega) fun T kV doc pm an cdv ct us its h1 h2 => b2 T kV doc pm an cdv ct us its h1 h2
      cases r with
      | cons a r =>
        cases r
        obtain ⟨t, rfl⟩ := a
        exact ⟨t, h⟩
theorem glW_of {Pg : Nat → Option Fn} {K : PySem.W.Frag} {mg : Str → Option Value} {base : Heap} {es : List Ent} {glob : List (Str × Int)} {excs : List (Str × Nat)} {tf : List He.Defn} {x : SdI} (kin : K.In base) (g : base.Ns mainGlobals mg) (c : He.SaysD (faOf es glob excs ++ x.fa) (es.map (·.d) ++ x.ds) K) (hx : exB_ x excs tf K = true)
    (sys : ∃ o, base.get? sysModules = some o ∧ o.cls ≠ .type "list") (TB : ∀ p ∈ tf, LamX.TabB base mg (He.cT K p).1 (He.cT K p).2) (sd : sdB x es excs tf = true) (bS : x.on = true → BindD x.dS [wC]) (bW : x.on = true → BindD x.dW [wE]) (bB : x.on = true → BindD x.dB [bSelf, bAt]) (bnd : ∀ e ∈ es, BindE e) (hPg : ∀ e ∈ es, Pg e.num = some e.fn) (ck : (es.all fun e => plainE e && entB (defsOf es) glob excs (dflOf es) e) = true)
    (F : ExcBaseFacts "ValueError" "ValueError.__new__" "ValueError.__init__" He.veBase) (one : ∀ p ∈ excs, (excs.find? fun q => q.2 == p.2) = some p) : GlW Pg K mg base (pxOf K excs (tf.map fun t => ((He.cT K t).2, lamName t.1))) es (defsOf es) glob excs (dflOf es) where
  sm := sys
  ents := fun y i n hy => by
    obtain ⟨e, he, hm, rfl, rfl, rfl⟩ := defsOf_at hy
    rw [List.all_eq_true] at ck
    have k := ck e hm
    unfold plainE at k
    simp only [Bool.and_eq_true, decide_eq_true_eq] at k
    obtain ⟨⟨⟨k1, k2⟩, k3⟩, k4⟩ := k
    obtain ⟨fd, Fd⟩ := c.defs (d := e.d) (List.mem_append_left _ (List.mem_map.mpr ⟨e, hm, rfl⟩))
    have d2 : e.d.kws K = [] := by unfold He.DefD.kws; rw [List.isEmpty_iff.mp k3]; rfl
    rw [d2, k1] at Fd
    refine ⟨e, _, fd, he, hPg e hm, k4, rfl, ⟨_, Fd⟩, ?_, bindX_of (bnd e hm) k2 he Fd, fun hs => ?_, fun hb => ?_⟩
    · exact He.glo_ok kin g (c.facts (List.mem_append_left _ (List.mem_append_left _ (List.mem_append_left _ (List.mem_append_left _ (List.mem_map.mpr ⟨e, hm, rfl⟩))))))
    · have sd0 := sd
      unfold sdB at sd0
      rw [Bool.and_eq_true] at sd0
      have sd0 := sd0.1
      unfold sdQa at sd0
      rw [Bool.and_eq_true, List.all_eq_true] at sd0
      have q := sd0.2 e hm
      rw [hs] at q
      simp only [Bool.not_true, Bool.false_or, Bool.and_eq_true, decide_eq_true_eq, List.any_eq_true] at q
      obtain ⟨⟨on, eq⟩, t, ht, et⟩ := q
      subst et
      refine ⟨fun P wo => saidG_of kin g c hx sys sd on bS bW bB one P wo, (He.cT K (e.d.name, none)).1, (He.cT K (e.d.name, none)).2, TB _ ht, ?_, ?_, fun p hp ep => ?_⟩
      · obtain ⟨oc, od, dV, kV, doc, pm, an, cdv, ct, osl, z1, z2, z3, _, _⟩ := Fd.ex
        obtain ⟨cc, e1⟩ := He.codeIn_ref z3
        have z2 : K.lookup (He.fAd K (e.d.name, none)) = some ⟨oc, od, .func fd, osl⟩ := z2
        have e2 := He.codeOf_eq z2 (by rw [z1]; exact e1)
        rw [z1]
        show cdv = .ref (He.codeOf K (e.d.name, none))
        rw [e2]; exact e1
      · rw [eq]
        exact List.mem_map.mpr ⟨_, ht, rfl⟩
      · obtain ⟨t2, ht2, rfl⟩ := List.mem_map.mp hp
        unfold exB_ at hx
        rw [on] at hx
        simp only [Bool.not_true, Bool.false_or, Bool.and_eq_true, decide_eq_true_eq] at hx
        have e3 : t2 = (e.d.name, none) := by
          have nd := hx.1.1
          exact nodup_map_inj nd ht2 ht ep
        rw [e3, eq]
    · have sd0 := sd
      unfold sdB at sd0
      rw [Bool.and_eq_true] at sd0
      have sdk := sd0.2
      have on : x.on = true := by
        unfold brkDB at sdk
        rw [Bool.and_eq_true, List.all_eq_true] at sdk
        have q := sdk.2 e hm
        rw [hb] at q
        simpa using q
      exact brkG_of kin g c hx sdk on bB
  glob := fun x i hx => He.int_ok kin g (c.facts (List.mem_append_left _ (List.mem_append_left _ (List.mem_append_left _ (List.mem_append_right _ (List.mem_map.mpr ⟨(x, i), lookup_mem' hx, rfl⟩))))))
  blt := fun x hx => by
    have hx' : x ∈ bltNames := by simpa using hx
    exact He.free_ok kin g (c.facts (List.mem_append_left _ (List.mem_append_left _ (List.mem_append_right _ (List.mem_map.mpr ⟨x, hx', rfl⟩)))))
  exc := fun x i hx => by
    have m := lookup_mem' hx
    have f1 := c.facts (f := .glo x) (List.mem_append_left _ (List.mem_append_right _ (List.mem_flatMap.mpr ⟨(x, i), m, by simp⟩)))
    have f2 := c.facts (f := .exc x) (List.mem_append_left _ (List.mem_append_right _ (List.mem_flatMap.mpr ⟨(x, i), m, by simp⟩)))
    obtain ⟨q1, q2, q3, q4⟩ := He.exc_ok f2
    refine ⟨He.ga K x, He.veBase, "ValueError", _, _, F, q1, He.glo_ok kin g f1, q2, fun X hX => raises_own (by rw [hX]; exact q3) (by rw [hX]; exact q4), ?_⟩
    show (match excs.find? fun p => p.2 == i with
      | some p => He.ga K p.1
      | none => He.ga K "Broken") = _
    rw [one _ m]
/-- the law's def keeps its tree's promise, wherever it is called -/
theorem law_G {Pg : Nat → Option Fn} {P : Program} {k i : Nat} {x nm : Str} {es : List Ent} {glob : List (Str × Int)} {excs : List (Str × Nat)} {tf : List He.Defn} {e : Ent} {sx : SdI} (bnd : ∀ e ∈ es, BindE e) (hPg : ∀ e ∈ es, Pg e.num = some e.fn) (ck : (es.all fun e => plainE e && entB (defsOf es) glob excs (dflOf es) e) = true) (one : ∀ p ∈ excs, (excs.find? fun q => q.2 == p.2) = some p) (sd : sdB sx es excs tf = true) (bS : sx.on = true → BindD sx.dS [wC]) (bW : sx.on = true → BindD sx.dW [wE]) (bB : sx.on = true → BindD sx.dB [bSelf, bAt])
    (he : entOf es nm = some e) (hd0 : e.d.dfl = []) (hn : e.d.name = nm) (hp : e.ps = [x]) (hl : (defsOf es).lookup nm = some (i, 1)) (w : World) (mg : Str → Option Value) (f : Addr) (h : Heap) (K : PySem.W.Frag) (c : SaysV (faOf es glob excs ++ sx.fa) (es.map (·.d) ++ sx.ds) tf (exB_ sx excs tf) h K) (g : h.Ns mainGlobals mg) (hf : mg nm = some (.ref f)) :
    ∃ (px : Px) (fd : FuncData), (∀ p ∈ px.T, ∃ t ∈ tf, p.1 = (He.cT K t).2) ∧ (∀ (s : Shared) (u : Value), BindsTo s fd ⟨[u], []⟩ [(x, u)]) ∧
      ∀ base : Heap, K.In base → base.Ns mainGlobals mg → (∃ o, base.get? sysModules = some o ∧ o.cls ≠ .type "list") → (∀ p ∈ tf, LamX.TabB base mg (He.cT K p).1 (He.cT K p).2) → CallG P w K mg base px k f fd [x] (runF Pg k i) := by
  have hm : e ∈ es := List.mem_of_find?_eq_some he
  have k0 := ck
  rw [List.all_eq_true] at k0
  have q := k0 e hm
  unfold plainE at q
  simp only [Bool.and_eq_true, decide_eq_true_eq] at q
  obtain ⟨⟨⟨k1, k2⟩, k3⟩, k4⟩ := q
  obtain ⟨fd, Fd⟩ := c.d.defs (d := e.d) (List.mem_append_left _ (List.mem_map.mpr ⟨e, hm, rfl⟩))
  have d1 : e.d.dvs K = [] := by unfold He.DefD.dvs; rw [hd0]; rfl
  have d2 : e.d.kws K = [] := by unfold He.DefD.kws; rw [List.isEmpty_iff.mp k3]; rfl
  rw [d1, d2] at Fd
  have ef : f = He.fAd K e.d.at_ := by
    have z := He.glo_ok c.kin g (c.d.facts (f := .glo e.d.name) (List.mem_append_left _ (List.mem_append_left _ (List.mem_append_left _ (List.mem_append_left _ (List.mem_map.mpr ⟨e, hm, rfl⟩))))))
    rw [hn, hf] at z
    rw [k1, hn]
    cases z
    rfl
  refine ⟨pxOf K excs (tf.map fun t => ((He.cT K t).2, lamName t.1)), fd, fun p hp => ?_, fun s u => ?_, fun base kin gb sys TB => ?_⟩
  · obtain ⟨t, ht, rfl⟩ := List.mem_map.mp hp
    exact ⟨t, ht, rfl⟩
  · have z := Fd.bindsA ((bnd e hm).1 (by unfold dlE; rw [hd0])) s [u] (by rw [hp]; rfl)
    rw [hp] at z
    exact z
  · have W := glW_of (Pg := Pg) kin gb c.d c.ex sys TB sd bS bW bB bnd hPg ck PySem.F.excBase_ValueError one
    obtain ⟨f3, fd3, ps3, G, b1, b2, b3, b4, e3, b5, b6, dvs3, F3⟩ := callG_all (P := P) (wo := w) W k nm i 1 hl
    rw [he] at b5
    cases b5
    have e4 : f3 = f := by
      rw [hf] at b1
      cases b1
      rfl
    subst e4
    rw [b6, hp] at G
    obtain ⟨oc, od, dV, kV, doc, pm, an, cdv, ct, osl, z1, z2, _⟩ := F3.ex
    obtain ⟨oc', od', dV', kV', doc', pm', an', cdv', ct', osl', y1, y2, _⟩ := Fd.ex
    rw [← ef] at y2
    rw [z2] at y2
    have e5 : fd3 = fd := by
      have q := congrArg Obj.data (Option.some.inj y2)
      exact Data.func.inj q
    rw [← e5]
    exact G
end Tv
end

section

/-! The program and the laws as trees. -/
namespace Tv
open PySem
abbrev n_is_whole : Nat := 0
abbrev n_is_from_to : Nat := 1
abbrev n_is_bed : Nat := 2
abbrev n_most_of : Nat := 3
abbrev n_many_in : Nat := 4
abbrev n_is_grounds : Nat := 5
abbrev n_need_grounds : Nat := 6
abbrev n_standings_in : Nat := 7
abbrev n_all_standings : Nat := 8
abbrev n_l_box : Nat := 9
abbrev n_l_take : Nat := 10
abbrev n_law_k10 : Nat := 11
abbrev n_are_rising : Nat := 12
abbrev n_is_standing_of : Nat := 13
abbrev n_is_standing : Nat := 14
abbrev n_is_catch_of : Nat := 15
abbrev n_is_catch : Nat := 16
abbrev n_many_standings : Nat := 17
abbrev n_l_is_from_to : Nat := 18
abbrev n_l_spoil : Nat := 19
abbrev n_l_odd : Nat := 20
abbrev n_l_rising : Nat := 21
abbrev n_l_most : Nat := 22
abbrev n_l_many : Nat := 23
abbrev n_l_grounds : Nat := 24
abbrev n_l_is_grounds : Nat := 25
abbrev n_l_is_standing : Nat := 26
abbrev n_l_is_catch : Nat := 27
abbrev n_l_standing : Nat := 28
abbrev n_l_catches : Nat := 29
abbrev n_l_all : Nat := 30
abbrev n_l_of_right : Nat := 31
abbrev n_law_k11 : Nat := 32
abbrev n_need_standing : Nat := 33
abbrev n_may_go : Nat := 34
abbrev n_baskets_in : Nat := 35
abbrev n_next_of : Nat := 36
abbrev n_need_catch : Nat := 37
abbrev n_may_be : Nat := 38
abbrev n_need_going : Nat := 39
abbrev n_sold_by : Nat := 40
abbrev n_behind : Nat := 41
abbrev n_l_can : Nat := 42
abbrev n_l_sold : Nat := 43
abbrev n_l_next : Nat := 44
abbrev n_l_due : Nat := 45
abbrev n_law_k12 : Nat := 46
abbrev n_is_course : Nat := 47
abbrev n_need_course : Nat := 48
abbrev n_gone_through : Nat := 49
abbrev n_first_break : Nat := 50
abbrev n_whole_way : Nat := 51
abbrev n_sales : Nat := 52
abbrev n_end_of : Nat := 53
abbrev n_l_is_course : Nat := 54
abbrev n_l_let : Nat := 55
abbrev n_l_course : Nat := 56
abbrev n_l_gone : Nat := 57
abbrev n_l_due_2 : Nat := 58
abbrev n_law_k21 : Nat := 59
abbrev n_whole_way_2 : Nat := 60
abbrev n_sales_2 : Nat := 61
abbrev n_end_of_2 : Nat := 62
abbrev n_l_rested : Nat := 63
abbrev n_law_k22 : Nat := 64
abbrev n_need_number : Nat := 65
abbrev n_number_of : Nat := 66
abbrev n_catches_of : Nat := 67
abbrev n_moves_of : Nat := 68
abbrev n_least_sheet : Nat := 69
abbrev n_most_sold : Nat := 70
abbrev n_best_course : Nat := 71
abbrev n_l_moves : Nat := 72
abbrev n_l_sheet : Nat := 73
abbrev n_l_right : Nat := 74
abbrev n_law_k31 : Nat := 75
abbrev n_are_numbers : Nat := 76
abbrev n_bears : Nat := 77
abbrev n_is_sheet : Nat := 78
abbrev n_sheet_of : Nat := 79
abbrev n_l_are_numbers : Nat := 80
abbrev n_l_is_sheet : Nat := 81
abbrev n_law_k32 : Nat := 82
abbrev n_law_k33 : Nat := 83
abbrev n_common : Nat := 84
abbrev n_amount : Nat := 85
abbrev n_is_less : Nat := 86
abbrev n_is_round : Nat := 87
abbrev n_walks : Nat := 88
abbrev n_mean_in : Nat := 89
abbrev n_heights_of : Nat := 90
abbrev n_tight_moves : Nat := 91
abbrev n_way_round : Nat := 92
abbrev n_best_round : Nat := 93
abbrev n_l_is_round : Nat := 94
abbrev n_l_round : Nat := 95
abbrev n_law_k41 : Nat := 96
abbrev n_is_scale : Nat := 97
abbrev n_scale_of : Nat := 98
abbrev n_l_is_scale : Nat := 99
abbrev n_law_k42 : Nat := 100
abbrev n_best_mean : Nat := 101
abbrev n_l_common : Nat := 102
abbrev n_law_k43 : Nat := 103
abbrev n_l_wandered : Nat := 104
abbrev n_l_no_more : Nat := 105
abbrev n_l_others_right : Nat := 106
abbrev n_law_k44 : Nat := 107
abbrev n_let_moves : Nat := 108
abbrev n_ranks_of : Nat := 109
abbrev n_need_all : Nat := 110
abbrev n_are_enough : Nat := 111
abbrev n_is_plan : Nat := 112
abbrev n_plan_of : Nat := 113
abbrev n_l_is_plan : Nat := 114
abbrev n_l_tried : Nat := 115
abbrev n_law_k51 : Nat := 116
abbrev n_lasting : Nat := 117
abbrev n_l_ranks : Nat := 118
abbrev n_l_right_2 : Nat := 119
abbrev n_law_k52 : Nat := 120
abbrev n_need_grounds_and_need : Nat := 121
abbrev n_is_clock : Nat := 122
abbrev n_clock_of : Nat := 123
abbrev n_l_is_clock : Nat := 124
abbrev n_law_k53 : Nat := 125
abbrev n_l_least : Nat := 126
abbrev n_l_ends_right : Nat := 127
abbrev n_l_more_right : Nat := 128
abbrev n_law_k54 : Nat := 129
abbrev n__wall : Nat := 130
abbrev n_is_bed_number : Nat := 131
abbrev n_is_deed : Nat := 132
abbrev n_is_book : Nat := 133
abbrev n_gone_by : Nat := 134
abbrev n_lacks_at : Nat := 135
abbrev n_need_book : Nat := 136
abbrev n_first_lacking : Nat := 137
abbrev n_l_is_deed : Nat := 138
abbrev n_l_is_book : Nat := 139
abbrev n_l_deed : Nat := 140
abbrev n_l_beds : Nat := 141
abbrev n_l_book : Nat := 142
abbrev n_law_k61 : Nat := 143
abbrev n_need_done : Nat := 144
abbrev n_stock_by : Nat := 145
abbrev n_sums_by : Nat := 146
abbrev n_lots_in : Nat := 147
abbrev n_l_stock : Nat := 148
abbrev n_l_sums : Nat := 149
abbrev n_law_k62 : Nat := 150
abbrev n_l_alone_right : Nat := 151
abbrev n_law_k63 : Nat := 152
abbrev n_with_deed : Nat := 153
abbrev n_without_deed : Nat := 154
abbrev n_l_refused : Nat := 155
abbrev n_l_turned : Nat := 156
abbrev n_l_is_at : Nat := 157
abbrev n_law_k71 : Nat := 158
abbrev n_l_told : Nat := 159
abbrev n_law_k72 : Nat := 160
abbrev n_l_mixed : Nat := 161
abbrev n_l_all_told : Nat := 162
abbrev n_law_k73 : Nat := 163
abbrev n_number_in : Nat := 164
abbrev n_numbers_in : Nat := 165
abbrev n_bed_text : Nat := 166
abbrev n_grounds_text : Nat := 167
abbrev n_bed_by : Nat := 168
abbrev n_grounds_by : Nat := 169
abbrev n_need_text : Nat := 170
abbrev n_need_found : Nat := 171
abbrev n_grounds_read : Nat := 172
abbrev n_catch_text : Nat := 173
abbrev n_course_words : Nat := 174
abbrev n_course_text : Nat := 175
abbrev n_catch_by : Nat := 176
abbrev n_course_by : Nat := 177
abbrev n_course_read : Nat := 178
abbrev n_l_number : Nat := 179
abbrev n_l_bent : Nat := 180
abbrev n_l_grounds_text : Nat := 181
abbrev n_l_course_text : Nat := 182
abbrev n_l_grounds_due : Nat := 183
abbrev n_l_course_due : Nat := 184
abbrev n_law_k81 : Nat := 185
abbrev n_need_figure : Nat := 186
abbrev n_form_of : Nat := 187
abbrev n_l_first : Nat := 188
abbrev n_l_asked : Nat := 189
abbrev n_l_wrong : Nat := 190
abbrev n_law_k82 : Nat := 191
abbrev n_l_step : Nat := 192
abbrev n_law_k83 : Nat := 193
abbrev n_l_sums_right : Nat := 194
abbrev n_law_k84 : Nat := 195
abbrev n_l_beds_2 : Nat := 196
abbrev n_l_book_2 : Nat := 197
abbrev n_l_stock_2 : Nat := 198
abbrev n_l_turns_right : Nat := 199
abbrev n_l_papers_right : Nat := 200
abbrev n_l_rest_right : Nat := 201
abbrev n_law_k90 : Nat := 202
/-- is_whole(thing): 0 thing -/
def f_is_whole : Fn := ⟨1, 1, (.cons (.ret (.and (.isi (.v 0) .int) (.not (.isi (.v 0) .bool)))) .nil)⟩
/-- is_from_to(thing, least, most): 0 thing 1 least 2 most -/
def f_is_from_to : Fn := ⟨3, 3, (.cons (.ret (.and (.call n_is_whole (.cons (.v 0) .nil)) (.chn .le .le (.v 1) (.v 0) (.v 2)))) .nil)⟩
/-- are_rising(row): 0 row 1 one 2 other -/
def x_are_rising_0 : E := (.cmp .lt (.v 1) (.v 2))
def f_are_rising : Fn := ⟨1, 3, (.cons (.ret (.bi .all (.cons (.comp (.zip (.v 0) (.slf (.v 0) (.c (.int 1)))) (.t [1, 2]) [1, 2] (.c (.bl true)) x_are_rising_0) .nil))) .nil)⟩
/-- is_bed(thing): 0 thing 1 baskets -/
def x_is_bed_0 : E := (.call n_is_from_to (.cons (.v 1) (.cons (.c (.int 0)) (.cons (.g ⟨#[77, 79, 83, 84, 95, 89, 73, 69, 76, 68]⟩ (.int 99)) .nil))))
def f_is_bed : Fn := ⟨1, 2, (.cons (.ite (.or (.not (.isi (.v 0) .tuple)) (.or (.cmp .ne (.bi .len (.cons (.v 0) .nil)) (.c (.int 2))) (.not (.call n_is_from_to (.cons (.ix (.v 0) (.c (.int 0))) (.cons (.c (.int 0)) (.cons (.g ⟨#[77, 79, 83, 84, 95, 82, 69, 83, 84]⟩ (.int 3)) .nil))))))) (.cons (.ret (.c (.bl false))) .nil) .nil) (.cons (.ite (.or (.not (.isi (.ix (.v 0) (.c (.int 1))) .tuple)) (.not (.chn .le .le (.c (.int 1)) (.bi .len (.cons (.ix (.v 0) (.c (.int 1))) .nil)) (.g ⟨#[77, 79, 83, 84, 95, 89, 73, 69, 76, 68, 83]⟩ (.int 3))))) (.cons (.ret (.c (.bl false))) .nil) .nil) (.cons (.ret (.bi .all (.cons (.comp (.seq (.ix (.v 0) (.c (.int 1)))) (.n 1) [1] (.c (.bl true)) x_is_bed_0) .nil))) .nil)))⟩
/-- most_of(bed): 0 bed -/
def f_most_of : Fn := ⟨1, 1, (.cons (.ret (.bin .sub (.bin .add (.ix (.v 0) (.c (.int 0))) (.bi .len (.cons (.ix (.v 0) (.c (.int 1))) .nil))) (.c (.int 1)))) .nil)⟩
/-- many_in(beds): 0 beds 1 found 2 bed -/
def b_many_in_0 : Ss := (.cons (.set 1 (.bin .mul (.v 1) (.bin .add (.call n_most_of (.cons (.v 2) .nil)) (.c (.int 1))))) .nil)
def f_many_in : Fn := ⟨1, 3, (.cons (.set 1 (.c (.int 1))) (.cons (.for (.seq (.v 0)) (.n 2) b_many_in_0) (.cons (.ret (.v 1)) .nil)))⟩
/-- is_grounds(thing): 0 thing 1 bed -/
def x_is_grounds_0 : E := (.call n_is_bed (.cons (.v 1) .nil))
def f_is_grounds : Fn := ⟨1, 2, (.cons (.ite (.or (.not (.isi (.v 0) .tuple)) (.or (.cmp .ne (.bi .len (.cons (.v 0) .nil)) (.c (.int 2))) (.not (.isi (.ix (.v 0) (.c (.int 0))) .tuple)))) (.cons (.ret (.c (.bl false))) .nil) .nil) (.cons (.ite (.or (.not (.chn .le .le (.c (.int 1)) (.bi .len (.cons (.ix (.v 0) (.c (.int 0))) .nil)) (.g ⟨#[77, 79, 83, 84, 95, 66, 69, 68, 83]⟩ (.int 4)))) (.not (.bi .all (.cons (.comp (.seq (.ix (.v 0) (.c (.int 0)))) (.n 1) [1] (.c (.bl true)) x_is_grounds_0) .nil)))) (.cons (.ret (.c (.bl false))) .nil) .nil) (.cons (.ret (.and (.cmp .le (.call n_many_in (.cons (.ix (.v 0) (.c (.int 0))) .nil)) (.g ⟨#[77, 79, 83, 84, 95, 83, 84, 65, 78, 68, 73, 78, 71, 83]⟩ (.int 120))) (.call n_is_from_to (.cons (.ix (.v 0) (.c (.int 1))) (.cons (.c (.int 1)) (.cons (.c (.int 2)) .nil)))))) .nil)))⟩
/-- need_grounds(thing): 0 thing -/
def f_need_grounds : Fn := ⟨1, 1, (.cons (.ite (.not (.call n_is_grounds (.cons (.v 0) .nil))) (.cons (.rai 1 (.c (.str ⟨#[110, 111, 32, 103, 114, 111, 117, 110, 100, 115]⟩))) .nil) .nil) .nil)⟩
/-- is_standing_of(grounds, thing): 0 grounds 1 thing 2 years 3 bed -/
def x_is_standing_of_0 : E := (.call n_is_from_to (.cons (.v 2) (.cons (.c (.int 0)) (.cons (.call n_most_of (.cons (.v 3) .nil)) .nil))))
def f_is_standing_of : Fn := ⟨2, 4, (.cons (.ite (.or (.not (.isi (.v 1) .tuple)) (.cmp .ne (.bi .len (.cons (.v 1) .nil)) (.bi .len (.cons (.ix (.v 0) (.c (.int 0))) .nil)))) (.cons (.ret (.c (.bl false))) .nil) .nil) (.cons (.ret (.bi .all (.cons (.comp (.zip (.v 1) (.ix (.v 0) (.c (.int 0)))) (.t [2, 3]) [2, 3] (.c (.bl true)) x_is_standing_of_0) .nil))) .nil))⟩
/-- need_standing(grounds, thing): 0 grounds 1 thing -/
def f_need_standing : Fn := ⟨2, 2, (.cons (.ex (.call n_need_grounds (.cons (.v 0) .nil))) (.cons (.ite (.not (.call n_is_standing_of (.cons (.v 0) (.cons (.v 1) .nil)))) (.cons (.rai 2 (.c (.str ⟨#[110, 111, 32, 115, 116, 97, 110, 100, 105, 110, 103]⟩))) .nil) .nil) .nil))⟩
/-- is_catch_of(grounds, thing): 0 grounds 1 thing 2 bed -/
def x_is_catch_of_0 : E := (.call n_is_from_to (.cons (.v 2) (.cons (.c (.int 0)) (.cons (.bin .sub (.bi .len (.cons (.ix (.v 0) (.c (.int 0))) .nil)) (.c (.int 1))) .nil))))
def f_is_catch_of : Fn := ⟨2, 3, (.cons (.ite (.or (.not (.isi (.v 1) .tuple)) (.cmp .gt (.bi .len (.cons (.v 1) .nil)) (.ix (.v 0) (.c (.int 1))))) (.cons (.ret (.c (.bl false))) .nil) .nil) (.cons (.ret (.and (.bi .all (.cons (.comp (.seq (.v 1)) (.n 2) [2] (.c (.bl true)) x_is_catch_of_0) .nil)) (.call n_are_rising (.cons (.v 1) .nil)))) .nil))⟩
/-- may_go(grounds, standing, catch): 0 grounds 1 standing 2 catch 3 bed -/
def x_may_go_0 : E := (.cmp .ge (.ix (.v 1) (.v 3)) (.ix (.ix (.ix (.v 0) (.c (.int 0))) (.v 3)) (.c (.int 0))))
def f_may_go : Fn := ⟨3, 4, (.cons (.ret (.bi .all (.cons (.comp (.seq (.v 2)) (.n 3) [3] (.c (.bl true)) x_may_go_0) .nil))) .nil)⟩
/-- baskets_in(grounds, standing, catch): 0 grounds 1 standing 2 catch 3 bed -/
def x_baskets_in_0 : E := (.ix (.ix (.ix (.ix (.v 0) (.c (.int 0))) (.v 3)) (.c (.int 1))) (.bin .sub (.ix (.v 1) (.v 3)) (.ix (.ix (.ix (.v 0) (.c (.int 0))) (.v 3)) (.c (.int 0)))))
def f_baskets_in : Fn := ⟨3, 4, (.cons (.ret (.bi .sum (.cons (.comp (.seq (.v 2)) (.n 3) [3] (.c (.bl true)) x_baskets_in_0) .nil))) .nil)⟩
/-- next_of(grounds, standing, catch): 0 grounds 1 standing 2 catch 3 found 4 number 5 bed -/
def b_next_of_0 : Ss := (.cons (.app 3 (.ite (.cmp .isin (.v 4) (.v 2)) (.c (.int 0)) (.bi .min2 (.cons (.bin .add (.ix (.v 1) (.v 4)) (.c (.int 1))) (.cons (.call n_most_of (.cons (.v 5) .nil)) .nil))))) .nil)
def f_next_of : Fn := ⟨3, 6, (.cons (.own 3 (.lst .nil)) (.cons (.for (.enm (.ix (.v 0) (.c (.int 0)))) (.t [4, 5]) b_next_of_0) (.cons (.ret (.bi .tuple (.cons (.v 3) .nil))) .nil)))⟩
/-- is_course(grounds, thing): 0 grounds 1 thing 2 catch -/
def x_is_course_0 : E := (.call n_is_catch_of (.cons (.v 0) (.cons (.v 2) .nil)))
def f_is_course : Fn := ⟨2, 3, (.cons (.ite (.or (.not (.isi (.v 1) .tuple)) (.cmp .gt (.bi .len (.cons (.v 1) .nil)) (.g ⟨#[77, 79, 83, 84, 95, 89, 69, 65, 82, 83]⟩ (.int 150)))) (.cons (.ret (.c (.bl false))) .nil) .nil) (.cons (.ret (.bi .all (.cons (.comp (.seq (.v 1)) (.n 2) [2] (.c (.bl true)) x_is_course_0) .nil))) .nil))⟩
/-- need_course(grounds, standing, thing): 0 grounds 1 standing 2 thing -/
def f_need_course : Fn := ⟨3, 3, (.cons (.ex (.call n_need_standing (.cons (.v 0) (.cons (.v 1) .nil)))) (.cons (.ite (.not (.call n_is_course (.cons (.v 0) (.cons (.v 2) .nil)))) (.cons (.rai 4 (.c (.str ⟨#[110, 111, 32, 99, 111, 117, 114, 115, 101]⟩))) .nil) .nil) .nil))⟩
/-- gone_through(grounds, standing, course): 0 grounds 1 standing 2 course 3 found 4 year 5 catch -/
def b_gone_through_0 : Ss := (.cons (.ite (.not (.call n_may_go (.cons (.v 0) (.cons (.v 1) (.cons (.v 5) .nil))))) (.cons (.ret (.tup (.cons (.v 3) (.cons (.v 1) (.cons (.v 4) .nil))))) .nil) .nil) (.cons (.app 3 (.call n_baskets_in (.cons (.v 0) (.cons (.v 1) (.cons (.v 5) .nil))))) (.cons (.set 1 (.call n_next_of (.cons (.v 0) (.cons (.v 1) (.cons (.v 5) .nil))))) .nil)))
def f_gone_through : Fn := ⟨3, 6, (.cons (.own 3 (.lst .nil)) (.cons (.for (.enm (.v 2)) (.t [4, 5]) b_gone_through_0) (.cons (.ret (.tup (.cons (.v 3) (.cons (.v 1) (.cons (.c .non) .nil))))) .nil)))⟩
/-- first_break(grounds, standing, course): 0 grounds 1 standing 2 course -/
def f_first_break : Fn := ⟨3, 3, (.cons (.ex (.call n_need_course (.cons (.v 0) (.cons (.v 1) (.cons (.v 2) .nil))))) (.cons (.ret (.ix (.call n_gone_through (.cons (.v 0) (.cons (.v 1) (.cons (.v 2) .nil)))) (.c (.int 2)))) .nil))⟩
/-- whole_way(grounds, standing, course): 0 grounds 1 standing 2 course 3 found 4 later 5 year -/
def f_whole_way : Fn := ⟨3, 6, (.cons (.ex (.call n_need_course (.cons (.v 0) (.cons (.v 1) (.cons (.v 2) .nil))))) (.cons (.unp [3, 4, 5] (.call n_gone_through (.cons (.v 0) (.cons (.v 1) (.cons (.v 2) .nil))))) (.cons (.ite (.cmp .notN (.v 5) (.c .non)) (.cons (.raiB (.v 5)) .nil) .nil) (.cons (.ret (.tup (.cons (.v 3) (.cons (.v 4) .nil)))) .nil))))⟩
/-- sales(grounds, standing, course): 0 grounds 1 standing 2 course -/
def f_sales : Fn := ⟨3, 3, (.cons (.ret (.ix (.call n_whole_way (.cons (.v 0) (.cons (.v 1) (.cons (.v 2) .nil)))) (.c (.int 0)))) .nil)⟩
/-- end_of(grounds, standing, course): 0 grounds 1 standing 2 course -/
def f_end_of : Fn := ⟨3, 3, (.cons (.ret (.ix (.call n_whole_way (.cons (.v 0) (.cons (.v 1) (.cons (.v 2) .nil)))) (.c (.int 1)))) .nil)⟩
/-- _law_box(_law_script, _law_k): 0 _law_script 1 _law_k 2 _law_cell -/
def f_l_box : Fn := ⟨2, 3, (.cons (.set 2 (.bin .add (.bin .mul (.c (.int 6151)) (.v 1)) (.c (.int 29)))) (.cons (.ite (.cmp .lt (.v 1) (.bi .len (.cons (.v 0) .nil))) (.cons (.set 2 (.ix (.v 0) (.v 1))) .nil) .nil) (.cons (.ite (.cmp .eq (.bin .mod (.v 2) (.c (.int 2))) (.c (.int 0))) (.cons (.ret (.mls (.cons (.bin .fdiv (.bi .abs (.cons (.v 2) .nil)) (.c (.int 2))) (.cons (.bin .add (.bin .add (.bin .mod (.v 2) (.c (.int 1000003))) (.bin .mul (.c (.int 7919)) (.v 1))) (.c (.int 1))) .nil)))) .nil) .nil) (.cons (.ret (.mls (.cons (.c (.int 0)) (.cons (.bin .add (.bin .add (.bin .mod (.v 2) (.c (.int 2147483563))) (.bin .mul (.c (.int 7919)) (.v 1))) (.c (.int 1))) .nil)))) .nil))))⟩
/-- _law_take(_law_box_here, _law_many_here): 0 _law_box_here 1 _law_many_here 2 _law_digit 3 _law_high -/
def f_l_take : Fn := ⟨2, 4, (.cons (.ite (.cmp .gt (.ix (.v 0) (.c (.int 0))) (.c (.int 0))) (.cons (.sd2 (.v 0) (.c (.int 0)) 2 (.bi .divmod (.cons (.ix (.v 0) (.c (.int 0))) (.cons (.v 1) .nil)))) (.cons (.ret (.v 2)) .nil)) .nil) (.cons (.sr (.v 0) (.c (.int 1)) (.bin .mod (.bin .add (.bin .mul (.ix (.v 0) (.c (.int 1))) (.c (.int 48271))) (.c (.int 11))) (.c (.int 2147483647)))) (.cons (.set 3 (.bin .add (.bin .fdiv (.ix (.v 0) (.c (.int 1))) (.c (.int 1009))) (.c (.int 1)))) (.cons (.ret (.bin .mod (.bin .fdiv (.bin .mod (.bin .mul (.bin .mul (.v 3) (.v 3)) (.v 3)) (.c (.int 2147483629))) (.c (.int 61))) (.v 1))) .nil))))⟩
/-- _law_is_from_to(_law_thing, _law_least, _law_most_here): 0 _law_thing 1 _law_least 2 _law_most_here -/
def f_l_is_from_to : Fn := ⟨3, 3, (.cons (.ret (.and (.isi (.v 0) .int) (.and (.not (.isi (.v 0) .bool)) (.chn .le .le (.v 1) (.v 0) (.v 2))))) .nil)⟩
/-- _law_spoil(_law_box_here, _law_thing, _law_odd_here): 0 _law_box_here 1 _law_thing 2 _law_odd_here 3 _law_at 4 _law_way 5 _law_some -/
def f_l_spoil : Fn := ⟨3, 6, (.cons (.ite (.and (.isi (.v 1) .tuple) (.and (.cmp .ne (.v 1) (.tup .nil)) (.cmp .gt (.call n_l_take (.cons (.v 0) (.cons (.c (.int 5)) .nil))) (.c (.int 0))))) (.cons (.set 3 (.call n_l_take (.cons (.v 0) (.cons (.bi .len (.cons (.v 1) .nil)) .nil)))) (.cons (.ret (.bin .add (.bin .add (.slt (.v 1) (.v 3)) (.tup (.cons (.call n_l_spoil (.cons (.v 0) (.cons (.ix (.v 1) (.v 3)) (.cons (.v 2) .nil)))) .nil))) (.slf (.v 1) (.bin .add (.v 3) (.c (.int 1)))))) .nil)) .nil) (.cons (.set 4 (.call n_l_take (.cons (.v 0) (.cons (.c (.int 7)) .nil)))) (.cons (.ite (.isi (.v 1) .tuple) (.cons (.set 3 (.call n_l_take (.cons (.v 0) (.cons (.bin .add (.bi .len (.cons (.v 1) .nil)) (.c (.int 1))) .nil)))) (.cons (.set 5 (.lst (.cons (.bin .add (.slt (.v 1) (.v 3)) (.slf (.v 1) (.bin .add (.v 3) (.c (.int 1))))) (.cons (.bin .add (.bin .add (.slt (.v 1) (.v 3)) (.sl (.v 1) (.v 3) (.bin .add (.v 3) (.c (.int 1))))) (.slf (.v 1) (.v 3))) (.cons (.rev (.v 1)) (.cons (.bi .list (.cons (.v 1) .nil)) .nil)))))) (.cons (.ret (.ix (.bin .add (.v 5) (.lst (.cons (.bin .add (.v 1) (.tup (.cons (.v 2) .nil))) (.cons (.v 2) (.cons (.bin .add (.slf (.v 1) (.v 3)) (.slt (.v 1) (.v 3))) .nil))))) (.v 4))) .nil))) .nil) (.cons (.ite (.isi (.v 1) .int) (.cons (.ret (.ix (.lst (.cons (.bin .add (.v 1) (.c (.int 1))) (.cons (.bin .sub (.v 1) (.c (.int 1))) (.cons (.bin .sub (.c (.int 0)) (.v 1)) (.cons (.bi .str (.cons (.v 1) .nil)) (.cons (.v 2) (.cons (.bin .add (.v 1) (.c (.int 90))) (.cons (.v 2) .nil)))))))) (.v 4))) .nil) .nil) (.cons (.ret (.v 2)) .nil)))))⟩
/-- _law_odd(_law_box_here): 0 _law_box_here 1 _law_some -/
def f_l_odd : Fn := ⟨1, 2, (.cons (.set 1 (.lst (.cons (.c .non) (.cons (.c (.bl true)) (.cons (.c (.bl false)) (.cons (.c (.int 0)) (.cons (.c (.int 1)) (.cons (.neg (.c (.int 1))) (.cons (.c (.int 2)) (.cons (.c (.int 3)) (.cons (.c (.int 4)) (.cons (.c (.int 5)) (.cons (.c (.int 8)) (.cons (.c (.int 9)) (.cons (.c (.int 12)) (.cons (.c (.int 13)) (.cons (.c (.int 29)) (.cons (.c (.int 30)) (.cons (.c (.int 99)) (.cons (.c (.int 100)) (.cons (.c (.int 120)) (.cons (.c (.int 121)) (.cons (.c (.int 9999)) (.cons (.c (.int 10000)) .nil)))))))))))))))))))))))) (.cons (.set 1 (.bin .add (.v 1) (.lst (.cons (.bin .pow (.c (.int 10)) (.c (.int 19))) (.cons (.bin .sub (.c (.int 0)) (.bin .pow (.c (.int 10)) (.c (.int 19)))) (.cons (.c (.str ⟨#[]⟩)) (.cons (.c (.str ⟨#[48]⟩)) (.cons (.c (.str ⟨#[45]⟩)) (.cons (.c (.str ⟨#[108, 97, 105, 100]⟩)) (.cons (.tup .nil) (.cons (.lst .nil) (.cons (.dic []) (.cons (.tup (.cons (.c (.int 0)) .nil)) (.cons (.lst (.cons (.c (.int 0)) .nil)) (.cons (.tup (.cons (.c (.int 1)) (.cons (.c (.int 1)) .nil))) (.cons (.tup (.cons (.c (.int 0)) (.cons (.c (.int 0)) .nil))) (.cons (.tup (.cons (.tup (.cons (.c (.int 0)) (.cons (.c (.int 5)) .nil))) .nil)) .nil))))))))))))))))) (.cons (.set 1 (.bin .add (.v 1) (.lst (.cons (.tup (.cons (.c (.int 0)) (.cons (.tup (.cons (.c (.int 5)) .nil)) .nil))) (.cons (.tup (.cons (.tup (.cons (.tup (.cons (.c (.int 0)) (.cons (.tup (.cons (.c (.int 5)) .nil)) .nil))) .nil)) (.cons (.c (.int 1)) .nil))) (.cons (.tup (.cons (.tup (.cons (.tup (.cons (.c (.int 0)) (.cons (.tup (.cons (.c (.int 5)) .nil)) .nil))) .nil)) (.cons (.c (.int 3)) .nil))) (.cons (.tup (.cons (.c .non) .nil)) (.cons (.tup (.cons (.tup .nil) .nil)) (.cons (.tup (.cons (.tup .nil) (.cons (.tup .nil) .nil))) (.cons (.dic [(0, 5)]) (.cons (.tup (.cons (.c (.bl true)) .nil)) .nil))))))))))) (.cons (.set 1 (.bin .add (.v 1) (.lst (.cons (.tup (.cons (.c (.int 0)) (.cons (.c (.str ⟨#[100, 105, 101, 100]⟩)) (.cons (.c (.int 0)) (.cons (.c (.int 1)) .nil))))) (.cons (.tup (.cons (.c (.int 0)) (.cons (.c (.str ⟨#[100, 105, 101, 100]⟩)) (.cons (.c (.int 0)) (.cons (.c (.int 13)) .nil))))) (.cons (.tup (.cons (.c (.int 0)) (.cons (.c (.str ⟨#[108, 97, 105, 100]⟩)) (.cons (.c (.int 0)) (.cons (.c (.int 0)) (.cons (.c (.int 5)) .nil)))))) (.cons (.tup (.cons (.tup (.cons (.c (.int 0)) (.cons (.c (.str ⟨#[100, 105, 101, 100]⟩)) (.cons (.c (.int 0)) (.cons (.c (.int 1)) .nil))))) .nil)) .nil))))))) (.cons (.ret (.ix (.v 1) (.call n_l_take (.cons (.v 0) (.cons (.bi .len (.cons (.v 1) .nil)) .nil))))) .nil)))))⟩
/-- _law_rising(_law_row): 0 _law_row 1 _law_one 2 _law_other -/
def c_l_rising_0 : E := (.not (.cmp .lt (.v 1) (.v 2)))
def f_l_rising : Fn := ⟨1, 3, (.cons (.ret (.cmp .eq (.comp (.zip (.v 0) (.slf (.v 0) (.c (.int 1)))) (.t [1, 2]) [1, 2] c_l_rising_0 (.c (.int 1))) (.lst .nil))) .nil)⟩
/-- _law_most(_law_bed): 0 _law_bed -/
def f_l_most : Fn := ⟨1, 1, (.cons (.ret (.bin .sub (.bin .add (.ix (.v 0) (.c (.int 0))) (.bi .len (.cons (.ix (.v 0) (.c (.int 1))) .nil))) (.c (.int 1)))) .nil)⟩
/-- _law_many(_law_beds): 0 _law_beds 1 _law_found 2 _law_bed -/
def b_l_many_0 : Ss := (.cons (.set 1 (.bin .mul (.v 1) (.bin .add (.call n_l_most (.cons (.v 2) .nil)) (.c (.int 1))))) .nil)
def f_l_many : Fn := ⟨1, 3, (.cons (.set 1 (.c (.int 1))) (.cons (.for (.seq (.v 0)) (.n 2) b_l_many_0) (.cons (.ret (.v 1)) .nil)))⟩
/-- _law_grounds(_law_box_here): 0 _law_box_here 1 _law_most_here 2 _law_beds 3 _law_turn 4 _law_yields 5 _law_place -/
def x_l_grounds_0 : E := (.call n_l_take (.cons (.v 0) (.cons (.v 1) .nil)))
def b_l_grounds_0 : Ss := (.cons (.set 4 (.bi .tuple (.cons (.comp (.rng (.bin .add (.c (.int 1)) (.call n_l_take (.cons (.v 0) (.cons (.c (.int 3)) .nil))))) (.n 5) [5] (.c (.bl true)) x_l_grounds_0) .nil))) (.cons (.app 2 (.tup (.cons (.call n_l_take (.cons (.v 0) (.cons (.c (.int 4)) .nil))) (.cons (.v 4) .nil)))) (.cons (.ite (.cmp .eq (.call n_l_take (.cons (.v 0) (.cons (.c (.int 4)) .nil))) (.c (.int 0))) (.cons (.si 2 (.neg (.c (.int 1))) (.ix (.v 2) (.c (.int 0)))) .nil) .nil) .nil)))
def w_l_grounds_0 : E := (.cmp .gt (.call n_l_many (.cons (.v 2) .nil)) (.c (.int 120)))
def b_l_grounds_1 : Ss := (.cons (.pop 2) .nil)
def f_l_grounds : Fn := ⟨1, 6, (.cons (.set 1 (.ix (.lst (.cons (.c (.int 2)) (.cons (.c (.int 10)) (.cons (.c (.int 100)) .nil)))) (.call n_l_take (.cons (.v 0) (.cons (.c (.int 3)) .nil))))) (.cons (.own 2 (.lst .nil)) (.cons (.for (.rng (.bin .add (.c (.int 1)) (.call n_l_take (.cons (.v 0) (.cons (.c (.int 4)) .nil))))) (.n 3) b_l_grounds_0) (.cons (.whl w_l_grounds_0 b_l_grounds_1) (.cons (.ret (.tup (.cons (.bi .tuple (.cons (.v 2) .nil)) (.cons (.bin .add (.c (.int 1)) (.call n_l_take (.cons (.v 0) (.cons (.c (.int 2)) .nil)))) .nil)))) .nil)))))⟩
/-- _law_is_grounds(_law_thing): 0 _law_thing 1 _law_bed 2 _law_baskets -/
def x_l_is_grounds_0 : E := (.call n_l_is_from_to (.cons (.v 2) (.cons (.c (.int 0)) (.cons (.c (.int 99)) .nil))))
def b_l_is_grounds_0 : Ss := (.cons (.ite (.or (.not (.isi (.v 1) .tuple)) (.or (.cmp .ne (.bi .len (.cons (.v 1) .nil)) (.c (.int 2))) (.not (.call n_l_is_from_to (.cons (.ix (.v 1) (.c (.int 0))) (.cons (.c (.int 0)) (.cons (.c (.int 3)) .nil))))))) (.cons (.ret (.c (.bl false))) .nil) .nil) (.cons (.ite (.or (.not (.isi (.ix (.v 1) (.c (.int 1))) .tuple)) (.not (.chn .le .le (.c (.int 1)) (.bi .len (.cons (.ix (.v 1) (.c (.int 1))) .nil)) (.c (.int 3))))) (.cons (.ret (.c (.bl false))) .nil) .nil) (.cons (.ite (.not (.bi .all (.cons (.comp (.seq (.ix (.v 1) (.c (.int 1)))) (.n 2) [2] (.c (.bl true)) x_l_is_grounds_0) .nil))) (.cons (.ret (.c (.bl false))) .nil) .nil) .nil)))
def f_l_is_grounds : Fn := ⟨1, 3, (.cons (.ite (.or (.not (.isi (.v 0) .tuple)) (.or (.cmp .ne (.bi .len (.cons (.v 0) .nil)) (.c (.int 2))) (.not (.call n_l_is_from_to (.cons (.ix (.v 0) (.c (.int 1))) (.cons (.c (.int 1)) (.cons (.c (.int 2)) .nil))))))) (.cons (.ret (.c (.bl false))) .nil) .nil) (.cons (.ite (.or (.not (.isi (.ix (.v 0) (.c (.int 0))) .tuple)) (.not (.chn .le .le (.c (.int 1)) (.bi .len (.cons (.ix (.v 0) (.c (.int 0))) .nil)) (.c (.int 4))))) (.cons (.ret (.c (.bl false))) .nil) .nil) (.cons (.for (.seq (.ix (.v 0) (.c (.int 0)))) (.n 1) b_l_is_grounds_0) (.cons (.ret (.cmp .le (.call n_l_many (.cons (.ix (.v 0) (.c (.int 0))) .nil)) (.c (.int 120)))) .nil))))⟩
/-- _law_is_standing(_law_grounds_here, _law_thing): 0 _law_grounds_here 1 _law_thing 2 _law_years 3 _law_bed -/
def x_l_is_standing_0 : E := (.call n_l_is_from_to (.cons (.v 2) (.cons (.c (.int 0)) (.cons (.call n_l_most (.cons (.v 3) .nil)) .nil))))
def f_l_is_standing : Fn := ⟨2, 4, (.cons (.ite (.or (.not (.isi (.v 1) .tuple)) (.cmp .ne (.bi .len (.cons (.v 1) .nil)) (.bi .len (.cons (.ix (.v 0) (.c (.int 0))) .nil)))) (.cons (.ret (.c (.bl false))) .nil) .nil) (.cons (.ret (.bi .all (.cons (.comp (.zip (.v 1) (.ix (.v 0) (.c (.int 0)))) (.t [2, 3]) [2, 3] (.c (.bl true)) x_l_is_standing_0) .nil))) .nil))⟩
/-- _law_is_catch(_law_grounds_here, _law_thing): 0 _law_grounds_here 1 _law_thing 2 _law_bed -/
def x_l_is_catch_0 : E := (.call n_l_is_from_to (.cons (.v 2) (.cons (.c (.int 0)) (.cons (.bin .sub (.bi .len (.cons (.ix (.v 0) (.c (.int 0))) .nil)) (.c (.int 1))) .nil))))
def f_l_is_catch : Fn := ⟨2, 3, (.cons (.ite (.or (.not (.isi (.v 1) .tuple)) (.cmp .gt (.bi .len (.cons (.v 1) .nil)) (.ix (.v 0) (.c (.int 1))))) (.cons (.ret (.c (.bl false))) .nil) .nil) (.cons (.ret (.and (.bi .all (.cons (.comp (.seq (.v 1)) (.n 2) [2] (.c (.bl true)) x_l_is_catch_0) .nil)) (.call n_l_rising (.cons (.v 1) .nil)))) .nil))⟩
/-- _law_is_course(_law_grounds_here, _law_thing): 0 _law_grounds_here 1 _law_thing 2 _law_one -/
def x_l_is_course_0 : E := (.call n_l_is_catch (.cons (.v 0) (.cons (.v 2) .nil)))
def f_l_is_course : Fn := ⟨2, 3, (.cons (.ret (.and (.isi (.v 1) .tuple) (.and (.cmp .le (.bi .len (.cons (.v 1) .nil)) (.c (.int 150))) (.bi .all (.cons (.comp (.seq (.v 1)) (.n 2) [2] (.c (.bl true)) x_l_is_course_0) .nil))))) .nil)⟩
/-- _law_standing(_law_box_here, _law_grounds_here): 0 _law_box_here 1 _law_grounds_here 2 _law_way 3 _law_found 4 _law_bed -/
def b_l_standing_0 : Ss := (.cons (.app 3 (.ix (.lst (.cons (.call n_l_most (.cons (.v 4) .nil)) (.cons (.c (.int 0)) (.cons (.call n_l_take (.cons (.v 0) (.cons (.bin .add (.call n_l_most (.cons (.v 4) .nil)) (.c (.int 1))) .nil))) .nil)))) (.bi .min2 (.cons (.v 2) (.cons (.c (.int 2)) .nil))))) .nil)
def f_l_standing : Fn := ⟨2, 5, (.cons (.par 2 false 3 true (.call n_l_take (.cons (.v 0) (.cons (.c (.int 4)) .nil))) (.lst .nil)) (.cons (.for (.seq (.ix (.v 1) (.c (.int 0)))) (.n 4) b_l_standing_0) (.cons (.ret (.bi .tuple (.cons (.v 3) .nil))) .nil)))⟩
/-- _law_can(_law_grounds_here, _law_standing_here, _law_catch): 0 _law_grounds_here 1 _law_standing_here 2 _law_catch 3 _law_bed -/
def c_l_can_0 : E := (.cmp .lt (.ix (.v 1) (.v 3)) (.ix (.ix (.ix (.v 0) (.c (.int 0))) (.v 3)) (.c (.int 0))))
def f_l_can : Fn := ⟨3, 4, (.cons (.ret (.cmp .eq (.comp (.seq (.v 2)) (.n 3) [3] c_l_can_0 (.v 3)) (.lst .nil))) .nil)⟩
/-- _law_sold(_law_grounds_here, _law_standing_here, _law_catch): 0 _law_grounds_here 1 _law_standing_here 2 _law_catch 3 _law_total 4 _law_bed 5 _law_rest 6 _law_yields -/
def b_l_sold_0 : Ss := (.cons (.unp [5, 6] (.ix (.ix (.v 0) (.c (.int 0))) (.v 4))) (.cons (.set 3 (.bin .add (.v 3) (.ix (.v 6) (.bin .sub (.ix (.v 1) (.v 4)) (.v 5))))) .nil))
def f_l_sold : Fn := ⟨3, 7, (.cons (.set 3 (.c (.int 0))) (.cons (.for (.seq (.v 2)) (.n 4) b_l_sold_0) (.cons (.ret (.v 3)) .nil)))⟩
/-- _law_next(_law_grounds_here, _law_standing_here, _law_catch): 0 _law_grounds_here 1 _law_standing_here 2 _law_catch 3 _law_found 4 _law_number 5 _law_years 6 _law_later -/
def b_l_next_0 : Ss := (.cons (.set 6 (.bi .min2 (.cons (.bin .add (.v 5) (.c (.int 1))) (.cons (.call n_l_most (.cons (.ix (.ix (.v 0) (.c (.int 0))) (.v 4)) .nil)) .nil)))) (.cons (.app 3 (.bin .mul (.v 6) (.bi .int (.cons (.cmp .notin (.v 4) (.v 2)) .nil)))) .nil))
def f_l_next : Fn := ⟨3, 7, (.cons (.own 3 (.lst .nil)) (.cons (.for (.enm (.v 1)) (.t [4, 5]) b_l_next_0) (.cons (.ret (.bi .tuple (.cons (.v 3) .nil))) .nil)))⟩
/-- _law_catches(_law_grounds_here): 0 _law_grounds_here 1 _law_found 2 _law_many_here 3 _law_one 4 _law_other -/
def x_l_catches_0 : E := (.tup (.cons (.v 3) (.cons (.v 4) .nil)))
def b_l_catches_0 : Ss := (.cons (.app 1 (.tup (.cons (.v 3) .nil))) (.cons (.ite (.cmp .eq (.ix (.v 0) (.c (.int 1))) (.c (.int 2))) (.cons (.own 1 (.bin .add (.v 1) (.comp (.rngs (.bin .add (.v 3) (.c (.int 1))) (.v 2)) (.n 4) [4] (.c (.bl true)) x_l_catches_0))) .nil) .nil) .nil))
def f_l_catches : Fn := ⟨1, 5, (.cons (.par 1 true 2 false (.lst (.cons (.tup .nil) .nil)) (.bi .len (.cons (.ix (.v 0) (.c (.int 0))) .nil))) (.cons (.for (.rng (.v 2)) (.n 3) b_l_catches_0) (.cons (.ret (.bi .sorted (.cons (.v 1) .nil))) .nil)))⟩
/-- _law_let(_law_grounds_here, _law_standing_here): 0 _law_grounds_here 1 _law_standing_here 2 _law_catch -/
def c_l_let_0 : E := (.call n_l_can (.cons (.v 0) (.cons (.v 1) (.cons (.v 2) .nil))))
def f_l_let : Fn := ⟨2, 3, (.cons (.ret (.comp (.seq (.call n_l_catches (.cons (.v 0) .nil))) (.n 2) [2] c_l_let_0 (.v 2))) .nil)⟩
/-- _law_course(_law_box_here, _law_grounds_here, _law_standing_here, _law_years): 0 _law_box_here 1 _law_grounds_here 2 _law_standing_here 3 _law_years 4 _law_found 5 _law_year 6 _law_some 7 _law_catch -/
def b_l_course_0 : Ss := (.cons (.set 6 (.call n_l_let (.cons (.v 1) (.cons (.v 2) .nil)))) (.cons (.set 7 (.ix (.v 6) (.ix (.lst (.cons (.call n_l_take (.cons (.v 0) (.cons (.bi .len (.cons (.v 6) .nil)) .nil))) (.cons (.bin .sub (.bi .len (.cons (.v 6) .nil)) (.c (.int 1))) .nil))) (.call n_l_take (.cons (.v 0) (.cons (.c (.int 2)) .nil)))))) (.cons (.app 4 (.v 7)) (.cons (.set 2 (.call n_l_next (.cons (.v 1) (.cons (.v 2) (.cons (.v 7) .nil))))) .nil))))
def f_l_course : Fn := ⟨4, 8, (.cons (.own 4 (.lst .nil)) (.cons (.for (.rng (.v 3)) (.n 5) b_l_course_0) (.cons (.ret (.bi .tuple (.cons (.v 4) .nil))) .nil)))⟩
/-- _law_gone(_law_grounds_here, _law_standing_here, _law_course_here): 0 _law_grounds_here 1 _law_standing_here 2 _law_course_here 3 _law_found 4 _law_year 5 _law_catch -/
def b_l_gone_0 : Ss := (.cons (.ite (.not (.call n_l_can (.cons (.v 0) (.cons (.v 1) (.cons (.v 5) .nil))))) (.cons (.ret (.tup (.cons (.v 3) (.cons (.v 1) (.cons (.v 4) .nil))))) .nil) .nil) (.cons (.app 3 (.call n_l_sold (.cons (.v 0) (.cons (.v 1) (.cons (.v 5) .nil))))) (.cons (.set 1 (.call n_l_next (.cons (.v 0) (.cons (.v 1) (.cons (.v 5) .nil))))) .nil)))
def f_l_gone : Fn := ⟨3, 6, (.cons (.own 3 (.lst .nil)) (.cons (.for (.enm (.v 2)) (.t [4, 5]) b_l_gone_0) (.cons (.ret (.tup (.cons (.v 3) (.cons (.v 1) (.cons (.c .non) .nil))))) .nil)))⟩
/-- _law_due(_law_grounds_here, _law_standing_here, _law_course_here): 0 _law_grounds_here 1 _law_standing_here 2 _law_course_here 3 _law_sold_here 4 _law_later 5 _law_year -/
def f_l_due_2 : Fn := ⟨3, 6, (.cons (.ite (.not (.call n_l_is_grounds (.cons (.v 0) .nil))) (.cons (.ret (.bin .mul (.lst (.cons (.c (.str ⟨#[33, 32, 103, 114, 111, 117, 110, 100, 115]⟩)) .nil)) (.c (.int 3)))) .nil) .nil) (.cons (.ite (.not (.call n_l_is_standing (.cons (.v 0) (.cons (.v 1) .nil)))) (.cons (.ret (.bin .mul (.lst (.cons (.c (.str ⟨#[33, 32, 115, 116, 97, 110, 100, 105, 110, 103]⟩)) .nil)) (.c (.int 3)))) .nil) .nil) (.cons (.ite (.not (.call n_l_is_course (.cons (.v 0) (.cons (.v 2) .nil)))) (.cons (.ret (.bin .mul (.lst (.cons (.c (.str ⟨#[33, 32, 99, 111, 117, 114, 115, 101]⟩)) .nil)) (.c (.int 3)))) .nil) .nil) (.cons (.unp [3, 4, 5] (.call n_l_gone (.cons (.v 0) (.cons (.v 1) (.cons (.v 2) .nil))))) (.cons (.ite (.cmp .notN (.v 5) (.c .non)) (.cons (.ret (.lst (.cons (.bi .rep (.cons (.v 5) .nil)) (.cons (.bin .add (.c (.str ⟨#[33, 32, 98, 114, 111, 107, 101, 110, 32]⟩)) (.bi .rep (.cons (.v 5) .nil))) (.cons (.bin .add (.c (.str ⟨#[33, 32, 98, 114, 111, 107, 101, 110, 32]⟩)) (.bi .rep (.cons (.v 5) .nil))) .nil))))) .nil) .nil) (.cons (.ret (.lst (.cons (.c (.str ⟨#[78, 111, 110, 101]⟩)) (.cons (.bi .rep (.cons (.v 3) .nil)) (.cons (.bi .rep (.cons (.v 4) .nil)) .nil))))) .nil))))))⟩
/-- law(_law_script): 0 _law_script 1 _law_k 2 _law_box_here 3 _law_turn 4 _law_grounds_here 5 _law_standing_here 6 _law_many_here 7 _law_course_here 8 _law_some 9 _law_at 10 _law_turned 11 _law_asked 12 _law_row 13 _law_one 14 _law_other 15 _law_third 16 _law_held 17 _law_found 18 _law_told -/
def b_law_k21_0 : Ss := (.cons (.set 16 (.bi .rep (.cons (.lst (.cons (.v 13) (.cons (.v 14) (.cons (.v 15) .nil)))) .nil))) (.cons (.own 17 (.lst (.cons (.said (.call n_first_break (.cons (.v 13) (.cons (.v 14) (.cons (.v 15) .nil))))) .nil))) (.cons (.app 17 (.said (.call n_sales (.cons (.v 13) (.cons (.v 14) (.cons (.v 15) .nil)))))) (.cons (.app 17 (.said (.call n_end_of (.cons (.v 13) (.cons (.v 14) (.cons (.v 15) .nil)))))) (.cons (.ite (.or (.cmp .ne (.v 17) (.call n_l_due_2 (.cons (.v 13) (.cons (.v 14) (.cons (.v 15) .nil))))) (.cmp .ne (.bi .rep (.cons (.lst (.cons (.v 13) (.cons (.v 14) (.cons (.v 15) .nil)))) .nil)) (.v 16))) (.cons (.ret (.c (.bl false))) .nil) .nil) .nil)))))
def b_law_k21_1 : Ss := (.cons (.set 4 (.call n_l_grounds (.cons (.v 2) .nil))) (.cons (.par 5 false 6 false (.call n_l_standing (.cons (.v 2) (.cons (.v 4) .nil))) (.ix (.lst (.cons (.c (.int 0)) (.cons (.c (.int 1)) (.cons (.c (.int 6)) (.cons (.c (.int 40)) .nil))))) (.call n_l_take (.cons (.v 2) (.cons (.c (.int 4)) .nil))))) (.cons (.set 7 (.call n_l_course (.cons (.v 2) (.cons (.v 4) (.cons (.v 5) (.cons (.v 6) .nil)))))) (.cons (.par 8 false 9 false (.call n_l_catches (.cons (.v 4) .nil)) (.call n_l_take (.cons (.v 2) (.cons (.bin .add (.v 6) (.c (.int 1))) .nil)))) (.cons (.set 10 (.bin .add (.bin .add (.slt (.v 7) (.v 9)) (.tup (.cons (.ix (.v 8) (.call n_l_take (.cons (.v 2) (.cons (.bi .len (.cons (.v 8) .nil)) .nil)))) .nil))) (.slf (.v 7) (.v 9)))) (.cons (.own 11 (.lst (.cons (.tup (.cons (.v 4) (.cons (.v 5) (.cons (.v 7) .nil)))) (.cons (.tup (.cons (.v 4) (.cons (.v 5) (.cons (.v 10) .nil)))) (.cons (.tup (.cons (.v 4) (.cons (.v 5) (.cons (.rev (.v 7)) .nil)))) .nil))))) (.cons (.own 11 (.bin .add (.v 11) (.lst (.cons (.tup (.cons (.v 4) (.cons (.v 5) (.cons (.bin .mul (.tup (.cons (.tup .nil) .nil)) (.c (.int 150))) .nil)))) (.cons (.tup (.cons (.v 4) (.cons (.v 5) (.cons (.bin .mul (.tup (.cons (.tup .nil) .nil)) (.c (.int 151))) .nil)))) .nil))))) (.cons (.app 11 (.tup (.cons (.v 4) (.cons (.v 5) (.cons (.lst (.cons (.tup .nil) .nil)) .nil))))) (.cons (.app 11 (.tup (.cons (.v 4) (.cons (.v 5) (.cons (.call n_l_spoil (.cons (.v 2) (.cons (.v 10) (.cons (.call n_l_odd (.cons (.v 2) .nil)) .nil)))) .nil))))) (.cons (.own 12 (.lst (.cons (.v 4) (.cons (.v 5) (.cons (.v 7) .nil))))) (.cons (.si 12 (.call n_l_take (.cons (.v 2) (.cons (.c (.int 3)) .nil))) (.call n_l_odd (.cons (.v 2) .nil))) (.cons (.si 12 (.call n_l_take (.cons (.v 2) (.cons (.c (.int 3)) .nil))) (.call n_l_odd (.cons (.v 2) .nil))) (.cons (.for (.seq (.bin .add (.v 11) (.lst (.cons (.bi .tuple (.cons (.v 12) .nil)) .nil)))) (.t [13, 14, 15]) b_law_k21_0) (.cons (.ownf 18 n_sales (.cons (.v 4) (.cons (.v 5) (.cons (.v 7) .nil)))) (.cons (.app 18 (.c (.int 9))) (.cons (.ite (.cmp .ne (.call n_sales (.cons (.v 4) (.cons (.v 5) (.cons (.v 7) .nil)))) (.slt (.v 18) (.neg (.c (.int 1))))) (.cons (.ret (.c (.bl false))) .nil) .nil) .nil))))))))))))))))
def b_law_k21_2 : Ss := (.cons (.set 2 (.call n_l_box (.cons (.v 0) (.cons (.v 1) .nil)))) (.cons (.for (.rng (.c (.int 4))) (.n 3) b_law_k21_1) .nil))
def f_law_k21 : Fn := ⟨1, 19, (.cons (.for (.rng (.bi .max2 (.cons (.c (.int 1)) (.cons (.bi .min2 (.cons (.bi .len (.cons (.v 0) .nil)) (.cons (.c (.int 3)) .nil))) .nil)))) (.n 1) b_law_k21_2) (.cons (.ret (.c (.bl true))) .nil))⟩
/-- every def by its number -/
def tab : List (Nat × Fn) := [(0, f_is_whole), (1, f_is_from_to), (2, f_is_bed), (3, f_most_of), (4, f_many_in), (5, f_is_grounds), (6, f_need_grounds), (9, f_l_box), (10, f_l_take), (12, f_are_rising), (13, f_is_standing_of), (15, f_is_catch_of), (18, f_l_is_from_to), (19, f_l_spoil), (20, f_l_odd), (21, f_l_rising), (22, f_l_most), (23, f_l_many), (24, f_l_grounds), (25, f_l_is_grounds), (26, f_l_is_standing), (27, f_l_is_catch), (28, f_l_standing), (29, f_l_catches), (33, f_need_standing), (34, f_may_go), (35, f_baskets_in), (36, f_next_of), (42, f_l_can), (43, f_l_sold), (44, f_l_next), (47, f_is_course), (48, f_need_course), (49, f_gone_through), (50, f_first_break), (51, f_whole_way), (52, f_sales), (53, f_end_of), (54, f_l_is_course), (55, f_l_let), (56, f_l_course), (57, f_l_gone), (58, f_l_due_2), (59, f_law_k21)]
def G (n : Nat) : Option Fn := tab.lookup n
end Tv
end

section
set_option autoImplicit false
set_option maxHeartbeats 1000000
/-! Running trees by rewriting. -/
namespace Tv
open PySem
abbrev Kvs := List (D × D)
section
variable {cl : Nat → List D → Hs → R D}
@[simp] theorem e_c {d : D} {e : Ev} {h : Hs} : evE cl (.c d) e h = .ok d h := id rfl
@[simp] theorem e_g {x : Str} {d : D} {e : Ev} {h : Hs} : evE cl (.g x d) e h = .ok d h := id rfl
@[simp] theorem e_v {i : Nat} {e : Ev} {h : Hs} : evE cl (.v i) e h = R.of (evV e i) h := id rfl
def kBin2 (cl : Nat → List D → Hs → R D) (o : Bop) (y : D) (r : R (D)) : R (D) := r.bind fun x h => R.of (dBin o y x) h
@[simp] theorem kBin2_ok {o : Bop} {y : D} {x : D} {h : Hs} : kBin2 cl o y (.ok x h) = R.of (dBin o y x) h := id rfl
@[simp] theorem kBin2_exc {o : Bop} {y : D} {x : D} {h : Hs} : kBin2 cl o y (.exc x h) = .exc x h := id rfl
def kBin (cl : Nat → List D → Hs → R D) (o : Bop) (b : E) (e : Ev) (r : R (D)) : R (D) := r.bind fun x h => kBin2 cl o x (evE cl b e h)
@[simp] theorem kBin_ok {o : Bop} {b : E} {e : Ev} {x : D} {h : Hs} : kBin cl o b e (.ok x h) = kBin2 cl o x (evE cl b e h) := id rfl
@[simp] theorem kBin_exc {o : Bop} {b : E} {e : Ev} {x : D} {h : Hs} : kBin cl o b e (.exc x h) = .exc x h := id rfl
@[simp] theorem e_bin {o : Bop} {a b : E} {e : Ev} {h : Hs} : evE cl (.bin o a b) e h = kBin cl o b e (evE cl a e h) := id rfl
def negR (x : D) (h : Hs) : R D := match x with | .int i => .ok (.int (-i)) h | _ => .bad
@[simp] theorem negR_int {i : Int} {h : Hs} : negR (.int i) h = .ok (.int (-i)) h := id rfl
def kNeg (cl : Nat → List D → Hs → R D)  (r : R (D)) : R (D) := r.bind fun x h => negR x h
@[simp] theorem kNeg_ok  {x : D} {h : Hs} : kNeg cl  (.ok x h) = negR x h := id rfl
@[simp] theorem kNeg_exc  {x : D} {h : Hs} : kNeg cl  (.exc x h) = .exc x h := id rfl
@[simp] theorem e_neg {a : E} {e : Ev} {h : Hs} : evE cl (.neg a) e h = kNeg cl (evE cl a e h) := id rfl
def kNot (cl : Nat → List D → Hs → R D)  (r : R (D)) : R (D) := r.bind fun x h => R.of (x.tru.map fun b => .bl (!b)) h
@[simp] theorem kNot_ok  {x : D} {h : Hs} : kNot cl  (.ok x h) = R.of (x.tru.map fun b => .bl (!b)) h := id rfl
@[simp] theorem kNot_exc  {x : D} {h : Hs} : kNot cl  (.exc x h) = .exc x h := id rfl
@[simp] theorem e_not {a : E} {e : Ev} {h : Hs} : evE cl (.not a) e h = kNot cl (evE cl a e h) := id rfl
def cAnd (cl : Nat → List D → Hs → R D) (b : E) (e : Ev) (x : D) (h : Hs) (o : Option Bool) : R (D) := match o with | some true => evE cl b e h | some false => .ok x h | none => .bad
@[simp] theorem cAnd_t {b : E} {e : Ev} {x : D} {h : Hs} : cAnd cl b e x h (some true) = evE cl b e h := id rfl
@[simp] theorem cAnd_f {b : E} {e : Ev} {x : D} {h : Hs} : cAnd cl b e x h (some false) = .ok x h := id rfl
def cOr (cl : Nat → List D → Hs → R D) (b : E) (e : Ev) (x : D) (h : Hs) (o : Option Bool) : R (D) := match o with | some true => .ok x h | some false => evE cl b e h | none => .bad
@[simp] theorem cOr_t {b : E} {e : Ev} {x : D} {h : Hs} : cOr cl b e x h (some true) = .ok x h := id rfl
@[simp] theorem cOr_f {b : E} {e : Ev} {x : D} {h : Hs} : cOr cl b e x h (some false) = evE cl b e h := id rfl
def cIte (cl : Nat → List D → Hs → R D) (a : E) (b : E) (e : Ev) (h : Hs) (o : Option Bool) : R (D) := match o with | some true => evE cl a e h | some false => evE cl b e h | none => .bad
@[simp] theorem cIte_t {a : E} {b : E} {e : Ev} {h : Hs} : cIte cl a b e h (some true) = evE cl a e h := id rfl
@[simp] theorem cIte_f {a : E} {b : E} {e : Ev} {h : Hs} : cIte cl a b e h (some false) = evE cl b e h := id rfl
def kAnd (cl : Nat → List D → Hs → R D) (b : E) (e : Ev) (r : R (D)) : R (D) := r.bind fun x h => cAnd cl b e x h x.tru
@[simp] theorem kAnd_ok {b : E} {e : Ev} {x : D} {h : Hs} : kAnd cl b e (.ok x h) = cAnd cl b e x h x.tru := id rfl
@[simp] theorem kAnd_exc {b : E} {e : Ev} {x : D} {h : Hs} : kAnd cl b e (.exc x h) = .exc x h := id rfl
def kOr (cl : Nat → List D → Hs → R D) (b : E) (e : Ev) (r : R (D)) : R (D) := r.bind fun x h => cOr cl b e x h x.tru
@[simp] theorem kOr_ok {b : E} {e : Ev} {x : D} {h : Hs} : kOr cl b e (.ok x h) = cOr cl b e x h x.tru := id rfl
@[simp] theorem kOr_exc {b : E} {e : Ev} {x : D} {h : Hs} : kOr cl b e (.exc x h) = .exc x h := id rfl
def kIte (cl : Nat → List D → Hs → R D) (a : E) (b : E) (e : Ev) (r : R (D)) : R (D) := r.bind fun x h => cIte cl a b e h x.tru
@[simp] theorem kIte_ok {a : E} {b : E} {e : Ev} {x : D} {h : Hs} : kIte cl a b e (.ok x h) = cIte cl a b e h x.tru := id rfl
@[simp] theorem kIte_exc {a : E} {b : E} {e : Ev} {x : D} {h : Hs} : kIte cl a b e (.exc x h) = .exc x h := id rfl
@[simp] theorem e_and {a b : E} {e : Ev} {h : Hs} : evE cl (.and a b) e h = kAnd cl b e (evE cl a e h) := id rfl
@[simp] theorem e_or {a b : E} {e : Ev} {h : Hs} : evE cl (.or a b) e h = kOr cl b e (evE cl a e h) := id rfl
@[simp] theorem e_ite {c a b : E} {e : Ev} {h : Hs} : evE cl (.ite c a b) e h = kIte cl a b e (evE cl c e h) := id rfl
def kCmp2 (cl : Nat → List D → Hs → R D) (o : Cop) (y : D) (r : R (D)) : R (D) := r.bind fun x h => R.of ((dCmp o y x).map .bl) h
@[simp] theorem kCmp2_ok {o : Cop} {y : D} {x : D} {h : Hs} : kCmp2 cl o y (.ok x h) = R.of ((dCmp o y x).map .bl) h := id rfl
@[simp] theorem kCmp2_exc {o : Cop} {y : D} {x : D} {h : Hs} : kCmp2 cl o y (.exc x h) = .exc x h := id rfl
def kCmp (cl : Nat → List D → Hs → R D) (o : Cop) (b : E) (e : Ev) (r : R (D)) : R (D) := r.bind fun x h => kCmp2 cl o x (evE cl b e h)
@[simp] theorem kCmp_ok {o : Cop} {b : E} {e : Ev} {x : D} {h : Hs} : kCmp cl o b e (.ok x h) = kCmp2 cl o x (evE cl b e h) := id rfl
@[simp] theorem kCmp_exc {o : Cop} {b : E} {e : Ev} {x : D} {h : Hs} : kCmp cl o b e (.exc x h) = .exc x h := id rfl
@[simp] theorem e_cmp {o : Cop} {a b : E} {e : Ev} {h : Hs} : evE cl (.cmp o a b) e h = kCmp cl o b e (evE cl a e h) := id rfl
def cChn (cl : Nat → List D → Hs → R D) (p : Cop) (c : E) (e : Ev) (y : D) (h : Hs) (o : Option Bool) : R (D) := match o with | some true => kCmp2 cl p y (evE cl c e h) | some false => .ok (.bl false) h | none => .bad
@[simp] theorem cChn_t {p : Cop} {c : E} {e : Ev} {y : D} {h : Hs} : cChn cl p c e y h (some true) = kCmp2 cl p y (evE cl c e h) := id rfl
@[simp] theorem cChn_f {p : Cop} {c : E} {e : Ev} {y : D} {h : Hs} : cChn cl p c e y h (some false) = .ok (.bl false) h := id rfl
def kChn2 (cl : Nat → List D → Hs → R D) (o : Cop) (p : Cop) (c : E) (e : Ev) (z : D) (r : R (D)) : R (D) := r.bind fun x h => cChn cl p c e x h (dCmp o z x)
@[simp] theorem kChn2_ok {o : Cop} {p : Cop} {c : E} {e : Ev} {z : D} {x : D} {h : Hs} : kChn2 cl o p c e z (.ok x h) = cChn cl p c e x h (dCmp o z x) := id rfl
@[simp] theorem kChn2_exc {o : Cop} {p : Cop} {c : E} {e : Ev} {z : D} {x : D} {h : Hs} : kChn2 cl o p c e z (.exc x h) = .exc x h := id rfl
def kChn (cl : Nat → List D → Hs → R D) (o : Cop) (p : Cop) (b : E) (c : E) (e : Ev) (r : R (D)) : R (D) := r.bind fun x h => kChn2 cl o p c e x (evE cl b e h)
@[simp] theorem kChn_ok {o : Cop} {p : Cop} {b : E} {c : E} {e : Ev} {x : D} {h : Hs} : kChn cl o p b c e (.ok x h) = kChn2 cl o p c e x (evE cl b e h) := id rfl
@[simp] theorem kChn_exc {o : Cop} {p : Cop} {b : E} {c : E} {e : Ev} {x : D} {h : Hs} : kChn cl o p b c e (.exc x h) = .exc x h := id rfl
@[simp] theorem e_chn {o p : Cop} {a b c : E} {e : Ev} {h : Hs} : evE cl (.chn o p a b c) e h = kChn cl o p b c e (evE cl a e h) := id rfl
def kCall (cl : Nat → List D → Hs → R D) (f : Nat) (r : R (List D)) : R (D) := r.bind fun x h => cl f x h
@[simp] theorem kCall_ok {f : Nat} {x : List D} {h : Hs} : kCall cl f (.ok x h) = cl f x h := id rfl
@[simp] theorem kCall_exc {f : Nat} {x : D} {h : Hs} : kCall cl f (.exc x h) = .exc x h := id rfl
def kCld (cl : Nat → List D → Hs → R D) (f : Nat) (i : Int) (r : R (List D)) : R (D) := r.bind fun x h => cl f (x ++ [.int i]) h
@[simp] theorem kCld_ok {f : Nat} {i : Int} {x : List D} {h : Hs} : kCld cl f i (.ok x h) = cl f (x ++ [.int i]) h := id rfl
@[simp] theorem kCld_exc {f : Nat} {i : Int} {x : D} {h : Hs} : kCld cl f i (.exc x h) = .exc x h := id rfl
@[simp] theorem e_cld {f : Nat} {es : Es} {i : Int} {e : Ev} {h : Hs} : evE cl (.cld f es i) e h = kCld cl f i (evEs cl es e h) := id rfl
@[simp] theorem e_call {f : Nat} {es : Es} {e : Ev} {h : Hs} : evE cl (.call f es) e h = kCall cl f (evEs cl es e h) := id rfl
def kBi (cl : Nat → List D → Hs → R D) (b : Bi) (r : R (List D)) : R (D) := r.bind fun x h => R.of (dBi b x) h
@[simp] theorem kBi_ok {b : Bi} {x : List D} {h : Hs} : kBi cl b (.ok x h) = R.of (dBi b x) h := id rfl
@[simp] theorem kBi_exc {b : Bi} {x : D} {h : Hs} : kBi cl b (.exc x h) = .exc x h := id rfl
@[simp] theorem e_bi {b : Bi} {es : Es} {e : Ev} {h : Hs} : evE cl (.bi b es) e h = kBi cl b (evEs cl es e h) := id rfl
def kMe2 (cl : Nat → List D → Hs → R D) (m : Bi) (y : D) (r : R (D)) : R (D) := r.bind fun x h => R.of (dBi m [y, x]) h
@[simp] theorem kMe2_ok {m : Bi} {y : D} {x : D} {h : Hs} : kMe2 cl m y (.ok x h) = R.of (dBi m [y, x]) h := id rfl
@[simp] theorem kMe2_exc {m : Bi} {y : D} {x : D} {h : Hs} : kMe2 cl m y (.exc x h) = .exc x h := id rfl
def cMe (cl : Nat → List D → Hs → R D) (m : Bi) (b : E) (e : Ev) (x : D) (h : Hs) (o : Bool) : R D := if o then kMe2 cl m x (evE cl b e h) else .bad
def kMe (cl : Nat → List D → Hs → R D) (m : Bi) (b : E) (e : Ev) (r : R (D)) : R (D) := r.bind fun x h => cMe cl m b e x h (rcvOk m x)
@[simp] theorem kMe_ok {m : Bi} {b : E} {e : Ev} {x : D} {h : Hs} : kMe cl m b e (.ok x h) = cMe cl m b e x h (rcvOk m x) := id rfl
@[simp] theorem kMe_exc {m : Bi} {b : E} {e : Ev} {x : D} {h : Hs} : kMe cl m b e (.exc x h) = .exc x h := id rfl
@[simp] theorem cMe_t {m : Bi} {b : E} {e : Ev} {x : D} {h : Hs} : cMe cl m b e x h true = kMe2 cl m x (evE cl b e h) := id rfl
@[simp] theorem e_me {m : Bi} {a b : E} {e : Ev} {h : Hs} : evE cl (.me m a b) e h = kMe cl m b e (evE cl a e h) := id rfl
def kIsi (cl : Nat → List D → Hs → R D) (t : Ty) (r : R (D)) : R (D) := r.bind fun x h => R.of ((dIsi t x).map .bl) h
@[simp] theorem kIsi_ok {t : Ty} {x : D} {h : Hs} : kIsi cl t (.ok x h) = R.of ((dIsi t x).map .bl) h := id rfl
@[simp] theorem kIsi_exc {t : Ty} {x : D} {h : Hs} : kIsi cl t (.exc x h) = .exc x h := id rfl
@[simp] theorem e_isi {a : E} {t : Ty} {e : Ev} {h : Hs} : evE cl (.isi a t) e h = kIsi cl t (evE cl a e h) := id rfl
/-- a subscript -/
def ixR (x y : D) (h : Hs) : R D := match x with
  | .ref i => (match h[i]? with
    | some (.lst xs) => (match y with
      | .int j => R.of (L2.atI xs j) h
      | _ => .bad)
    | _ => .bad)
  | x => R.of (dIx x y) h
@[simp] theorem ixR_tup {xs : List D} {y : D} {h : Hs} : ixR (.tup xs) y h = R.of (dIx (.tup xs) y) h := id rfl
@[simp] theorem ixR_lst {xs : List D} {y : D} {h : Hs} : ixR (.lst xs) y h = R.of (dIx (.lst xs) y) h := id rfl
@[simp] theorem ixR_bor {xs : List D} {y : D} {h : Hs} : ixR (.bor xs) y h = R.of (dIx (.bor xs) y) h := id rfl
@[simp] theorem ixR_scr {xs : List D} {y : D} {h : Hs} : ixR (.scr xs) y h = R.of (dIx (.scr xs) y) h := id rfl
@[simp] theorem ixR_str {xs : Str} {y : D} {h : Hs} : ixR (.str xs) y h = R.of (dIx (.str xs) y) h := id rfl
def kIx2 (cl : Nat → List D → Hs → R D) (y : D) (r : R (D)) : R (D) := r.bind fun x h => ixR y x h
@[simp] theorem kIx2_ok {y : D} {x : D} {h : Hs} : kIx2 cl y (.ok x h) = ixR y x h := id rfl
@[simp] theorem kIx2_exc {y : D} {x : D} {h : Hs} : kIx2 cl y (.exc x h) = .exc x h := id rfl
def kIx (cl : Nat → List D → Hs → R D) (b : E) (e : Ev) (r : R (D)) : R (D) := r.bind fun x h => kIx2 cl x (evE cl b e h)
@[simp] theorem kIx_ok {b : E} {e : Ev} {x : D} {h : Hs} : kIx cl b e (.ok x h) = kIx2 cl x (evE cl b e h) := id rfl
@[simp] theorem kIx_exc {b : E} {e : Ev} {x : D} {h : Hs} : kIx cl b e (.exc x h) = .exc x h := id rfl
@[simp] theorem e_ix {a b : E} {e : Ev} {h : Hs} : evE cl (.ix a b) e h = kIx cl b e (evE cl a e h) := id rfl
def slR (x y z : D) (h : Hs) : R D := match y with | .int i => (match z with | .int j => R.of (dSl x (some i) (some j)) h | _ => .bad) | _ => .bad
def slfR (x y : D) (h : Hs) : R D := match y with | .int i => R.of (dSl x (some i) none) h | _ => .bad
def sltR (x y : D) (h : Hs) : R D := match y with | .int i => R.of (dSl x none (some i)) h | _ => .bad
@[simp] theorem slfR_int {x : D} {i : Int} {h : Hs} : slfR x (.int i) h = R.of (dSl x (some i) none) h := id rfl
@[simp] theorem sltR_int {x : D} {i : Int} {h : Hs} : sltR x (.int i) h = R.of (dSl x none (some i)) h := id rfl
def kSlf2 (cl : Nat → List D → Hs → R D) (y : D) (r : R (D)) : R (D) := r.bind fun x h => slfR y x h
@[simp] theorem kSlf2_ok {y : D} {x : D} {h : Hs} : kSlf2 cl y (.ok x h) = slfR y x h := id rfl
@[simp] theorem kSlf2_exc {y : D} {x : D} {h : Hs} : kSlf2 cl y (.exc x h) = .exc x h := id rfl
def kSlf (cl : Nat → List D → Hs → R D) (b : E) (e : Ev) (r : R (D)) : R (D) := r.bind fun x h => kSlf2 cl x (evE cl b e h)
@[simp] theorem kSlf_ok {b : E} {e : Ev} {x : D} {h : Hs} : kSlf cl b e (.ok x h) = kSlf2 cl x (evE cl b e h) := id rfl
@[simp] theorem kSlf_exc {b : E} {e : Ev} {x : D} {h : Hs} : kSlf cl b e (.exc x h) = .exc x h := id rfl
@[simp] theorem e_slf {a b : E} {e : Ev} {h : Hs} : evE cl (.slf a b) e h = kSlf cl b e (evE cl a e h) := id rfl
def kSlt2 (cl : Nat → List D → Hs → R D) (y : D) (r : R (D)) : R (D) := r.bind fun x h => sltR y x h
@[simp] theorem kSlt2_ok {y : D} {x : D} {h : Hs} : kSlt2 cl y (.ok x h) = sltR y x h := id rfl
@[simp] theorem kSlt2_exc {y : D} {x : D} {h : Hs} : kSlt2 cl y (.exc x h) = .exc x h := id rfl
def kSlt (cl : Nat → List D → Hs → R D) (b : E) (e : Ev) (r : R (D)) : R (D) := r.bind fun x h => kSlt2 cl x (evE cl b e h)
@[simp] theorem kSlt_ok {b : E} {e : Ev} {x : D} {h : Hs} : kSlt cl b e (.ok x h) = kSlt2 cl x (evE cl b e h) := id rfl
@[simp] theorem kSlt_exc {b : E} {e : Ev} {x : D} {h : Hs} : kSlt cl b e (.exc x h) = .exc x h := id rfl
@[simp] theorem e_slt {a b : E} {e : Ev} {h : Hs} : evE cl (.slt a b) e h = kSlt cl b e (evE cl a e h) := id rfl
def slI (cl : Nat → List D → Hs → R D) (c : E) (e : Ev) (x y : D) (h : Hs) : R D := match y with | .int i => (evE cl c e h).bind fun z h => (match z with | .int j => R.of (dSl x (some i) (some j)) h | _ => .bad) | _ => .bad
def slJ (x : D) (i : Int) (z : D) (h : Hs) : R D := match z with | .int j => R.of (dSl x (some i) (some j)) h | _ => .bad
@[simp] theorem slJ_int {x : D} {i j : Int} {h : Hs} : slJ x i (.int j) h = R.of (dSl x (some i) (some j)) h := id rfl
def kSl3 (cl : Nat → List D → Hs → R D) (y : D) (i : Int) (r : R (D)) : R (D) := r.bind fun x h => slJ y i x h
@[simp] theorem kSl3_ok {y : D} {i : Int} {x : D} {h : Hs} : kSl3 cl y i (.ok x h) = slJ y i x h := id rfl
@[simp] theorem kSl3_exc {y : D} {i : Int} {x : D} {h : Hs} : kSl3 cl y i (.exc x h) = .exc x h := id rfl
@[simp] theorem slI_int {c : E} {e : Ev} {x : D} {i : Int} {h : Hs} : slI cl c e x (.int i) h = kSl3 cl x i (evE cl c e h) := id rfl
def kSl2 (cl : Nat → List D → Hs → R D) (c : E) (e : Ev) (y : D) (r : R (D)) : R (D) := r.bind fun x h => slI cl c e y x h
@[simp] theorem kSl2_ok {c : E} {e : Ev} {y : D} {x : D} {h : Hs} : kSl2 cl c e y (.ok x h) = slI cl c e y x h := id rfl
@[simp] theorem kSl2_exc {c : E} {e : Ev} {y : D} {x : D} {h : Hs} : kSl2 cl c e y (.exc x h) = .exc x h := id rfl
def kSl (cl : Nat → List D → Hs → R D) (b : E) (c : E) (e : Ev) (r : R (D)) : R (D) := r.bind fun x h => kSl2 cl c e x (evE cl b e h)
@[simp] theorem kSl_ok {b : E} {c : E} {e : Ev} {x : D} {h : Hs} : kSl cl b c e (.ok x h) = kSl2 cl c e x (evE cl b e h) := id rfl
@[simp] theorem kSl_exc {b : E} {c : E} {e : Ev} {x : D} {h : Hs} : kSl cl b c e (.exc x h) = .exc x h := id rfl
@[simp] theorem e_sl {a b c : E} {e : Ev} {h : Hs} : evE cl (.sl a b c) e h = kSl cl b c e (evE cl a e h) := id rfl
def kRev (cl : Nat → List D → Hs → R D)  (r : R (D)) : R (D) := r.bind fun x h => R.of (dRev x) h
@[simp] theorem kRev_ok  {x : D} {h : Hs} : kRev cl  (.ok x h) = R.of (dRev x) h := id rfl
@[simp] theorem kRev_exc  {x : D} {h : Hs} : kRev cl  (.exc x h) = .exc x h := id rfl
@[simp] theorem e_rev {a : E} {e : Ev} {h : Hs} : evE cl (.rev a) e h = kRev cl (evE cl a e h) := id rfl
def kTup (cl : Nat → List D → Hs → R D)  (r : R (List D)) : R (D) := r.bind fun x h => if x.all D.keep then .ok (.tup x) h else .bad
@[simp] theorem kTup_ok  {x : List D} {h : Hs} : kTup cl  (.ok x h) = if x.all D.keep then .ok (.tup x) h else .bad := id rfl
@[simp] theorem kTup_exc  {x : D} {h : Hs} : kTup cl  (.exc x h) = .exc x h := id rfl
@[simp] theorem e_tup {es : Es} {e : Ev} {h : Hs} : evE cl (.tup es) e h = kTup cl (evEs cl es e h) := id rfl
def kLst (cl : Nat → List D → Hs → R D)  (r : R (List D)) : R (D) := r.bind fun x h => if x.all D.keep then .ok (.lst x) h else .bad
@[simp] theorem kLst_ok  {x : List D} {h : Hs} : kLst cl  (.ok x h) = if x.all D.keep then .ok (.lst x) h else .bad := id rfl
@[simp] theorem kLst_exc  {x : D} {h : Hs} : kLst cl  (.exc x h) = .exc x h := id rfl
@[simp] theorem e_lst {es : Es} {e : Ev} {h : Hs} : evE cl (.lst es) e h = kLst cl (evEs cl es e h) := id rfl
def kMls (cl : Nat → List D → Hs → R D)  (r : R (List D)) : R (D) := r.bind fun x h => if x.all D.keep then .ok (.ref h.length) (h ++ [.lst x]) else .bad
@[simp] theorem kMls_ok  {x : List D} {h : Hs} : kMls cl  (.ok x h) = if x.all D.keep then .ok (.ref h.length) (h ++ [.lst x]) else .bad := id rfl
@[simp] theorem kMls_exc  {x : D} {h : Hs} : kMls cl  (.exc x h) = .exc x h := id rfl
@[simp] theorem e_mls {es : Es} {e : Ev} {h : Hs} : evE cl (.mls es) e h = kMls cl (evEs cl es e h) := id rfl
@[simp] theorem e_dic {kvs : List (Int × Int)} {e : Ev} {h : Hs} : evE cl (.dic kvs) e h = .ok (.dct kvs) h := id rfl
@[simp] theorem es_nil {e : Ev} {h : Hs} : evEs cl .nil e h = .ok [] h := id rfl
def kEs2 (cl : Nat → List D → Hs → R D) (d : D) (r : R (List D)) : R (List D) := r.bind fun x h => .ok (d :: x) h
@[simp] theorem kEs2_ok {d : D} {x : List D} {h : Hs} : kEs2 cl d (.ok x h) = .ok (d :: x) h := id rfl
@[simp] theorem kEs2_exc {d : D} {x : D} {h : Hs} : kEs2 cl d (.exc x h) = .exc x h := id rfl
def kEs (cl : Nat → List D → Hs → R D) (r0 : Es) (e : Ev) (r : R (D)) : R (List D) := r.bind fun x h => kEs2 cl x (evEs cl r0 e h)
@[simp] theorem kEs_ok {r0 : Es} {e : Ev} {x : D} {h : Hs} : kEs cl r0 e (.ok x h) = kEs2 cl x (evEs cl r0 e h) := id rfl
@[simp] theorem kEs_exc {r0 : Es} {e : Ev} {x : D} {h : Hs} : kEs cl r0 e (.exc x h) = .exc x h := id rfl
@[simp] theorem es_cons {a : E} {r : Es} {e : Ev} {h : Hs} : evEs cl (.cons a r) e h = kEs cl r e (evE cl a e h) := id rfl
/-- one turn of a comprehension, its target set -/
def oneC (cl : Nat → List D → Hs → R D) (t : T) (c x : E) (d : D) (e : Ev) (h : Hs) : R (Option D) := match putT t d e with
  | none => .bad
  | some e' => (evE cl c e' h).bind fun q h => match q.tru with
    | some true => (evE cl x e' h).bind fun y h => if y.keep then .ok (some y) h else .bad
    | some false => .ok none h
    | none => .bad
def kOne2 (cl : Nat → List D → Hs → R D)  (r : R (D)) : R (Option D) := r.bind fun x h => if x.keep then .ok (some x) h else .bad
@[simp] theorem kOne2_ok  {x : D} {h : Hs} : kOne2 cl  (.ok x h) = if x.keep then .ok (some x) h else .bad := id rfl
@[simp] theorem kOne2_exc  {x : D} {h : Hs} : kOne2 cl  (.exc x h) = .exc x h := id rfl
def cOne (cl : Nat → List D → Hs → R D) (x : E) (e : Ev) (h : Hs) (o : Option Bool) : R (Option D) := match o with | some true => kOne2 cl (evE cl x e h) | some false => .ok none h | none => .bad
@[simp] theorem cOne_t {x : E} {e : Ev} {h : Hs} : cOne cl x e h (some true) = kOne2 cl (evE cl x e h) := id rfl
@[simp] theorem cOne_f {x : E} {e : Ev} {h : Hs} : cOne cl x e h (some false) = .ok none h := id rfl
def kOne (cl : Nat → List D → Hs → R D) (y : E) (e : Ev) (r : R (D)) : R (Option D) := r.bind fun x h => cOne cl y e h x.tru
@[simp] theorem kOne_ok {y : E} {e : Ev} {x : D} {h : Hs} : kOne cl y e (.ok x h) = cOne cl y e h x.tru := id rfl
@[simp] theorem kOne_exc {y : E} {e : Ev} {x : D} {h : Hs} : kOne cl y e (.exc x h) = .exc x h := id rfl
def oneP (cl : Nat → List D → Hs → R D) (c x : E) (h : Hs) (p : Option Ev) : R (Option D) := match p with | none => .bad | some e => kOne cl x e (evE cl c e h)
@[simp] theorem oneC_p {t : T} {c x : E} {d : D} {e : Ev} {h : Hs} : oneC cl t c x d e h = oneP cl c x h (putT t d e) := by unfold oneC oneP; cases putT t d e <;> rfl
@[simp] theorem oneP_some {c x : E} {e : Ev} {h : Hs} : oneP cl c x h (some e) = kOne cl x e (evE cl c e h) := id rfl
def compB (cl : Nat → List D → Hs → R D) (t : T) (c x : E) (xs : List D) (e : Ev) (h : Hs) : R (List D) := compL (fun d h => oneC cl t c x d e h) xs h
@[simp] theorem compB_nil {t : T} {c x : E} {e : Ev} {h : Hs} : compB cl t c x [] e h = .ok [] h := rfl
theorem compB_cons {t : T} {c x : E} {d : D} {ds : List D} {e : Ev} {h : Hs} : compB cl t c x (d :: ds) e h = (oneC cl t c x d e h).bind fun o h => (compB cl t c x ds e h).bind fun ys h => .ok (match o with | some y => y :: ys | none => ys) h := rfl
/-- a comprehension that changes nothing -/
theorem compB_map {α : Type} {t : T} {c x : E} {e : Ev} {h : Hs} {enc : α → D} {p : α → Bool} {g : α → D} : ∀ {xs : List α}, (∀ a ∈ xs, oneC cl t c x (enc a) e h = .ok (if p a then some (g a) else none) h) → compB cl t c x (xs.map enc) e h = .ok ((xs.filter p).map g) h
  | [], _ => rfl
  | a :: xs, q => by
    rw [List.map_cons, compB_cons, q a List.mem_cons_self, R.bind_ok, compB_map fun b hb => q b (List.mem_cons_of_mem _ hb), R.bind_ok, List.filter_cons]
    cases p a <;> rfl
theorem compB_all {α : Type} {t : T} {c x : E} {e : Ev} {h : Hs} {enc : α → D} {g : α → D} {xs : List α} (q : ∀ a ∈ xs, oneC cl t c x (enc a) e h = .ok (some (g a)) h) : compB cl t c x (xs.map enc) e h = .ok (xs.map g) h := by
  have z := compB_map (cl := cl) (t := t) (c := c) (x := x) (e := e) (h := h) (enc := enc) (p := fun _ => true) (g := g) (xs := xs) (fun a ha => by rw [q a ha]; rfl)
  rw [z, List.filter_eq_self.mpr (fun _ _ => rfl)]
/-- a comprehension over items one by one, the heap turning -/
theorem compB_run {α : Type} {t : T} {c x : E} {e : Ev} (I : Hs → Prop) (P : D → Prop) {enc : α → D} : ∀ {xs : List α} {h : Hs}, I h → (∀ a ∈ xs, ∀ h, I h → ∃ d h', oneC cl t c x (enc a) e h = .ok (some d) h' ∧ P d ∧ I h') → ∃ ds h', compB cl t c x (xs.map enc) e h = .ok ds h' ∧ ds.length = xs.length ∧ (∀ d ∈ ds, P d) ∧ I h'
  | [], h, i, _ => ⟨[], h, rfl, rfl, fun _ q => (by cases q), i⟩
  | a :: xs, h, i, q => by
    obtain ⟨d, h1, e1, p1, i1⟩ := q a List.mem_cons_self h i
    obtain ⟨ds, h2, e2, l2, p2, i2⟩ := compB_run I P (xs := xs) i1 fun b hb => q b (List.mem_cons_of_mem _ hb)
    refine ⟨d :: ds, h2, ?_, by simp [l2], fun z hz => ?_, i2⟩
    · rw [List.map_cons, compB_cons, e1, R.bind_ok, e2, R.bind_ok]
    · rcases List.mem_cons.mp hz with rfl | hz
      · exact p1
      · exact p2 z hz
def kComp2 (cl : Nat → List D → Hs → R D)  (r : R (List D)) : R (D) := r.bind fun x h => .ok (.lst x) h
@[simp] theorem kComp2_ok  {x : List D} {h : Hs} : kComp2 cl  (.ok x h) = .ok (.lst x) h := id rfl
@[simp] theorem kComp2_exc  {x : D} {h : Hs} : kComp2 cl  (.exc x h) = .exc x h := id rfl
def cComp (cl : Nat → List D → Hs → R D) (t : T) (w : List Nat) (c x : E) (e : Ev) (xs : List D) (h : Hs) : R D := if xs.length ≤ LIM then kComp2 cl (compB cl t c x xs (e.wipe w) h).calm else .bad
@[simp] theorem cComp_eq {t : T} {w : List Nat} {c x : E} {e : Ev} {xs : List D} {h : Hs} : cComp cl t w c x e xs h = if xs.length ≤ LIM then kComp2 cl (compB cl t c x xs (e.wipe w) h).calm else .bad := id rfl
def kComp (cl : Nat → List D → Hs → R D) (t : T) (w : List Nat) (c : E) (y : E) (e : Ev) (r : R (List D)) : R (D) := r.bind fun x h => cComp cl t w c y e x h
@[simp] theorem kComp_ok {t : T} {w : List Nat} {c : E} {y : E} {e : Ev} {x : List D} {h : Hs} : kComp cl t w c y e (.ok x h) = cComp cl t w c y e x h := id rfl
@[simp] theorem kComp_exc {t : T} {w : List Nat} {c : E} {y : E} {e : Ev} {x : D} {h : Hs} : kComp cl t w c y e (.exc x h) = .exc x h := id rfl
@[simp] theorem e_comp {it : It} {t : T} {w : List Nat} {c x : E} {e : Ev} {h : Hs} : evE cl (.comp it t w c x) e h = kComp cl t w c x e (evI cl false it e h) := id rfl
def kSeqI (cl : Nat → List D → Hs → R D) (st : Bool) (r : R (D)) : R (List D) := r.bind fun x h => R.of ((nb st x).bind itSeq) h
@[simp] theorem kSeqI_ok {st : Bool} {x : D} {h : Hs} : kSeqI cl st (.ok x h) = R.of ((nb st x).bind itSeq) h := id rfl
@[simp] theorem kSeqI_exc {st : Bool} {x : D} {h : Hs} : kSeqI cl st (.exc x h) = .exc x h := id rfl
@[simp] theorem i_seq {st : Bool} {a : E} {e : Ev} {h : Hs} : evI cl st (.seq a) e h = kSeqI cl st (evE cl a e h) := id rfl
def kRng (cl : Nat → List D → Hs → R D)  (r : R (D)) : R (List D) := r.bind fun x h => R.of (itRng (.int 0) x) h
@[simp] theorem kRng_ok  {x : D} {h : Hs} : kRng cl  (.ok x h) = R.of (itRng (.int 0) x) h := id rfl
@[simp] theorem kRng_exc  {x : D} {h : Hs} : kRng cl  (.exc x h) = .exc x h := id rfl
@[simp] theorem i_rng {st : Bool} {a : E} {e : Ev} {h : Hs} : evI cl st (.rng a) e h = kRng cl (evE cl a e h) := id rfl
def kRngs2 (cl : Nat → List D → Hs → R D) (y : D) (r : R (D)) : R (List D) := r.bind fun x h => R.of (itRng y x) h
@[simp] theorem kRngs2_ok {y : D} {x : D} {h : Hs} : kRngs2 cl y (.ok x h) = R.of (itRng y x) h := id rfl
@[simp] theorem kRngs2_exc {y : D} {x : D} {h : Hs} : kRngs2 cl y (.exc x h) = .exc x h := id rfl
def kRngs (cl : Nat → List D → Hs → R D) (b : E) (e : Ev) (r : R (D)) : R (List D) := r.bind fun x h => kRngs2 cl x (evE cl b e h)
@[simp] theorem kRngs_ok {b : E} {e : Ev} {x : D} {h : Hs} : kRngs cl b e (.ok x h) = kRngs2 cl x (evE cl b e h) := id rfl
@[simp] theorem kRngs_exc {b : E} {e : Ev} {x : D} {h : Hs} : kRngs cl b e (.exc x h) = .exc x h := id rfl
@[simp] theorem i_rngs {st : Bool} {a b : E} {e : Ev} {h : Hs} : evI cl st (.rngs a b) e h = kRngs cl b e (evE cl a e h) := id rfl
def kRng3c (cl : Nat → List D → Hs → R D) (y : D) (z : D) (r : R (D)) : R (List D) := r.bind fun x h => R.of (itDown y z x) h
@[simp] theorem kRng3c_ok {y : D} {z : D} {x : D} {h : Hs} : kRng3c cl y z (.ok x h) = R.of (itDown y z x) h := id rfl
@[simp] theorem kRng3c_exc {y : D} {z : D} {x : D} {h : Hs} : kRng3c cl y z (.exc x h) = .exc x h := id rfl
def kRng3b (cl : Nat → List D → Hs → R D) (c : E) (e : Ev) (y : D) (r : R (D)) : R (List D) := r.bind fun x h => kRng3c cl y x (evE cl c e h)
@[simp] theorem kRng3b_ok {c : E} {e : Ev} {y : D} {x : D} {h : Hs} : kRng3b cl c e y (.ok x h) = kRng3c cl y x (evE cl c e h) := id rfl
@[simp] theorem kRng3b_exc {c : E} {e : Ev} {y : D} {x : D} {h : Hs} : kRng3b cl c e y (.exc x h) = .exc x h := id rfl
def kRng3 (cl : Nat → List D → Hs → R D) (b : E) (c : E) (e : Ev) (r : R (D)) : R (List D) := r.bind fun x h => kRng3b cl c e x (evE cl b e h)
@[simp] theorem kRng3_ok {b : E} {c : E} {e : Ev} {x : D} {h : Hs} : kRng3 cl b c e (.ok x h) = kRng3b cl c e x (evE cl b e h) := id rfl
@[simp] theorem kRng3_exc {b : E} {c : E} {e : Ev} {x : D} {h : Hs} : kRng3 cl b c e (.exc x h) = .exc x h := id rfl
@[simp] theorem i_rng3 {st : Bool} {a b c : E} {e : Ev} {h : Hs} : evI cl st (.rng3 a b c) e h = kRng3 cl b c e (evE cl a e h) := id rfl
def kZip2 (cl : Nat → List D → Hs → R D) (st : Bool) (y : D) (r : R (D)) : R (List D) := r.bind fun x h => R.of ((nb st y).bind fun y => (nb st x).bind fun z => itZip y z) h
@[simp] theorem kZip2_ok {st : Bool} {y : D} {x : D} {h : Hs} : kZip2 cl st y (.ok x h) = R.of ((nb st y).bind fun y => (nb st x).bind fun z => itZip y z) h := id rfl
@[simp] theorem kZip2_exc {st : Bool} {y : D} {x : D} {h : Hs} : kZip2 cl st y (.exc x h) = .exc x h := id rfl
def kZip (cl : Nat → List D → Hs → R D) (st : Bool) (b : E) (e : Ev) (r : R (D)) : R (List D) := r.bind fun x h => kZip2 cl st x (evE cl b e h)
@[simp] theorem kZip_ok {st : Bool} {b : E} {e : Ev} {x : D} {h : Hs} : kZip cl st b e (.ok x h) = kZip2 cl st x (evE cl b e h) := id rfl
@[simp] theorem kZip_exc {st : Bool} {b : E} {e : Ev} {x : D} {h : Hs} : kZip cl st b e (.exc x h) = .exc x h := id rfl
@[simp] theorem i_zip {st : Bool} {a b : E} {e : Ev} {h : Hs} : evI cl st (.zip a b) e h = kZip cl st b e (evE cl a e h) := id rfl
def kEnm (cl : Nat → List D → Hs → R D) (st : Bool) (r : R (D)) : R (List D) := r.bind fun x h => R.of ((nb st x).bind fun x => x.sq?.map (enmD 0)) h
@[simp] theorem kEnm_ok {st : Bool} {x : D} {h : Hs} : kEnm cl st (.ok x h) = R.of ((nb st x).bind fun x => x.sq?.map (enmD 0)) h := id rfl
@[simp] theorem kEnm_exc {st : Bool} {x : D} {h : Hs} : kEnm cl st (.exc x h) = .exc x h := id rfl
@[simp] theorem i_enm {st : Bool} {a : E} {e : Ev} {h : Hs} : evI cl st (.enm a) e h = kEnm cl st (evE cl a e h) := id rfl
def kSet (cl : Nat → List D → Hs → R D) (i : Nat) (e : Ev) (r : R (D)) : R (Fl) := r.bind fun x h => if x.keep then .ok (.nx (e.put i (.v x))) h else .bad
@[simp] theorem kSet_ok {i : Nat} {e : Ev} {x : D} {h : Hs} : kSet cl i e (.ok x h) = if x.keep then .ok (.nx (e.put i (.v x))) h else .bad := id rfl
@[simp] theorem kSet_exc {i : Nat} {e : Ev} {x : D} {h : Hs} : kSet cl i e (.exc x h) = .exc x h := id rfl
@[simp] theorem s_set {i : Nat} {a : E} {e : Ev} {h : Hs} : exS cl (.set i a) e h = kSet cl i e (evE cl a e h) := by rw [exS]; rfl
def ownR (i : Nat) (e : Ev) (x : D) (h : Hs) : R Fl := match x with | .lst xs => if xs.all D.keep then .ok (.nx (e.put i (.o xs))) h else .bad | _ => .bad
@[simp] theorem ownR_lst {i : Nat} {e : Ev} {xs : List D} {h : Hs} : ownR i e (.lst xs) h = if xs.all D.keep then .ok (.nx (e.put i (.o xs))) h else .bad := id rfl
def kOwn (cl : Nat → List D → Hs → R D) (i : Nat) (e : Ev) (r : R (D)) : R (Fl) := r.bind fun x h => ownR i e x h
@[simp] theorem kOwn_ok {i : Nat} {e : Ev} {x : D} {h : Hs} : kOwn cl i e (.ok x h) = ownR i e x h := id rfl
@[simp] theorem kOwn_exc {i : Nat} {e : Ev} {x : D} {h : Hs} : kOwn cl i e (.exc x h) = .exc x h := id rfl
@[simp] theorem s_own {i : Nat} {a : E} {e : Ev} {h : Hs} : exS cl (.own i a) e h = kOwn cl i e (evE cl a e h) := by rw [exS]; rfl
def kClf (cl : Nat → List D → Hs → R D) (f : Nat) (r : R (List D)) : R (D) := r.bind fun x h => fClf (cl f) x h
@[simp] theorem kClf_ok {f : Nat} {x : List D} {h : Hs} : kClf cl f (.ok x h) = fClf (cl f) x h := id rfl
@[simp] theorem kClf_exc {f : Nat} {x : D} {h : Hs} : kClf cl f (.exc x h) = .exc x h := id rfl
@[simp] theorem s_ownf {i f : Nat} {es : Es} {e : Ev} {h : Hs} : exS cl (.ownf i f es) e h = kOwn cl i e (kClf cl f (evEs cl es e h)) := by rw [exS]; rfl
def raiR (x : D) (h : Hs) : R Fl := match x with | .int i => .exc (.exc 16 (.int i)) h | _ => .bad
@[simp] theorem raiR_int {i : Int} {h : Hs} : raiR (.int i) h = .exc (.exc 16 (.int i)) h := id rfl
def kRaiB (cl : Nat → List D → Hs → R D)  (r : R (D)) : R (Fl) := r.bind fun x h => raiR x h
@[simp] theorem kRaiB_ok  {x : D} {h : Hs} : kRaiB cl  (.ok x h) = raiR x h := id rfl
@[simp] theorem kRaiB_exc  {x : D} {h : Hs} : kRaiB cl  (.exc x h) = .exc x h := id rfl
@[simp] theorem s_raiB {a : E} {e : Ev} {h : Hs} : exS cl (.raiB a) e h = kRaiB cl (evE cl a e h) := by rw [exS]; rfl
@[simp] theorem s_ownd {i : Nat} {b : Bool} {e : Ev} {h : Hs} : exS cl (.ownd i b) e h = .ok (.nx (e.put i (.k b []))) h := by rw [exS]
def nxO (h : Hs) (o : Option Ev) : R Fl := match o with | some e => .ok (.nx e) h | none => .bad
@[simp] theorem nxO_some {h : Hs} {e : Ev} : nxO h (some e) = .ok (.nx e) h := id rfl
def kUnp (cl : Nat → List D → Hs → R D) (is : List Nat) (e : Ev) (r : R (D)) : R (Fl) := r.bind fun x h => nxO h (putT (.t is) x e)
@[simp] theorem kUnp_ok {is : List Nat} {e : Ev} {x : D} {h : Hs} : kUnp cl is e (.ok x h) = nxO h (putT (.t is) x e) := id rfl
@[simp] theorem kUnp_exc {is : List Nat} {e : Ev} {x : D} {h : Hs} : kUnp cl is e (.exc x h) = .exc x h := id rfl
@[simp] theorem s_unp {is : List Nat} {a : E} {e : Ev} {h : Hs} : exS cl (.unp is a) e h = kUnp cl is e (evE cl a e h) := by rw [exS]; unfold kUnp nxO; rfl
def parR (i : Nat) (oi : Bool) (j : Nat) (oj : Bool) (e : Ev) (x y : D) (h : Hs) : R Fl := match oi, oj with
    | false, false => if x.keep && y.keep then .ok (.nx ((e.put i (.v x)).put j (.v y))) h else .bad
    | true, false => (match x with
      | .lst xs => if xs.all D.keep && y.keep then .ok (.nx ((e.put i (.o xs)).put j (.v y))) h else .bad
      | _ => .bad)
    | false, true => (match y with
      | .lst ys => if x.keep && ys.all D.keep then .ok (.nx ((e.put i (.v x)).put j (.o ys))) h else .bad
      | _ => .bad)
    | true, true => (match x, y with
      | .lst xs, .lst ys => if xs.all D.keep && ys.all D.keep then .ok (.nx ((e.put i (.o xs)).put j (.o ys))) h else .bad
      | _, _ => .bad)
@[simp] theorem parR_tt {i j : Nat} {e : Ev} {xs ys : List D} {h : Hs} : parR i true j true e (.lst xs) (.lst ys) h = if xs.all D.keep && ys.all D.keep then .ok (.nx ((e.put i (.o xs)).put j (.o ys))) h else .bad := id rfl
def pardR (i j : Nat) (tk : Bool) (e : Ev) (x : D) (h : Hs) : R Fl := match x with | .lst xs => if xs.all D.keep then .ok (.nx ((e.put i (.o xs)).put j (.k tk []))) h else .bad | _ => .bad
@[simp] theorem pardR_l {i j : Nat} {tk : Bool} {e : Ev} {xs : List D} {h : Hs} : pardR i j tk e (.lst xs) h = if xs.all D.keep then .ok (.nx ((e.put i (.o xs)).put j (.k tk []))) h else .bad := id rfl
def kPard (cl : Nat → List D → Hs → R D) (i : Nat) (j : Nat) (tk : Bool) (e : Ev) (r : R (D)) : R (Fl) := r.bind fun x h => pardR i j tk e x h
@[simp] theorem kPard_ok {i : Nat} {j : Nat} {tk : Bool} {e : Ev} {x : D} {h : Hs} : kPard cl i j tk e (.ok x h) = pardR i j tk e x h := id rfl
@[simp] theorem kPard_exc {i : Nat} {j : Nat} {tk : Bool} {e : Ev} {x : D} {h : Hs} : kPard cl i j tk e (.exc x h) = .exc x h := id rfl
def par3R (i j l : Nat) (e : Ev) (x : D) (h : Hs) : R Fl := if x.keep then .ok (.nx (((e.put i (.o [])).put j (.o [])).put l (.v x))) h else .bad
@[simp] theorem par3R_eq {i j l : Nat} {e : Ev} {x : D} {h : Hs} : par3R i j l e x h = if x.keep then .ok (.nx (((e.put i (.o [])).put j (.o [])).put l (.v x))) h else .bad := id rfl
def kPar3 (cl : Nat → List D → Hs → R D) (i : Nat) (j : Nat) (l : Nat) (e : Ev) (r : R (D)) : R (Fl) := r.bind fun x h => par3R i j l e x h
@[simp] theorem kPar3_ok {i : Nat} {j : Nat} {l : Nat} {e : Ev} {x : D} {h : Hs} : kPar3 cl i j l e (.ok x h) = par3R i j l e x h := id rfl
@[simp] theorem kPar3_exc {i : Nat} {j : Nat} {l : Nat} {e : Ev} {x : D} {h : Hs} : kPar3 cl i j l e (.exc x h) = .exc x h := id rfl
@[simp] theorem s_par3 {i j l : Nat} {a : E} {e : Ev} {h : Hs} : exS cl (.par3 i j l a) e h = kPar3 cl i j l e (evE cl a e h) := by rw [exS]; rfl
@[simp] theorem s_pard {i j : Nat} {tk : Bool} {a : E} {e : Ev} {h : Hs} : exS cl (.pard i j tk a) e h = kPard cl i j tk e (evE cl a e h) := by rw [exS]; rfl
def kRetP (cl : Nat → List D → Hs → R D)  (r : R (D)) : R (Fl) := r.bind fun x h => if x.keep then .ok (.rt x) h else .bad
@[simp] theorem kRetP_ok  {x : D} {h : Hs} : kRetP cl  (.ok x h) = if x.keep then .ok (.rt x) h else .bad := id rfl
@[simp] theorem kRetP_exc  {x : D} {h : Hs} : kRetP cl  (.exc x h) = .exc x h := id rfl
@[simp] theorem s_retP {a : E} {e : Ev} {h : Hs} : exS cl (.retP a) e h = kRetP cl (evE cl a e h) := by rw [exS]; rfl
@[simp] theorem parR_ff {i j : Nat} {e : Ev} {x y : D} {h : Hs} : parR i false j false e x y h = if x.keep && y.keep then .ok (.nx ((e.put i (.v x)).put j (.v y))) h else .bad := id rfl
@[simp] theorem parR_tf {i j : Nat} {e : Ev} {xs : List D} {y : D} {h : Hs} : parR i true j false e (.lst xs) y h = if xs.all D.keep && y.keep then .ok (.nx ((e.put i (.o xs)).put j (.v y))) h else .bad := id rfl
@[simp] theorem parR_ft {i j : Nat} {e : Ev} {x : D} {ys : List D} {h : Hs} : parR i false j true e x (.lst ys) h = if x.keep && ys.all D.keep then .ok (.nx ((e.put i (.v x)).put j (.o ys))) h else .bad := id rfl
def kPar2 (cl : Nat → List D → Hs → R D) (i : Nat) (oi : Bool) (j : Nat) (oj : Bool) (e : Ev) (y : D) (r : R (D)) : R (Fl) := r.bind fun x h => parR i oi j oj e y x h
@[simp] theorem kPar2_ok {i : Nat} {oi : Bool} {j : Nat} {oj : Bool} {e : Ev} {y : D} {x : D} {h : Hs} : kPar2 cl i oi j oj e y (.ok x h) = parR i oi j oj e y x h := id rfl
@[simp] theorem kPar2_exc {i : Nat} {oi : Bool} {j : Nat} {oj : Bool} {e : Ev} {y : D} {x : D} {h : Hs} : kPar2 cl i oi j oj e y (.exc x h) = .exc x h := id rfl
def kPar (cl : Nat → List D → Hs → R D) (i : Nat) (oi : Bool) (j : Nat) (oj : Bool) (b : E) (e : Ev) (r : R (D)) : R (Fl) := r.bind fun x h => kPar2 cl i oi j oj e x (evE cl b e h)
@[simp] theorem kPar_ok {i : Nat} {oi : Bool} {j : Nat} {oj : Bool} {b : E} {e : Ev} {x : D} {h : Hs} : kPar cl i oi j oj b e (.ok x h) = kPar2 cl i oi j oj e x (evE cl b e h) := id rfl
@[simp] theorem kPar_exc {i : Nat} {oi : Bool} {j : Nat} {oj : Bool} {b : E} {e : Ev} {x : D} {h : Hs} : kPar cl i oi j oj b e (.exc x h) = .exc x h := id rfl
@[simp] theorem s_par {i : Nat} {oi : Bool} {j : Nat} {oj : Bool} {a b : E} {e : Ev} {h : Hs} : exS cl (.par i oi j oj a b) e h = kPar cl i oi j oj b e (evE cl a e h) := by rw [exS]; rfl
def stR (x y z : D) (h : Hs) : Option Hs := match x, y with | .ref r, .int j => (match h[r]? with | some (.lst xs) => (setL xs j z).map fun ys => h.set r (.lst ys) | _ => none) | _, _ => none
def sd2R (i : Nat) (p q : D) (e : Ev) (x y : D) (h : Hs) : R Fl := match x, y with
      | .ref r, .int j => (match h[r]? with
        | some (.lst xs) => (match setL xs j p with
          | some ys => .ok (.nx (e.put i (.v q))) (h.set r (.lst ys))
          | none => .bad)
        | _ => .bad)
      | _, _ => .bad
theorem stR_inv {x y z : D} {h h' : Hs} (q : stR x y z h = some h') : ∃ r j xs ys, x = .ref r ∧ y = .int j ∧ h[r]? = some (.lst xs) ∧ setL xs j z = some ys ∧ h' = h.set r (.lst ys) := by
  unfold stR at q
  split at q
  · split at q
    · rename_i r j _ xs e
      cases e2 : setL xs j z with
      | none => rw [e2] at q; cases q
      | some ys => rw [e2] at q; cases q; exact ⟨_, _, _, _, rfl, rfl, e, e2, rfl⟩
    · cases q
  · cases q
theorem sd2R_some {i : Nat} {p q : D} {e : Ev} {x y : D} {h h' : Hs} (z : stR x y p h = some h') : sd2R i p q e x y h = .ok (.nx (e.put i (.v q))) h' := by obtain ⟨r, j, xs, ys, rfl, rfl, e1, e2, rfl⟩ := stR_inv z; unfold sd2R; simp only [e1, e2]
def kSd3 (cl : Nat → List D → Hs → R D) (i : Nat) (p : D) (q : D) (e : Ev) (y : D) (r : R (D)) : R (Fl) := r.bind fun x h => sd2R i p q e y x h
@[simp] theorem kSd3_ok {i : Nat} {p : D} {q : D} {e : Ev} {y : D} {x : D} {h : Hs} : kSd3 cl i p q e y (.ok x h) = sd2R i p q e y x h := id rfl
@[simp] theorem kSd3_exc {i : Nat} {p : D} {q : D} {e : Ev} {y : D} {x : D} {h : Hs} : kSd3 cl i p q e y (.exc x h) = .exc x h := id rfl
def kSd2 (cl : Nat → List D → Hs → R D) (i : Nat) (p : D) (q : D) (b : E) (e : Ev) (r : R (D)) : R (Fl) := r.bind fun x h => kSd3 cl i p q e x (evE cl b e h)
@[simp] theorem kSd2_ok {i : Nat} {p : D} {q : D} {b : E} {e : Ev} {x : D} {h : Hs} : kSd2 cl i p q b e (.ok x h) = kSd3 cl i p q e x (evE cl b e h) := id rfl
@[simp] theorem kSd2_exc {i : Nat} {p : D} {q : D} {b : E} {e : Ev} {x : D} {h : Hs} : kSd2 cl i p q b e (.exc x h) = .exc x h := id rfl
def sdA (cl : Nat → List D → Hs → R D) (i : Nat) (a b : E) (e : Ev) (z : D) (h : Hs) : R Fl := match z with | .tup [p, q] => kSd2 cl i p q b e (evE cl a e h) | _ => .bad
@[simp] theorem sdA_tup {i : Nat} {a b : E} {e : Ev} {p q : D} {h : Hs} : sdA cl i a b e (.tup [p, q]) h = kSd2 cl i p q b e (evE cl a e h) := id rfl
def kSd (cl : Nat → List D → Hs → R D) (i : Nat) (a : E) (b : E) (e : Ev) (r : R (D)) : R (Fl) := r.bind fun x h => sdA cl i a b e x h
@[simp] theorem kSd_ok {i : Nat} {a : E} {b : E} {e : Ev} {x : D} {h : Hs} : kSd cl i a b e (.ok x h) = sdA cl i a b e x h := id rfl
@[simp] theorem kSd_exc {i : Nat} {a : E} {b : E} {e : Ev} {x : D} {h : Hs} : kSd cl i a b e (.exc x h) = .exc x h := id rfl
@[simp] theorem s_sd2 {a b : E} {i : Nat} {c : E} {e : Ev} {h : Hs} : exS cl (.sd2 a b i c) e h = kSd cl i a b e (evE cl c e h) := by rw [exS]; unfold kSd; congr 1
def srR (z : D) (e : Ev) (x y : D) (h : Hs) : R Fl := match x, y with
    | .ref r, .int j => if z.keep then (match h[r]? with
      | some (.lst xs) => (match setL xs j z with
        | some ys => .ok (.nx e) (h.set r (.lst ys))
        | none => .bad)
      | _ => .bad) else .bad
    | _, _ => .bad
theorem srR_some {z : D} {e : Ev} {x y : D} {h h' : Hs} (k : z.keep = true) (q : stR x y z h = some h') : srR z e x y h = .ok (.nx e) h' := by obtain ⟨r, j, xs, ys, rfl, rfl, e1, e2, rfl⟩ := stR_inv q; unfold srR; simp only [e1, e2, k, if_true]
def kSr3 (cl : Nat → List D → Hs → R D) (z : D) (e : Ev) (y : D) (r : R (D)) : R (Fl) := r.bind fun x h => srR z e y x h
@[simp] theorem kSr3_ok {z : D} {e : Ev} {y : D} {x : D} {h : Hs} : kSr3 cl z e y (.ok x h) = srR z e y x h := id rfl
@[simp] theorem kSr3_exc {z : D} {e : Ev} {y : D} {x : D} {h : Hs} : kSr3 cl z e y (.exc x h) = .exc x h := id rfl
def kSr2 (cl : Nat → List D → Hs → R D) (z : D) (b : E) (e : Ev) (r : R (D)) : R (Fl) := r.bind fun x h => kSr3 cl z e x (evE cl b e h)
@[simp] theorem kSr2_ok {z : D} {b : E} {e : Ev} {x : D} {h : Hs} : kSr2 cl z b e (.ok x h) = kSr3 cl z e x (evE cl b e h) := id rfl
@[simp] theorem kSr2_exc {z : D} {b : E} {e : Ev} {x : D} {h : Hs} : kSr2 cl z b e (.exc x h) = .exc x h := id rfl
def kSr (cl : Nat → List D → Hs → R D) (a : E) (b : E) (e : Ev) (r : R (D)) : R (Fl) := r.bind fun x h => kSr2 cl x b e (evE cl a e h)
@[simp] theorem kSr_ok {a : E} {b : E} {e : Ev} {x : D} {h : Hs} : kSr cl a b e (.ok x h) = kSr2 cl x b e (evE cl a e h) := id rfl
@[simp] theorem kSr_exc {a : E} {b : E} {e : Ev} {x : D} {h : Hs} : kSr cl a b e (.exc x h) = .exc x h := id rfl
@[simp] theorem s_sr {a b c : E} {e : Ev} {h : Hs} : exS cl (.sr a b c) e h = kSr cl a b e (evE cl c e h) := by rw [exS]; rfl
def siR (i : Nat) (xs : List D) (z : D) (e : Ev) (y : D) (h : Hs) : R Fl := match y with | .int j => if z.keep then (match setL xs j z with | some ys => .ok (.nx (e.put i (.o ys))) h | none => .bad) else .bad | _ => .bad
theorem siR_int {i : Nat} {xs ys : List D} {z : D} {e : Ev} {j : Int} {h : Hs} (k : z.keep = true) (q : setL xs j z = some ys) : siR i xs z e (.int j) h = .ok (.nx (e.put i (.o ys))) h := by unfold siR; dsimp only; rw [if_pos k, q]
def kSi2 (cl : Nat → List D → Hs → R D) (i : Nat) (xs : List D) (z : D) (e : Ev) (r : R (D)) : R (Fl) := r.bind fun x h => siR i xs z e x h
@[simp] theorem kSi2_ok {i : Nat} {xs : List D} {z : D} {e : Ev} {x : D} {h : Hs} : kSi2 cl i xs z e (.ok x h) = siR i xs z e x h := id rfl
@[simp] theorem kSi2_exc {i : Nat} {xs : List D} {z : D} {e : Ev} {x : D} {h : Hs} : kSi2 cl i xs z e (.exc x h) = .exc x h := id rfl
def kSi (cl : Nat → List D → Hs → R D) (i : Nat) (xs : List D) (b : E) (e : Ev) (r : R (D)) : R (Fl) := r.bind fun x h => kSi2 cl i xs x e (evE cl b e h)
@[simp] theorem kSi_ok {i : Nat} {xs : List D} {b : E} {e : Ev} {x : D} {h : Hs} : kSi cl i xs b e (.ok x h) = kSi2 cl i xs x e (evE cl b e h) := id rfl
@[simp] theorem kSi_exc {i : Nat} {xs : List D} {b : E} {e : Ev} {x : D} {h : Hs} : kSi cl i xs b e (.exc x h) = .exc x h := id rfl
def siS (cl : Nat → List D → Hs → R D) (i : Nat) (b c : E) (e : Ev) (h : Hs) (s : Sl) : R Fl := match s with | .o xs => kSi cl i xs b e (evE cl c e h) | _ => .bad
@[simp] theorem siS_o {i : Nat} {b c : E} {e : Ev} {h : Hs} {xs : List D} : siS cl i b c e h (.o xs) = kSi cl i xs b e (evE cl c e h) := id rfl
@[simp] theorem s_si {i : Nat} {b c : E} {e : Ev} {h : Hs} : exS cl (.si i b c) e h = siS cl i b c e h (e.get i) := by rw [exS]; rfl
def skR (i : Nat) (t : Bool) (kvs : Kvs) (z : D) (e : Ev) (y : D) (h : Hs) : R Fl := if z.keep && kOk t y && decide (kvs.length < 100000) then .ok (.nx (e.put i (.k t (kPut y z kvs)))) h else .bad
@[simp] theorem skR_eq {i : Nat} {t : Bool} {kvs : Kvs} {z : D} {e : Ev} {y : D} {h : Hs} : skR i t kvs z e y h = if z.keep && kOk t y && decide (kvs.length < 100000) then .ok (.nx (e.put i (.k t (kPut y z kvs)))) h else .bad := id rfl
def kSk2 (cl : Nat → List D → Hs → R D) (i : Nat) (t : Bool) (kvs : Kvs) (z : D) (e : Ev) (r : R (D)) : R (Fl) := r.bind fun x h => skR i t kvs z e x h
@[simp] theorem kSk2_ok {i : Nat} {t : Bool} {kvs : Kvs} {z : D} {e : Ev} {x : D} {h : Hs} : kSk2 cl i t kvs z e (.ok x h) = skR i t kvs z e x h := id rfl
@[simp] theorem kSk2_exc {i : Nat} {t : Bool} {kvs : Kvs} {z : D} {e : Ev} {x : D} {h : Hs} : kSk2 cl i t kvs z e (.exc x h) = .exc x h := id rfl
def kSk (cl : Nat → List D → Hs → R D) (i : Nat) (t : Bool) (kvs : Kvs) (b : E) (e : Ev) (r : R (D)) : R (Fl) := r.bind fun x h => kSk2 cl i t kvs x e (evE cl b e h)
@[simp] theorem kSk_ok {i : Nat} {t : Bool} {kvs : Kvs} {b : E} {e : Ev} {x : D} {h : Hs} : kSk cl i t kvs b e (.ok x h) = kSk2 cl i t kvs x e (evE cl b e h) := id rfl
@[simp] theorem kSk_exc {i : Nat} {t : Bool} {kvs : Kvs} {b : E} {e : Ev} {x : D} {h : Hs} : kSk cl i t kvs b e (.exc x h) = .exc x h := id rfl
def skS (cl : Nat → List D → Hs → R D) (i : Nat) (b c : E) (e : Ev) (h : Hs) (s : Sl) : R Fl := match s with | .k t kvs => kSk cl i t kvs b e (evE cl c e h) | _ => .bad
@[simp] theorem skS_k {i : Nat} {b c : E} {e : Ev} {h : Hs} {t : Bool} {kvs : Kvs} : skS cl i b c e h (.k t kvs) = kSk cl i t kvs b e (evE cl c e h) := id rfl
def kgR (t : Bool) (kvs : Kvs) (y : D) (h : Hs) : R D := if kOk t y then R.of (kGet kvs y) h else .bad
@[simp] theorem kgR_eq {t : Bool} {kvs : Kvs} {y : D} {h : Hs} : kgR t kvs y h = if kOk t y then R.of (kGet kvs y) h else .bad := id rfl
def kKg (cl : Nat → List D → Hs → R D) (t : Bool) (kvs : Kvs) (r : R (D)) : R (D) := r.bind fun x h => kgR t kvs x h
@[simp] theorem kKg_ok {t : Bool} {kvs : Kvs} {x : D} {h : Hs} : kKg cl t kvs (.ok x h) = kgR t kvs x h := id rfl
@[simp] theorem kKg_exc {t : Bool} {kvs : Kvs} {x : D} {h : Hs} : kKg cl t kvs (.exc x h) = .exc x h := id rfl
def kgS (cl : Nat → List D → Hs → R D) (a : E) (e : Ev) (h : Hs) (s : Sl) : R D := match s with | .k t kvs => kKg cl t kvs (evE cl a e h) | _ => .bad
@[simp] theorem kgS_k {a : E} {e : Ev} {h : Hs} {t : Bool} {kvs : Kvs} : kgS cl a e h (.k t kvs) = kKg cl t kvs (evE cl a e h) := id rfl
def kinR (n : Bool) (y : D) (h : Hs) (s : Sl) : R D := match s with | .k t kvs => if kOk t y then .ok (.bl (n != (kGet kvs y).isSome)) h else .bad | _ => .bad
@[simp] theorem kinR_k {n t : Bool} {y : D} {h : Hs} {kvs : Kvs} : kinR n y h (.k t kvs) = if kOk t y then .ok (.bl (n != (kGet kvs y).isSome)) h else .bad := id rfl
def kKin (cl : Nat → List D → Hs → R D) (n : Bool) (i : Nat) (e : Ev) (r : R (D)) : R (D) := r.bind fun x h => kinR n x h (e.get i)
@[simp] theorem kKin_ok {n : Bool} {i : Nat} {e : Ev} {x : D} {h : Hs} : kKin cl n i e (.ok x h) = kinR n x h (e.get i) := id rfl
@[simp] theorem kKin_exc {n : Bool} {i : Nat} {e : Ev} {x : D} {h : Hs} : kKin cl n i e (.exc x h) = .exc x h := id rfl
@[simp] theorem e_kin {n : Bool} {i : Nat} {a : E} {e : Ev} {h : Hs} : evE cl (.kin n i a) e h = kKin cl n i e (evE cl a e h) := id rfl
@[simp] theorem e_kg {i : Nat} {a : E} {e : Ev} {h : Hs} : evE cl (.kg i a) e h = kgS cl a e h (e.get i) := id rfl
@[simp] theorem s_sk {i : Nat} {b c : E} {e : Ev} {h : Hs} : exS cl (.sk i b c) e h = skS cl i b c e h (e.get i) := by rw [exS]; rfl
def kApp (cl : Nat → List D → Hs → R D) (i : Nat) (xs : List D) (e : Ev) (r : R (D)) : R (Fl) := r.bind fun x h => if x.keep && decide (xs.length < LIM) then .ok (.nx (e.put i (.o (xs ++ [x])))) h else .bad
@[simp] theorem kApp_ok {i : Nat} {xs : List D} {e : Ev} {x : D} {h : Hs} : kApp cl i xs e (.ok x h) = if x.keep && decide (xs.length < LIM) then .ok (.nx (e.put i (.o (xs ++ [x])))) h else .bad := id rfl
@[simp] theorem kApp_exc {i : Nat} {xs : List D} {e : Ev} {x : D} {h : Hs} : kApp cl i xs e (.exc x h) = .exc x h := id rfl
def appS (cl : Nat → List D → Hs → R D) (i : Nat) (a : E) (e : Ev) (h : Hs) (s : Sl) : R Fl := match s with | .o xs => kApp cl i xs e (evE cl a e h) | _ => .bad
@[simp] theorem appS_o {i : Nat} {a : E} {e : Ev} {h : Hs} {xs : List D} : appS cl i a e h (.o xs) = kApp cl i xs e (evE cl a e h) := id rfl
@[simp] theorem s_app {i : Nat} {a : E} {e : Ev} {h : Hs} : exS cl (.app i a) e h = appS cl i a e h (e.get i) := by rw [exS]; rfl
def extR (i : Nat) (xs : List D) (e : Ev) (x : D) (h : Hs) : R Fl := match x with | .lst ys => if ys.all D.keep && decide (xs.length + ys.length ≤ LIM) then .ok (.nx (e.put i (.o (xs ++ ys)))) h else .bad | _ => .bad
@[simp] theorem extR_lst {i : Nat} {xs ys : List D} {e : Ev} {h : Hs} : extR i xs e (.lst ys) h = if ys.all D.keep && decide (xs.length + ys.length ≤ LIM) then .ok (.nx (e.put i (.o (xs ++ ys)))) h else .bad := id rfl
def kExt (cl : Nat → List D → Hs → R D) (i : Nat) (xs : List D) (e : Ev) (r : R (D)) : R (Fl) := r.bind fun x h => extR i xs e x h
@[simp] theorem kExt_ok {i : Nat} {xs : List D} {e : Ev} {x : D} {h : Hs} : kExt cl i xs e (.ok x h) = extR i xs e x h := id rfl
@[simp] theorem kExt_exc {i : Nat} {xs : List D} {e : Ev} {x : D} {h : Hs} : kExt cl i xs e (.exc x h) = .exc x h := id rfl
def extS (cl : Nat → List D → Hs → R D) (i : Nat) (a : E) (e : Ev) (h : Hs) (s : Sl) : R Fl := match s with | .o xs => kExt cl i xs e (evE cl a e h) | _ => .bad
@[simp] theorem extS_o {i : Nat} {a : E} {e : Ev} {h : Hs} {xs : List D} : extS cl i a e h (.o xs) = kExt cl i xs e (evE cl a e h) := id rfl
@[simp] theorem s_ext {i : Nat} {a : E} {e : Ev} {h : Hs} : exS cl (.ext i a) e h = extS cl i a e h (e.get i) := by rw [exS]; rfl
def popS (i : Nat) (e : Ev) (h : Hs) (s : Sl) : R Fl := match s with | .o xs => if xs.isEmpty then .bad else .ok (.nx (e.put i (.o xs.dropLast))) h | _ => .bad
@[simp] theorem popS_o {i : Nat} {e : Ev} {h : Hs} {xs : List D} : popS i e h (.o xs) = if xs.isEmpty then .bad else .ok (.nx (e.put i (.o xs.dropLast))) h := id rfl
@[simp] theorem s_pop {i : Nat} {e : Ev} {h : Hs} : exS cl (.pop i) e h = popS i e h (e.get i) := by rw [exS]; rfl
def popuS (i : Nat) (is : List Nat) (e : Ev) (h : Hs) (s : Sl) : R Fl := match s with | .o (x :: xs) => nxO h (putT (.t is) x (e.put i (.o xs))) | _ => .bad
@[simp] theorem popuS_o {i : Nat} {is : List Nat} {e : Ev} {h : Hs} {x : D} {xs : List D} : popuS i is e h (.o (x :: xs)) = nxO h (putT (.t is) x (e.put i (.o xs))) := id rfl
@[simp] theorem s_popu {i : Nat} {is : List Nat} {e : Ev} {h : Hs} : exS cl (.popu i is) e h = popuS i is e h (e.get i) := by rw [exS]; unfold popuS nxO; rfl
def kEx (cl : Nat → List D → Hs → R D) (e : Ev) (r : R (D)) : R (Fl) := r.bind fun x h => .ok (.nx e) h
@[simp] theorem kEx_ok {e : Ev} {x : D} {h : Hs} : kEx cl e (.ok x h) = .ok (.nx e) h := id rfl
@[simp] theorem kEx_exc {e : Ev} {x : D} {h : Hs} : kEx cl e (.exc x h) = .exc x h := id rfl
@[simp] theorem s_ex {a : E} {e : Ev} {h : Hs} : exS cl (.ex a) e h = kEx cl e (evE cl a e h) := by rw [exS]; rfl
def cIf (cl : Nat → List D → Hs → R D) (a : Ss) (b : Ss) (e : Ev) (h : Hs) (o : Option Bool) : R (Fl) := match o with | some true => exB cl a e h | some false => exB cl b e h | none => .bad
@[simp] theorem cIf_t {a : Ss} {b : Ss} {e : Ev} {h : Hs} : cIf cl a b e h (some true) = exB cl a e h := id rfl
@[simp] theorem cIf_f {a : Ss} {b : Ss} {e : Ev} {h : Hs} : cIf cl a b e h (some false) = exB cl b e h := id rfl
def kIf (cl : Nat → List D → Hs → R D) (a : Ss) (b : Ss) (e : Ev) (r : R (D)) : R (Fl) := r.bind fun x h => cIf cl a b e h x.tru
@[simp] theorem kIf_ok {a : Ss} {b : Ss} {e : Ev} {x : D} {h : Hs} : kIf cl a b e (.ok x h) = cIf cl a b e h x.tru := id rfl
@[simp] theorem kIf_exc {a : Ss} {b : Ss} {e : Ev} {x : D} {h : Hs} : kIf cl a b e (.exc x h) = .exc x h := id rfl
@[simp] theorem s_ite {c : E} {a b : Ss} {e : Ev} {h : Hs} : exS cl (.ite c a b) e h = kIf cl a b e (evE cl c e h) := by rw [exS]; unfold kIf cIf; rfl
/-- loops by their turns -/
def inT (cl : Nat → List D → Hs → R D) (t : T) (b : Ss) (x : D) (e : Ev) (h : Hs) : R Fl := match putT t x e with
  | none => .bad
  | some e' => exB cl b e' h
def forB (cl : Nat → List D → Hs → R D) (t : T) (b : Ss) (xs : List D) (e : Ev) (h : Hs) : R Fl := forL (fun x e h => inT cl t b x e h) xs e h
def inP (cl : Nat → List D → Hs → R D) (b : Ss) (h : Hs) (p : Option Ev) : R Fl := match p with | none => .bad | some e => exB cl b e h
def kFor (cl : Nat → List D → Hs → R D) (t : T) (b : Ss) (xs : List D) (r : R Fl) : R Fl := r.fl fun e h => forB cl t b xs e h
def kBl (cl : Nat → List D → Hs → R D) (b : Ss) (r : R Fl) : R Fl := r.fl fun e h => exB cl b e h
@[simp] theorem inT_p {t : T} {b : Ss} {x : D} {e : Ev} {h : Hs} : inT cl t b x e h = inP cl b h (putT t x e) := by unfold inT inP; cases putT t x e <;> rfl
@[simp] theorem inP_some {b : Ss} {e : Ev} {h : Hs} : inP cl b h (some e) = exB cl b e h := id rfl
@[simp] theorem forB_nil {t : T} {b : Ss} {e : Ev} {h : Hs} : forB cl t b [] e h = .ok (.nx e) h := id rfl
theorem forB_cons {t : T} {b : Ss} {x : D} {xs : List D} {e : Ev} {h : Hs} : forB cl t b (x :: xs) e h = kFor cl t b xs (inT cl t b x e h) := rfl
@[simp] theorem kFor_nx {t : T} {b : Ss} {xs : List D} {e : Ev} {h : Hs} : kFor cl t b xs (.ok (.nx e) h) = forB cl t b xs e h := id rfl
@[simp] theorem kFor_rt {t : T} {b : Ss} {xs : List D} {d : D} {h : Hs} : kFor cl t b xs (.ok (.rt d) h) = .ok (.rt d) h := id rfl
@[simp] theorem kFor_exc {t : T} {b : Ss} {xs : List D} {d : D} {h : Hs} : kFor cl t b xs (.exc d h) = .exc d h := id rfl
@[simp] theorem kBl_nx {b : Ss} {e : Ev} {h : Hs} : kBl cl b (.ok (.nx e) h) = exB cl b e h := id rfl
@[simp] theorem kBl_rt {b : Ss} {d : D} {h : Hs} : kBl cl b (.ok (.rt d) h) = .ok (.rt d) h := id rfl
@[simp] theorem kBl_exc {b : Ss} {d : D} {h : Hs} : kBl cl b (.exc d h) = .exc d h := id rfl
def kForI (cl : Nat → List D → Hs → R D) (t : T) (b : Ss) (e : Ev) (r : R (List D)) : R (Fl) := r.bind fun x h => forB cl t b x e h
@[simp] theorem kForI_ok {t : T} {b : Ss} {e : Ev} {x : List D} {h : Hs} : kForI cl t b e (.ok x h) = forB cl t b x e h := id rfl
@[simp] theorem kForI_exc {t : T} {b : Ss} {e : Ev} {x : D} {h : Hs} : kForI cl t b e (.exc x h) = .exc x h := id rfl
@[simp] theorem s_for {it : It} {t : T} {b : Ss} {e : Ev} {h : Hs} : exS cl (.for it t b) e h = kForI cl t b e (evI cl true it e h) := by rw [exS]; rfl
def whlB (cl : Nat → List D → Hs → R D) (c : E) (b : Ss) (n : Nat) (e : Ev) (h : Hs) : R Fl := whlL (fun e h => (evE cl c e h).bind fun x h => R.of x.tru h) (fun e h => exB cl b e h) n e h
@[simp] theorem s_whl {c : E} {b : Ss} {e : Ev} {h : Hs} : exS cl (.whl c b) e h = whlB cl c b turns e h := by rw [exS]; rfl
theorem whlB_t {c : E} {b : Ss} {n : Nat} {e : Ev} {h : Hs} {x : D} {h' : Hs} (q : evE cl c e h = .ok x h') (t : x.tru = some true) : whlB cl c b (n + 1) e h = (exB cl b e h').fl fun e h => whlB cl c b n e h := by
  show ((evE cl c e h).bind _).bind _ = _
  rw [q, R.bind_ok, t]; rfl
theorem whlB_f {c : E} {b : Ss} {n : Nat} {e : Ev} {h : Hs} {x : D} {h' : Hs} (q : evE cl c e h = .ok x h') (t : x.tru = some false) : whlB cl c b (n + 1) e h = .ok (.nx e) h' := by
  show ((evE cl c e h).bind _).bind _ = _
  rw [q, R.bind_ok, t]; rfl
def kRet (cl : Nat → List D → Hs → R D)  (r : R (D)) : R (Fl) := r.bind fun x h => if x.keep then .ok (.rt x) h else .bad
@[simp] theorem kRet_ok  {x : D} {h : Hs} : kRet cl  (.ok x h) = if x.keep then .ok (.rt x) h else .bad := id rfl
@[simp] theorem kRet_exc  {x : D} {h : Hs} : kRet cl  (.exc x h) = .exc x h := id rfl
@[simp] theorem s_ret {a : E} {e : Ev} {h : Hs} : exS cl (.ret a) e h = kRet cl (evE cl a e.fin h) := by rw [exS]; rfl
@[simp] theorem s_retN {e : Ev} {h : Hs} : exS cl .retN e h = .ok (.rt .non) h := by rw [exS]
def kRai (cl : Nat → List D → Hs → R D) (c : Nat) (r : R (D)) : R (Fl) := r.bind fun x h => .exc (.exc c x) h
@[simp] theorem kRai_ok {c : Nat} {x : D} {h : Hs} : kRai cl c (.ok x h) = .exc (.exc c x) h := id rfl
@[simp] theorem kRai_exc {c : Nat} {x : D} {h : Hs} : kRai cl c (.exc x h) = .exc x h := id rfl
@[simp] theorem s_rai {c : Nat} {a : E} {e : Ev} {h : Hs} : exS cl (.rai c a) e h = kRai cl c (evE cl a e h) := by rw [exS]; rfl
def frzS (i : Nat) (e : Ev) (h : Hs) (s : Sl) : R Fl := match s with | .o xs => .ok (.nx (e.put i (.v (.lst xs)))) h | _ => .bad
@[simp] theorem frzS_o {i : Nat} {e : Ev} {h : Hs} {xs : List D} : frzS i e h (.o xs) = .ok (.nx (e.put i (.v (.lst xs)))) h := id rfl
@[simp] theorem s_frz {i : Nat} {e : Ev} {h : Hs} : exS cl (.frz i) e h = frzS i e h (e.get i) := by rw [exS]; rfl
def mvS (i j : Nat) (e : Ev) (h : Hs) (s : Sl) : R Fl := match s with | .o xs => .ok (.nx ((e.put j .u).put i (.o xs))) h | _ => .bad
@[simp] theorem mvS_o {i j : Nat} {e : Ev} {h : Hs} {xs : List D} : mvS i j e h (.o xs) = .ok (.nx ((e.put j .u).put i (.o xs))) h := id rfl
@[simp] theorem s_mv {i j : Nat} {e : Ev} {h : Hs} : exS cl (.mv i j) e h = mvS i j e h (e.get j) := by rw [exS]; rfl
@[simp] theorem b_nil {e : Ev} {h : Hs} : exB cl .nil e h = .ok (.nx e) h := by rw [exB]
@[simp] theorem b_cons {s : S} {r : Ss} {e : Ev} {h : Hs} : exB cl (.cons s r) e h = kBl cl r (exS cl s e h) := by rw [exB]; rfl
end
@[simp] theorem out_rt {d : D} {h : Hs} : (R.ok (.rt d) h).out = .ok d h := rfl
@[simp] theorem out_nx {e : Ev} {h : Hs} : (R.ok (.nx e) h).out = .ok .non h := rfl
@[simp] theorem out_exc {d : D} {h : Hs} : (R.exc (α := Fl) d h).out = .exc d h := rfl
/-- a def's run -/
theorem run_eq {k f : Nat} {fn : Fn} {ds : List D} {h : Hs} (p : G f = some fn) : runF G (k + 1) f ds h = if ds.length = fn.np then (exB (runF G k) fn.body (startE fn.nn (ds.map D.hand)) h).out else .bad := by rw [runF, p]
@[simp] theorem startE_0 : startE 0 [] = [] := id rfl
@[simp] theorem startE_u {n : Nat} : startE (n + 1) [] = .u :: startE n [] := by unfold startE; simp [List.replicate_succ]
@[simp] theorem startE_v {n : Nat} {d : D} {ds : List D} : startE (n + 1) (d :: ds) = .v d :: startE n ds := by unfold startE; simp
@[simp] theorem get_z {x : Sl} {r : Ev} : Ev.get (x :: r) 0 = x := rfl
@[simp] theorem get_s {x : Sl} {r : Ev} {n : Nat} : Ev.get (x :: r) (n + 1) = Ev.get r n := rfl
@[simp] theorem put_z {x y : Sl} {r : Ev} : Ev.put (x :: r) 0 y = y :: r := rfl
@[simp] theorem put_s {x y : Sl} {r : Ev} {n : Nat} : Ev.put (x :: r) (n + 1) y = x :: Ev.put r n y := rfl
@[simp] theorem wipe_nil {e : Ev} : Ev.wipe e [] = e := rfl
@[simp] theorem wipe_cons {e : Ev} {i : Nat} {is : List Nat} : Ev.wipe e (i :: is) = (Ev.wipe e is).put i .u := rfl
@[simp] theorem fin_nil : Ev.fin [] = [] := rfl
@[simp] theorem fin_v {d : D} {r : Ev} : Ev.fin (.v d :: r) = .v d :: Ev.fin r := rfl
@[simp] theorem fin_u {r : Ev} : Ev.fin (.u :: r) = .u :: Ev.fin r := rfl
@[simp] theorem fin_o {xs : List D} {r : Ev} : Ev.fin (.o xs :: r) = .v (.lst xs) :: Ev.fin r := rfl
@[simp] theorem fin_k {t : Bool} {kvs : Kvs} {r : Ev} : Ev.fin (.k t kvs :: r) = .u :: Ev.fin r := rfl
def slV (s : Sl) : Option D := match s with | .v d => some d | .o xs => some (.bor xs) | _ => none
@[simp] theorem slV_v {d : D} : slV (.v d) = some d := rfl
@[simp] theorem slV_o {xs : List D} : slV (.o xs) = some (.bor xs) := rfl
@[simp] theorem evV_eq {e : Ev} {i : Nat} : evV e i = slV (e.get i) := rfl
def putN (i : Nat) (d : D) (e : Ev) (b : Bool) : Option Ev := if b then some (e.put i (.v d)) else none
@[simp] theorem putN_t {i : Nat} {d : D} {e : Ev} : putN i d e true = some (e.put i (.v d)) := rfl
@[simp] theorem putT_n {i : Nat} {d : D} {e : Ev} : putT (.n i) d e = putN i d e d.keep := id rfl
@[simp] theorem putT_2 {i j : Nat} {x y : D} {e : Ev} : putT (.t [i, j]) (.tup [x, y]) e = some ((e.put i (.v x)).put j (.v y)) := id rfl
@[simp] theorem putT_3 {i j k : Nat} {x y z : D} {e : Ev} : putT (.t [i, j, k]) (.tup [x, y, z]) e = some (((e.put i (.v x)).put j (.v y)).put k (.v z)) := id rfl
@[simp] theorem keep_int {i : Int} : (D.int i).keep = true := rfl
@[simp] theorem keep_bl {b : Bool} : (D.bl b).keep = true := rfl
@[simp] theorem keep_non : D.non.keep = true := rfl
@[simp] theorem keep_str {x : Str} : (D.str x).keep = true := rfl
@[simp] theorem keep_tup {xs : List D} : (D.tup xs).keep = true := rfl
@[simp] theorem keep_lst {xs : List D} : (D.lst xs).keep = true := rfl
@[simp] theorem keep_ref {i : Nat} : (D.ref i).keep = true := rfl
@[simp] theorem keep_dct {kvs : List (Int × Int)} : (D.dct kvs).keep = true := rfl
@[simp] theorem hand_int {i : Int} : (D.int i).hand = .int i := rfl
@[simp] theorem hand_bl {b : Bool} : (D.bl b).hand = .bl b := rfl
@[simp] theorem hand_non : D.non.hand = .non := rfl
@[simp] theorem hand_str {x : Str} : (D.str x).hand = .str x := rfl
@[simp] theorem hand_tup {xs : List D} : (D.tup xs).hand = .tup xs := rfl
@[simp] theorem hand_lst {xs : List D} : (D.lst xs).hand = .lst xs := rfl
@[simp] theorem hand_ref {i : Nat} : (D.ref i).hand = .ref i := rfl
@[simp] theorem hand_scr {xs : List D} : (D.scr xs).hand = .scr xs := rfl
@[simp] theorem hand_bor {xs : List D} : (D.bor xs).hand = .scr xs := rfl
@[simp] theorem hand_dct {kvs : List (Int × Int)} : (D.dct kvs).hand = .dct kvs := rfl
@[simp] theorem tru_bl {b : Bool} : (D.bl b).tru = some b := rfl
@[simp] theorem tru_int {i : Int} : (D.int i).tru = some (i != 0) := rfl
@[simp] theorem tru_non : D.non.tru = some false := rfl
@[simp] theorem nb_f {d : D} : nb false d = some d := id rfl
theorem nb_keep {b : Bool} {d : D} (k : d.keep = true) : nb b d = some d := by unfold nb; cases d <;> first | (cases b <;> rfl) | cases k
@[simp] theorem nb_tup {b : Bool} {xs : List D} : nb b (.tup xs) = some (.tup xs) := nb_keep rfl
@[simp] theorem nb_lst {b : Bool} {xs : List D} : nb b (.lst xs) = some (.lst xs) := nb_keep rfl
@[simp] theorem nb_str {b : Bool} {xs : Str} : nb b (.str xs) = some (.str xs) := nb_keep rfl
@[simp] theorem nb_scr {b : Bool} {xs : List D} : nb b (.scr xs) = some (.scr xs) := by unfold nb; cases b <;> rfl
@[simp] theorem sq_tup {xs : List D} : (D.tup xs).sq? = some xs := rfl
@[simp] theorem sq_lst {xs : List D} : (D.lst xs).sq? = some xs := rfl
@[simp] theorem sq_bor {xs : List D} : (D.bor xs).sq? = some xs := rfl
@[simp] theorem sq_scr {xs : List D} : (D.scr xs).sq? = some xs := rfl
@[simp] theorem ls_lst {xs : List D} : (D.lst xs).ls? = some xs := rfl
@[simp] theorem ls_bor {xs : List D} : (D.bor xs).ls? = some xs := rfl
@[simp] theorem ls_scr {xs : List D} : (D.scr xs).ls? = some xs := rfl
@[simp] theorem itSeq_tup {xs : List D} : itSeq (.tup xs) = some xs := rfl
@[simp] theorem itSeq_lst {xs : List D} : itSeq (.lst xs) = some xs := rfl
@[simp] theorem itSeq_bor {xs : List D} : itSeq (.bor xs) = some xs := rfl
@[simp] theorem itSeq_scr {xs : List D} : itSeq (.scr xs) = some xs := rfl
@[simp] theorem dBin_add {x y : D} : dBin .add x y = dAdd x y := id rfl
@[simp] theorem dBin_sub {x y : D} : dBin .sub x y = dSub x y := id rfl
@[simp] theorem dBin_mul {x y : D} : dBin .mul x y = dMul x y := id rfl
@[simp] theorem dBin_fdiv {x y : D} : dBin .fdiv x y = dDiv x y := id rfl
@[simp] theorem dBin_mod {x y : D} : dBin .mod x y = dMod x y := id rfl
@[simp] theorem dBin_pow {x y : D} : dBin .pow x y = dPow x y := id rfl
@[simp] theorem dAdd_int {i j : Int} : dAdd (.int i) (.int j) = some (.int (i + j)) := id rfl
@[simp] theorem dSub_int {i j : Int} : dSub (.int i) (.int j) = some (.int (i - j)) := id rfl
@[simp] theorem dCmp_eq {x y : D} : dCmp .eq x y = dEq x y := id rfl
@[simp] theorem dCmp_ne {x y : D} : dCmp .ne x y = (dEq x y).map (!·) := id rfl
@[simp] theorem dCmp_lt {x y : D} : dCmp .lt x y = dLt x y := id rfl
@[simp] theorem dCmp_le {i j : Int} : dCmp .le (.int i) (.int j) = some (decide (i ≤ j)) := id rfl
@[simp] theorem dCmp_gt {i j : Int} : dCmp .gt (.int i) (.int j) = some (decide (j < i)) := id rfl
@[simp] theorem dCmp_ge {i j : Int} : dCmp .ge (.int i) (.int j) = some (decide (j ≤ i)) := id rfl
@[simp] theorem dCmp_in {x y : D} : dCmp .isin x y = dIn x y := id rfl
@[simp] theorem dCmp_ni {x y : D} : dCmp .notin x y = (dIn x y).map (!·) := id rfl
@[simp] theorem dCmp_isN {x : D} : dCmp .isN x .non = some (dIsN x) := id rfl
@[simp] theorem dCmp_notN {x : D} : dCmp .notN x .non = some (!dIsN x) := id rfl
@[simp] theorem dCmp_eq0 {x y : D} : dCmp .eq0 x y = dEq0 x y := id rfl
@[simp] theorem dCmp_notB {x y : Bool} : dCmp .notB (.bl x) (.bl y) = some (!decide (x = y)) := id rfl
@[simp] theorem dIsN_non : dIsN .non = true := id rfl
@[simp] theorem dIsN_int {i : Int} : dIsN (.int i) = false := id rfl
@[simp] theorem dIsN_tup {xs : List D} : dIsN (.tup xs) = false := id rfl
@[simp] theorem dLt_int {i j : Int} : dLt (.int i) (.int j) = some (decide (i < j)) := id rfl
@[simp] theorem dEq_int {i j : Int} : dEq (.int i) (.int j) = some (i == j) := by unfold dEq; rfl
end Tv
end

section
set_option autoImplicit false
set_option maxHeartbeats 1000000
/-! Grounds, standings, catches as things of whatever kind. -/
namespace Tv
open PySem
section
variable {cl : Nat → List D → Hs → R D}
theorem compB_each {t : T} {c x : E} {e : Ev} {h : Hs} {g : D → D} {xs : List D} (q : ∀ a ∈ xs, oneC cl t c x a e h = .ok (some (g a)) h) : compB cl t c x xs e h = .ok (xs.map g) h := by
  have z := compB_all (cl := cl) (t := t) (c := c) (x := x) (e := e) (h := h) (enc := fun d => d) (g := g) (xs := xs) q
  simpa using z
end
@[simp] theorem allB_map {α : Type} {f : α → Bool} : ∀ {xs : List α}, allB (xs.map fun x => .bl (f x)) = some (xs.map f)
  | [] => rfl
  | x :: xs => by rw [List.map_cons, allB, allB_map]; rfl
@[simp] theorem allI_map {α : Type} {f : α → Int} : ∀ {xs : List α}, allI (xs.map fun x => .int (f x)) = some (xs.map f)
  | [] => rfl
  | x :: xs => by rw [List.map_cons, allI, allI_map]; rfl
@[simp] theorem dBi_all {α : Type} {f : α → Bool} {xs : List α} : dBi .all [.lst (xs.map fun x => .bl (f x))] = some (.bl (xs.all f)) := by
  show (allB _).map _ = _
  rw [allB_map]; simp
@[simp] theorem dBi_any {α : Type} {f : α → Bool} {xs : List α} : dBi .any [.lst (xs.map fun x => .bl (f x))] = some (.bl (xs.any f)) := by
  show (allB _).map _ = _
  rw [allB_map]; simp
theorem all_lst {xs : List D} {bs : List Bool} (q : allB xs = some bs) : dBi .all [.lst xs] = some (.bl (bs.all id)) := by show (allB xs).map _ = _; rw [q]; rfl
@[simp] theorem dBi_len {d : D} : dBi .len [d] = dLen d := rfl
@[simp] theorem dLen_tup {xs : List D} : dLen (.tup xs) = some (.int xs.length) := rfl
@[simp] theorem dLen_lst {xs : List D} : dLen (.lst xs) = some (.int xs.length) := rfl
@[simp] theorem dLen_bor {xs : List D} : dLen (.bor xs) = some (.int xs.length) := rfl
@[simp] theorem dLen_scr {xs : List D} : dLen (.scr xs) = some (.int xs.length) := rfl
@[simp] theorem dIsi_tup {xs : List D} : dIsi .tuple (.tup xs) = some true := rfl
@[simp] theorem ix_z {x : D} {xs : List D} : dIx (.tup (x :: xs)) (.int 0) = some x := by simp [dIx, D.sq?, L2.atI, L2.ixN]
theorem ixT {xs : List D} {i : Int} (n : Nat) (e : i = n) (l : n < xs.length) : dIx (.tup xs) (.int i) = some (xs[n]'l) := by
  subst e; simp [dIx, D.sq?, L2.atI, L2.ixN, l]
theorem ixL {xs : List D} {i : Int} (n : Nat) (e : i = n) (l : n < xs.length) : dIx (.lst xs) (.int i) = some (xs[n]'l) := by
  subst e; simp [dIx, D.sq?, L2.atI, L2.ixN, l]
@[simp] theorem ix_1 {x y : D} {xs : List D} : dIx (.tup (x :: y :: xs)) (.int 1) = some y := ixT 1 rfl (by simp)
@[simp] theorem ix_2 {x y z : D} {xs : List D} : dIx (.tup (x :: y :: z :: xs)) (.int 2) = some z := ixT 2 rfl (by simp)
theorem hand_pl {d : D} (p : d.pl = true) : d.hand = d := by cases d <;> first | rfl | cases p
theorem keep_pl {d : D} (p : d.pl = true) : d.keep = true := by cases d <;> first | rfl | cases p
theorem ixR_pl {d y : D} {h : Hs} (p : d.pl = true) : ixR d y h = R.of (dIx d y) h := by cases d <;> first | rfl | cases p

/-- a whole number from one to another one -/
def isFT (a b : Int) : D → Bool
  | .int i => decide (a ≤ i) && decide (i ≤ b)
  | _ => false
def isW : D → Bool
  | .int _ => true
  | _ => false
theorem r_is_whole {k : Nat} {h : Hs} {d : D} (p : d.pl = true) : runF G (k + 1) n_is_whole [d] h = .ok (.bl (isW d)) h := by
  rw [run_eq (fn := f_is_whole) rfl]
  cases d <;> first | (cases p; done) | simp [f_is_whole, dIsi, isW]
theorem r_is_from_to {k : Nat} {h : Hs} {d : D} {a b : Int} (p : d.pl = true) : runF G (k + 2) n_is_from_to [d, .int a, .int b] h = .ok (.bl (isFT a b d)) h := by
  rw [run_eq (fn := f_is_from_to) rfl]
  have z : runF G (k + 1) n_is_whole [d] h = .ok (.bl (isW d)) h := r_is_whole p
  cases d with
  | int i =>
    simp [f_is_from_to, z, isW, isFT]
    by_cases q : a ≤ i <;> simp [q]
  | _ => first | (cases p; done) | simp [f_is_from_to, z, isW, isFT]

theorem pls_at : ∀ {xs : List D}, D.pls xs = true → ∀ d ∈ xs, d.pl = true
  | [], _, _, h => by cases h
  | x :: r, hp, d, h => by
    rw [D.pls, Bool.and_eq_true] at hp
    rcases List.mem_cons.mp h with z | z
    · rw [z]; exact hp.1
    · exact pls_at hp.2 d z
/-- grounds, as they are meant -/
structure Bed where
  rest : Nat
  ys : List Nat
structure Gr where
  beds : List Bed
  boats : Nat
def tN (xs : List Nat) : D := .tup (xs.map fun n : Nat => .int n)
def Bed.enc (b : Bed) : D := .tup [.int b.rest, tN b.ys]
def bedsD (bs : List Bed) : D := .tup (bs.map Bed.enc)
def Gr.enc (g : Gr) : D := .tup [bedsD g.beds, .int g.boats]
def Bed.most (b : Bed) : Nat := b.rest + b.ys.length - 1
def manyB (bs : List Bed) : Nat := bs.foldl (fun a b => a * (b.most + 1)) 1
structure Bed.wf (b : Bed) : Prop where
  r : b.rest ≤ 3
  l1 : 1 ≤ b.ys.length
  l3 : b.ys.length ≤ 3
  y : ∀ y ∈ b.ys, y ≤ 99
structure Gr.wf (g : Gr) : Prop where
  l1 : 1 ≤ g.beds.length
  l4 : g.beds.length ≤ 4
  b : ∀ b ∈ g.beds, b.wf
  m : manyB g.beds ≤ 120
  b1 : 1 ≤ g.boats
  b2 : g.boats ≤ 2
def toN : D → Nat
  | .int i => i.toNat
  | _ => 0
def toBed : D → Bed
  | .tup [r, .tup ys] => ⟨toN r, ys.map toN⟩
  | _ => ⟨0, []⟩
def toGr : D → Gr
  | .tup [.tup bs, n] => ⟨bs.map toBed, toN n⟩
  | _ => ⟨[], 0⟩
def isBed : D → Bool
  | .tup [r, .tup ys] => isFT 0 3 r && (decide (1 ≤ ys.length) && decide (ys.length ≤ 3)) && ys.all (isFT 0 99)
  | _ => false
def isGr : D → Bool
  | .tup [.tup bs, n] => (decide (1 ≤ bs.length) && decide (bs.length ≤ 4)) && bs.all isBed && (decide (manyB (bs.map toBed) ≤ 120) && isFT 1 2 n)
  | _ => false
theorem isFT_int {a b : Int} {d : D} (h : isFT a b d = true) (ha : 0 ≤ a) : d = .int (toN d) ∧ a ≤ toN d ∧ toN d ≤ b := by
  cases d with
  | int i =>
    simp [isFT, toN] at h ⊢
    omega
  | _ => cases h
theorem ft_list {a b : Int} (ha : 0 ≤ a) : ∀ {xs : List D}, xs.all (isFT a b) = true → xs = xs.map (fun d => .int (toN d)) ∧ ∀ y ∈ xs.map toN, (y : Int) ≤ b
  | [], _ => ⟨rfl, by simp⟩
  | x :: xs, h => by
    rw [List.all_cons, Bool.and_eq_true] at h
    obtain ⟨e1, e2, e3⟩ := isFT_int h.1 ha
    obtain ⟨i1, i2⟩ := ft_list ha h.2
    refine ⟨?_, fun y hy => ?_⟩
    · rw [List.map_cons, ← e1, ← i1]
    · rcases List.mem_cons.mp hy with rfl | hy
      · exact e3
      · exact i2 y hy
theorem isBed_of {d : D} (h : isBed d = true) : d = (toBed d).enc ∧ (toBed d).wf := by
  unfold isBed at h
  split at h
  · rename_i r ys
    simp only [Bool.and_eq_true, decide_eq_true_eq] at h
    obtain ⟨⟨h1, h2, h3⟩, h4⟩ := h
    obtain ⟨e1, e2, e3⟩ := isFT_int h1 (by omega)
    obtain ⟨i1, i2⟩ := ft_list (by omega) h4
    refine ⟨?_, ⟨?_, ?_, ?_, fun y hy => ?_⟩⟩
    · unfold Bed.enc toBed tN
      dsimp only
      rw [← e1, List.map_map]
      exact congrArg (fun z => D.tup [r, .tup z]) i1
    · show toN r ≤ 3; omega
    · show 1 ≤ (ys.map toN).length; simpa using h2
    · show (ys.map toN).length ≤ 3; simpa using h3
    · have := i2 y hy; omega
  · cases h
theorem beds_list : ∀ {xs : List D}, xs.all isBed = true → xs = (xs.map toBed).map Bed.enc ∧ ∀ b ∈ xs.map toBed, b.wf
  | [], _ => ⟨rfl, by simp⟩
  | x :: xs, h => by
    rw [List.all_cons, Bool.and_eq_true] at h
    obtain ⟨e1, e2⟩ := isBed_of h.1
    obtain ⟨i1, i2⟩ := beds_list h.2
    refine ⟨?_, fun y hy => ?_⟩
    · rw [List.map_cons, List.map_cons, ← e1, ← i1]
    · rcases List.mem_cons.mp hy with rfl | hy
      · exact e2
      · exact i2 y hy
theorem isGr_of {d : D} (h : isGr d = true) : d = (toGr d).enc ∧ (toGr d).wf := by
  unfold isGr at h
  split at h
  · rename_i bs n
    simp only [Bool.and_eq_true, decide_eq_true_eq] at h
    obtain ⟨⟨⟨h1, h2⟩, h3⟩, h4, h5⟩ := h
    obtain ⟨e1, e2, e3⟩ := isFT_int h5 (by omega)
    obtain ⟨i1, i2⟩ := beds_list h3
    refine ⟨?_, ⟨?_, ?_, i2, h4, ?_, ?_⟩⟩
    · unfold Gr.enc toGr bedsD
      dsimp only
      rw [← e1, ← i1]
    · show 1 ≤ (bs.map toBed).length; simpa using h1
    · show (bs.map toBed).length ≤ 4; simpa using h2
    · show 1 ≤ toN n; omega
    · show toN n ≤ 2; omega
  · cases h
theorem toN_int {n : Nat} : toN (.int n) = n := by simp [toN]
theorem toBed_enc (b : Bed) : toBed b.enc = b := by
  obtain ⟨r, ys⟩ := b
  unfold Bed.enc tN toBed
  simp [toN_int, Function.comp_def]
theorem isFT_nat {n : Nat} {a b : Int} : isFT a b (.int n) = (decide (a ≤ n) && decide ((n : Int) ≤ b)) := rfl
theorem Bed.wf.is {b : Bed} (h : b.wf) : isBed b.enc = true := by
  obtain ⟨r, ys⟩ := b
  unfold Bed.enc tN isBed
  have h1 := h.r; have h2 := h.l1; have h3 := h.l3
  simp [isFT_nat] at *
  refine ⟨⟨by omega, by omega, by omega⟩, fun y hy => ?_⟩
  have := h.y y hy
  omega
theorem Gr.wf.is {g : Gr} (h : g.wf) : isGr g.enc = true := by
  obtain ⟨bs, n⟩ := g
  unfold Gr.enc bedsD isGr
  have h1 := h.l1; have h2 := h.l4; have h3 := h.m; have h4 := h.b1; have h5 := h.b2
  have e : List.map toBed (bs.map Bed.enc) = bs := by rw [List.map_map]; simp [Function.comp_def, toBed_enc]
  simp [isFT_nat, e] at *
  exact ⟨⟨⟨by omega, by omega⟩, fun b hb => (h.b b hb).is⟩, h3, by omega, by omega⟩
theorem toGr_enc (g : Gr) : toGr g.enc = g := by
  obtain ⟨bs, n⟩ := g
  unfold Gr.enc bedsD toGr
  simp [toN_int, Function.comp_def, toBed_enc]
/-! the defs -/
@[simp] theorem isBed_2 {r : D} {ys : List D} : isBed (.tup [r, .tup ys]) = (isFT 0 3 r && (decide (1 ≤ ys.length) && decide (ys.length ≤ 3)) && ys.all (isFT 0 99)) := rfl
theorem ne_2 {n : Nat} : ((n : Int) + 1 + 1 + 1 == 2) = false := by simp; omega
theorem r_is_bed {k : Nat} {h : Hs} {d : D} (p : d.pl = true) : runF G (k + 3) n_is_bed [d] h = .ok (.bl (isBed d)) h := by
  rw [run_eq (fn := f_is_bed) rfl]
  cases d with
  | tup xs =>
    rw [D.pl] at p
    match xs, p with
    | [], _ => simp [f_is_bed, isBed]
    | [_], _ => simp [f_is_bed, isBed]
    | x :: y :: z :: r, _ => simp [f_is_bed, isBed, ne_2]
    | [r, y], p =>
      simp [D.pls] at p
      obtain ⟨p1, p2⟩ := p
      cases h1 : isFT 0 3 r with
      | false => cases y <;> simp [f_is_bed, r_is_from_to p1, h1, isBed]
      | true =>
        cases y with
        | tup ys =>
          rw [D.pl] at p2
          by_cases h2 : 1 ≤ ys.length
          · by_cases h3 : ys.length ≤ 3
            · have q : ∀ a ∈ ys, oneC (runF G (k + 2)) (.n 1) (.c (.bl true)) x_is_bed_0 a [.v (.tup [r, .tup ys]), .u] h = .ok (some (.bl (isFT 0 99 a))) h := fun a ha => by
                have pa := pls_at p2 a ha
                simp [x_is_bed_0, r_is_from_to pa, keep_pl pa]
              simp [f_is_bed, r_is_from_to p1, h1, dIsi, compB_each q, show ys.length ≤ LIM by unfold LIM; omega, show (1 : Int) ≤ ys.length by omega, show (ys.length : Int) ≤ 3 by omega, h2, h3]
            · simp [f_is_bed, r_is_from_to p1, h1, dIsi, show (1 : Int) ≤ ys.length by omega, show ¬ (ys.length : Int) ≤ 3 by omega, h2, h3]
          · simp [f_is_bed, r_is_from_to p1, h1, dIsi, show ¬ (1 : Int) ≤ ys.length by omega, h2]
        | _ => first | (cases p2; done) | simp [f_is_bed, r_is_from_to p1, h1, dIsi, isBed]
  | _ => first | (cases p; done) | simp [f_is_bed, isBed, dIsi]

@[simp] theorem bed_hand {b : Bed} : b.enc.hand = b.enc := rfl
@[simp] theorem gr_hand {g : Gr} : g.enc.hand = g.enc := rfl
@[simp] theorem bd_hand {bs : List Bed} : (bedsD bs).hand = bedsD bs := rfl
@[simp] theorem tN_hand {xs : List Nat} : (tN xs).hand = tN xs := rfl
@[simp] theorem bed_keep {b : Bed} : b.enc.keep = true := rfl
@[simp] theorem gr_keep {g : Gr} : g.enc.keep = true := rfl
@[simp] theorem bd_keep {bs : List Bed} : (bedsD bs).keep = true := rfl
@[simp] theorem tN_keep {xs : List Nat} : (tN xs).keep = true := rfl
@[simp] theorem bed_ix0 {b : Bed} {h : Hs} : ixR b.enc (.int 0) h = .ok (.int b.rest) h := by unfold Bed.enc; simp
@[simp] theorem bed_ix1 {b : Bed} {h : Hs} : ixR b.enc (.int 1) h = .ok (tN b.ys) h := by unfold Bed.enc; simp
@[simp] theorem gr_ix0 {g : Gr} {h : Hs} : ixR g.enc (.int 0) h = .ok (bedsD g.beds) h := by unfold Gr.enc; simp
@[simp] theorem gr_ix1 {g : Gr} {h : Hs} : ixR g.enc (.int 1) h = .ok (.int g.boats) h := by unfold Gr.enc; simp
@[simp] theorem tN_len {xs : List Nat} : dLen (tN xs) = some (.int xs.length) := by unfold tN; simp
@[simp] theorem bd_len {bs : List Bed} : dLen (bedsD bs) = some (.int bs.length) := by unfold bedsD; simp
@[simp] theorem bd_nb {b : Bool} {bs : List Bed} : nb b (bedsD bs) = some (bedsD bs) := nb_keep rfl
@[simp] theorem bd_it {bs : List Bed} : itSeq (bedsD bs) = some (bs.map Bed.enc) := rfl
@[simp] theorem bd_sq {bs : List Bed} : (bedsD bs).sq? = some (bs.map Bed.enc) := rfl
@[simp] theorem tN_nb {b : Bool} {xs : List Nat} : nb b (tN xs) = some (tN xs) := nb_keep rfl
@[simp] theorem tN_it {xs : List Nat} : itSeq (tN xs) = some (xs.map fun n : Nat => .int n) := rfl
@[simp] theorem tN_sq {xs : List Nat} : (tN xs).sq? = some (xs.map fun n : Nat => .int n) := rfl
theorem r_most_of {k : Nat} {h : Hs} {b : Bed} (w : 1 ≤ b.ys.length) : runF G (k + 1) n_most_of [b.enc] h = .ok (.int b.most) h := by
  rw [run_eq (fn := f_most_of) rfl]
  simp [f_most_of]
  unfold Bed.most
  omega
theorem dMul_s {i j : Int} (h : -(2 ^ 64) < j ∧ j < 2 ^ 64) : dMul (.int i) (.int j) = some (.int (i * j)) := by show (if _ then _ else _) = _; rw [if_pos (.inr h)]
theorem dMul_l {i j : Int} (h : -(2 ^ 64) < i ∧ i < 2 ^ 64) : dMul (.int i) (.int j) = some (.int (i * j)) := by show (if _ then _ else _) = _; rw [if_pos (.inl h)]
theorem Bed.wf.most_le {b : Bed} (h : b.wf) : b.most ≤ 5 := by have := h.r; have := h.l3; unfold Bed.most; omega
theorem s_many_in {k : Nat} {h : Hs} {b : Bed} (n : Nat) (x y : Sl) (wb : b.wf) : inT (runF G (k + 1)) (.n 2) b_many_in_0 b.enc [x, .v (.int n), y] h = .ok (.nx [x, .v (.int (n * (b.most + 1) : Nat)), .v b.enc]) h := by
  have := wb.most_le
  simp [b_many_in_0, r_most_of wb.l1, dMul_s (i := n) (j := (b.most : Int) + 1) (by omega)]
theorem l_many_in {k : Nat} {h : Hs} {bs : List Bed} : ∀ (n : Nat) (x y : Sl), (∀ b ∈ bs, b.wf) → ∃ y', forB (runF G (k + 1)) (.n 2) b_many_in_0 (bs.map Bed.enc) [x, .v (.int n), y] h = .ok (.nx [x, .v (.int (bs.foldl (fun a b => a * (b.most + 1)) n : Nat)), y']) h := by
  induction bs with
  | nil => exact fun n x y _ => ⟨y, by rw [List.map_nil, forB_nil, List.foldl_nil]⟩
  | cons b bs ih =>
    intro n x y w
    obtain ⟨y', e⟩ := ih (n * (b.most + 1)) x (.v b.enc) fun z hz => w z (List.mem_cons_of_mem _ hz)
    refine ⟨y', ?_⟩
    rw [List.map_cons, forB_cons, s_many_in n x y (w b List.mem_cons_self), kFor_nx, List.foldl_cons]
    exact e
theorem r_many_in {k : Nat} {h : Hs} {bs : List Bed} (w : ∀ b ∈ bs, b.wf) : runF G (k + 2) n_many_in [bedsD bs] h = .ok (.int (manyB bs)) h := by
  rw [run_eq (fn := f_many_in) rfl]
  obtain ⟨y', e⟩ := l_many_in (k := k) (h := h) (bs := bs) 1 (.v (bedsD bs)) .u w
  simp at e
  simp [f_many_in, e, manyB]

theorem r_is_grounds {k : Nat} {h : Hs} {d : D} (p : d.pl = true) : runF G (k + 4) n_is_grounds [d] h = .ok (.bl (isGr d)) h := by
  rw [run_eq (fn := f_is_grounds) rfl]
  cases d with
  | tup xs =>
    rw [D.pl] at p
    match xs, p with
    | [], _ => simp [f_is_grounds, isGr]
    | [_], _ => simp [f_is_grounds, isGr]
    | x :: y :: z :: r, _ => simp [f_is_grounds, isGr, ne_2]
    | [b, n], p =>
      simp [D.pls] at p
      obtain ⟨p1, p2⟩ := p
      cases b with
      | tup bs =>
        rw [D.pl] at p1
        by_cases h2 : 1 ≤ bs.length
        · by_cases h3 : bs.length ≤ 4
          · have q : ∀ a ∈ bs, oneC (runF G (k + 3)) (.n 1) (.c (.bl true)) x_is_grounds_0 a [.v (.tup [.tup bs, n]), .u] h = .ok (some (.bl (isBed a))) h := fun a ha => by
              have pa := pls_at p1 a ha
              simp [x_is_grounds_0, r_is_bed pa, keep_pl pa]
            cases h4 : bs.all isBed with
            | false => simp [f_is_grounds, compB_each q, h2, h3, h4, isGr, show (1 : Int) ≤ bs.length by omega, show (bs.length : Int) ≤ 4 by omega, show bs.length ≤ LIM by unfold LIM; omega]
            | true =>
              obtain ⟨e1, e2⟩ := beds_list h4
              have e3 : D.tup bs = bedsD (bs.map toBed) := congrArg D.tup e1
              have e4 : runF G (k + 3) n_many_in [.tup bs] h = .ok (.int (manyB (bs.map toBed))) h := by rw [e3]; exact r_many_in e2
              by_cases h5 : manyB (bs.map toBed) ≤ 120
              · simp [f_is_grounds, compB_each q, h2, h3, h4, isGr, e4, h5, r_is_from_to p2, show (manyB (bs.map toBed) : Int) ≤ 120 by omega, show (1 : Int) ≤ bs.length by omega, show (bs.length : Int) ≤ 4 by omega, show bs.length ≤ LIM by unfold LIM; omega]
              · simp [f_is_grounds, compB_each q, h2, h3, h4, isGr, e4, h5, show ¬ (manyB (bs.map toBed) : Int) ≤ 120 by omega, show (1 : Int) ≤ bs.length by omega, show (bs.length : Int) ≤ 4 by omega, show bs.length ≤ LIM by unfold LIM; omega]
          · simp [f_is_grounds, isGr, h3, show (1 : Int) ≤ bs.length by omega, show ¬ (bs.length : Int) ≤ 4 by omega]
        · simp [f_is_grounds, isGr, h2, show ¬ (1 : Int) ≤ bs.length by omega]
      | _ => first | (cases p1; done) | simp [f_is_grounds, isGr, dIsi]
  | _ => first | (cases p; done) | simp [f_is_grounds, isGr, dIsi]
theorem r_need_grounds {k : Nat} {h : Hs} {d : D} (p : d.pl = true) : runF G (k + 5) n_need_grounds [d] h = if isGr d then .ok .non h else .exc (.exc 1 (.str "no grounds")) h := by
  rw [run_eq (fn := f_need_grounds) rfl]
  cases q : isGr d <;> simp [f_need_grounds, hand_pl p, r_is_grounds p, q]
  rfl
theorem pl_tN : ∀ {xs : List Nat}, (tN xs).pl = true := by
  intro xs
  unfold tN
  rw [D.pl, D.pls_all]
  simp [D.pl]
theorem pl_bed {b : Bed} : b.enc.pl = true := by simp [Bed.enc, D.pl, D.pls, pl_tN]
theorem pl_beds {bs : List Bed} : (bedsD bs).pl = true := by
  unfold bedsD
  rw [D.pl, D.pls_all]
  simp [pl_bed]
theorem pl_gr {g : Gr} : g.enc.pl = true := by simp [Gr.enc, D.pl, D.pls, pl_beds]
/-- standings of grounds -/
def isSt (g : Gr) : D → Bool
  | .tup xs => xs.length == g.beds.length && (xs.zip g.beds).all fun p => isFT 0 p.2.most p.1
  | _ => false
def risN : List Nat → Bool
  | a :: b :: r => decide (a < b) && risN (b :: r)
  | _ => true
def isCa (g : Gr) : D → Bool
  | .tup xs => decide (xs.length ≤ g.boats) && xs.all (isFT 0 (g.beds.length - 1)) && risN (xs.map toN)
  | _ => false
end Tv
end

section
set_option autoImplicit false
set_option maxHeartbeats 1000000
/-! Standings, catches: what may be, what it sells, what stands behind. -/
namespace Tv
open PySem
/-! reading lists -/
theorem atI_nat {α : Type} {xs : List α} {n : Nat} (l : n < xs.length) : L2.atI xs (n : Int) = some (xs[n]'l) := by simp [L2.atI, L2.ixN, l]
/-- a list's number at a place -/
def gN (xs : List Nat) (n : Nat) : Nat := xs.getD n 0
theorem gN_get {xs : List Nat} {n : Nat} (l : n < xs.length) : gN xs n = xs[n]'l := by unfold gN; simp [l]
theorem gN_z {x : Nat} {xs : List Nat} : gN (x :: xs) 0 = x := rfl
theorem gN_s {x : Nat} {xs : List Nat} {n : Nat} : gN (x :: xs) (n + 1) = gN xs n := rfl
theorem tN_at {xs : List Nat} {n : Nat} {h : Hs} (l : n < xs.length) : ixR (tN xs) (.int n) h = .ok (.int (gN xs n : Nat)) h := by
  unfold tN gN
  rw [ixR_tup, ixT n rfl (by simpa using l)]
  simp [l]
def bedAt (bs : List Bed) (n : Nat) : Bed := bs.getD n ⟨0, []⟩
theorem bd_at {bs : List Bed} {n : Nat} {h : Hs} (l : n < bs.length) : ixR (bedsD bs) (.int n) h = .ok (bedAt bs n).enc h := by
  unfold bedsD bedAt
  rw [ixR_tup, ixT n rfl (by simpa using l)]
  simp [l]
theorem bedAt_mem {bs : List Bed} {n : Nat} (l : n < bs.length) : bedAt bs n ∈ bs := by
  unfold bedAt
  simp [l]
/-! equality, membership -/
theorem eqvAll_ints : ∀ {xs ys : List Int}, PyData.eqvAll (xs.map .int) (ys.map .int) = (xs == ys)
  | [], [] => rfl
  | [], _ :: _ => rfl
  | _ :: _, [] => rfl
  | x :: xs, y :: ys => by
    rw [List.map_cons, List.map_cons, PyData.eqvAll, eqvAll_ints, PyData.eqv]
    rfl
theorem py_ints {xs : List Nat} : D.pys (xs.map fun n : Nat => .int n) = (xs.map fun n : Nat => (n : Int)).map .int := by rw [D.pys_map, List.map_map, List.map_map]; rfl
theorem plainAll_ints : ∀ {xs : List Int}, PyData.plainAll (xs.map .int) = true
  | [] => rfl
  | x :: xs => by rw [List.map_cons, PyData.plainAll, plainAll_ints]; rfl
theorem depthAll_ints : ∀ {xs : List Int}, PyData.depthAll (xs.map .int) = 0
  | [] => rfl
  | x :: xs => by rw [List.map_cons, PyData.depthAll, depthAll_ints]; rfl
@[simp] theorem sound_tN {xs : List Nat} : (tN xs).sound = true := by
  unfold D.sound
  have e : (tN xs).py = .tuple ((xs.map fun n : Nat => (n : Int)).map .int) := congrArg PyData.tuple py_ints
  have r : (tN xs).rd = true := pl_tN
  rw [e, r, PyData.plain, plainAll_ints, PyData.depth, depthAll_ints]
  rfl
@[simp] theorem sound_int {i : Int} : (D.int i).sound = true := rfl
@[simp] theorem sound_non : D.non.sound = true := rfl
theorem any_eq {xs : List Nat} {n : Nat} : (xs.any fun x : Nat => ((x : Int) == (n : Int))) = xs.contains n := by
  induction xs with
  | nil => rfl
  | cons x xs ih =>
    rw [List.any_cons, List.contains_cons, ih]
    congr 1
    by_cases e : x = n
    · subst e; simp
    · have e2 : ¬ (x : Int) = n := by omega
      have e3 : ¬ n = x := fun z => e z.symm
      rw [beq_eq_false_iff_ne.mpr e2, beq_eq_false_iff_ne.mpr e3]
@[simp] theorem dIn_tN {n : Nat} {xs : List Nat} : dIn (.int n) (tN xs) = some (decide (n ∈ xs)) := by
  rw [← List.contains_eq_mem]
  show (if (D.int n).sound && (tN xs).sound then some _ else none) = _
  rw [sound_int, sound_tN]
  simp only [Bool.and_self, if_true, List.any_map]
  exact congrArg some any_eq
theorem nat_list_eq : ∀ {xs ys : List Nat}, ((xs.map fun n : Nat => (n : Int)) == (ys.map fun n : Nat => (n : Int))) = (xs == ys)
  | [], [] => rfl
  | [], _ :: _ => rfl
  | _ :: _, [] => rfl
  | x :: xs, y :: ys => by
    rw [List.map_cons, List.map_cons, List.cons_beq_cons, List.cons_beq_cons, nat_list_eq]
    congr 1
    by_cases e : x = y
    · subst e; simp
    · rw [beq_eq_false_iff_ne.mpr e, beq_eq_false_iff_ne.mpr (fun z : (x : Int) = y => e (by omega))]
theorem dEq_tN {xs ys : List Nat} : dEq (tN xs) (tN ys) = some (xs == ys) := by
  show (if (tN xs).sound && (tN ys).sound then some _ else none) = _
  rw [sound_tN, sound_tN]
  have e : ∀ zs : List Nat, (tN zs).py = .tuple ((zs.map fun n : Nat => (n : Int)).map .int) := fun zs => congrArg PyData.tuple py_ints
  rw [e, e, PyData.eqv, eqvAll_ints, nat_list_eq]
  rfl
@[simp] theorem dSl_from {xs : List D} {n : Nat} : dSl (.tup xs) (some (n : Int)) none = some (.tup (xs.drop n)) := by
  show some (D.tup (cutD xs (some (n : Int)) none)) = _
  unfold cutD
  rw [HT.sIx_nat, HT.sIx_none]
  congr 2
  rw [List.take_of_length_le (by rw [List.length_drop]; omega)]
  by_cases h : n ≤ xs.length
  · rw [Nat.min_eq_left h]
  · rw [Nat.min_eq_right (by omega), List.drop_of_length_le (Nat.le_refl _), List.drop_of_length_le (by omega)]
@[simp] theorem dSl_to {xs : List D} {n : Nat} : dSl (.tup xs) none (some (n : Int)) = some (.tup (xs.take n)) := by
  show some (D.tup (cutD xs none (some (n : Int)))) = _
  unfold cutD
  rw [HT.sIx_nat, HT.sIx_none, Nat.sub_zero, List.drop_zero]
  congr 2
  by_cases h : n ≤ xs.length
  · rw [Nat.min_eq_left h]
  · rw [Nat.min_eq_right (by omega), List.take_of_length_le (Nat.le_refl _), List.take_of_length_le (by omega)]
@[simp] theorem dSl_1 {xs : List D} : dSl (.tup xs) (some 1) none = some (.tup (xs.drop 1)) := dSl_from (n := 1)
/-! rising -/
@[simp] theorem itZip_tup {xs ys : List D} : itZip (.tup xs) (.tup ys) = some (zipD xs ys) := rfl
theorem zipD_map {α β : Type} {f : α → D} {g : β → D} : ∀ {xs : List α} {ys : List β}, zipD (xs.map f) (ys.map g) = (xs.zip ys).map fun p => .tup [f p.1, g p.2]
  | [], [] => rfl
  | [], _ :: _ => rfl
  | _ :: _, [] => rfl
  | x :: xs, y :: ys => congrArg (_ :: ·) (zipD_map (xs := xs) (ys := ys))
theorem zipD_mapr {β : Type} {g : β → D} : ∀ {xs : List D} {ys : List β}, zipD xs (ys.map g) = (xs.zip ys).map fun p => .tup [p.1, g p.2]
  | [], [] => rfl
  | [], _ :: _ => rfl
  | _ :: _, [] => rfl
  | x :: xs, y :: ys => congrArg (_ :: ·) (zipD_mapr (xs := xs) (ys := ys))
theorem risN_all : ∀ {xs : List Nat}, ((xs.zip (xs.drop 1)).all fun p => decide (p.1 < p.2)) = risN xs
  | [] => rfl
  | [_] => rfl
  | a :: b :: r => by
    have q := risN_all (xs := b :: r)
    simp only [List.drop_succ_cons, List.drop_zero] at q ⊢
    rw [List.zip_cons_cons, List.all_cons, q]
    rfl
theorem r_are_rising {k : Nat} {h : Hs} {xs : List Nat} (l : xs.length ≤ 1000000) : runF G (k + 1) n_are_rising [tN xs] h = .ok (.bl (risN xs)) h := by
  rw [run_eq (fn := f_are_rising) rfl]
  have q : ∀ a ∈ xs.zip (xs.drop 1), oneC (runF G k) (.t [1, 2]) (.c (.bl true)) x_are_rising_0 ((fun p : Nat × Nat => D.tup [.int p.1, .int p.2]) a) [.v (tN xs), .u, .u] h = .ok (some ((fun p : Nat × Nat => D.bl (decide (p.1 < p.2))) a)) h := fun a _ => by
    simp [x_are_rising_0]
  have e : D.tup ((xs.map fun n : Nat => D.int n).drop 1) = tN (xs.drop 1) := by unfold tN; rw [List.map_drop]
  have e2 : itZip (tN xs) (D.tup ((xs.map fun n : Nat => D.int n).drop 1)) = some ((xs.zip (xs.drop 1)).map fun p : Nat × Nat => D.tup [.int p.1, .int p.2]) := by
    rw [e]; exact congrArg some zipD_map
  have e3 : dSl (tN xs) (some 1) none = some (.tup ((xs.map fun n : Nat => D.int n).drop 1)) := dSl_1
  have l2 : (xs.zip (xs.drop 1)).length ≤ LIM := by rw [List.length_zip]; unfold LIM; omega
  simp only [List.drop_one] at q e2 e3 l2
  simp [f_are_rising, e2, e3, compB_all q, -List.length_zip, l2, dBi_all]
  have := risN_all (xs := xs)
  simpa using this

/-! the defs about standings -/
theorem itZip_bd {xs : List D} {bs : List Bed} : itZip (.tup xs) (bedsD bs) = some ((xs.zip bs).map fun p => .tup [p.1, p.2.enc]) := congrArg some zipD_mapr
def stB (bs : List Bed) (xs : List D) : Bool := (xs.zip bs).all fun p => isFT 0 p.2.most p.1
theorem zip_mem {α β : Type} {xs : List α} {ys : List β} {p : α × β} (h : p ∈ xs.zip ys) : p.1 ∈ xs ∧ p.2 ∈ ys := List.of_mem_zip h
theorem r_is_standing_of {k : Nat} {h : Hs} {g : Gr} (w : g.wf) {d : D} (p : d.pl = true) : runF G (k + 3) n_is_standing_of [g.enc, d] h = .ok (.bl (isSt g d)) h := by
  rw [run_eq (fn := f_is_standing_of) rfl]
  cases d with
  | tup xs =>
    rw [D.pl] at p
    have hb := w.l4
    by_cases e : xs.length = g.beds.length
    · have q : ∀ a ∈ xs.zip g.beds, oneC (runF G (k + 2)) (.t [2, 3]) (.c (.bl true)) x_is_standing_of_0 ((fun p : D × Bed => D.tup [p.1, p.2.enc]) a) [.v g.enc, .v (.tup xs), .u, .u] h = .ok (some ((fun p : D × Bed => D.bl (isFT 0 p.2.most p.1)) a)) h := fun a ha => by
        obtain ⟨a1, a2⟩ := zip_mem ha
        simp [x_is_standing_of_0, hand_pl (pls_at p _ a1), r_most_of (w.b _ a2).l1, r_is_from_to (pls_at p _ a1)]
      have l2 : (xs.zip g.beds).length ≤ LIM := by rw [List.length_zip]; unfold LIM; omega
      simp [f_is_standing_of, e, itZip_bd, compB_all q, l2, -List.length_zip, dBi_all, isSt]
    · have e2 : ((xs.length : Int) == (g.beds.length : Int)) = false := by rw [beq_eq_false_iff_ne]; omega
      simp [f_is_standing_of, e2, isSt, e]
  | _ => first | (cases p; done) | simp [f_is_standing_of, isSt, dIsi]
theorem r_need_standing {k : Nat} {h : Hs} {g : Gr} (w : g.wf) {d : D} (p : d.pl = true) : runF G (k + 6) n_need_standing [g.enc, d] h = if isSt g d then .ok .non h else .exc (.exc 2 (.str "no standing")) h := by
  rw [run_eq (fn := f_need_standing) rfl]
  cases q : isSt g d <;> simp [f_need_standing, hand_pl p, r_need_grounds pl_gr, w.is, r_is_standing_of w p, q]
  rfl
theorem r_is_catch_of {k : Nat} {h : Hs} {g : Gr} (w : g.wf) {d : D} (p : d.pl = true) : runF G (k + 3) n_is_catch_of [g.enc, d] h = .ok (.bl (isCa g d)) h := by
  rw [run_eq (fn := f_is_catch_of) rfl]
  cases d with
  | tup xs =>
    rw [D.pl] at p
    have hb := w.b2
    by_cases e : xs.length ≤ g.boats
    · have q : ∀ a ∈ xs, oneC (runF G (k + 2)) (.n 2) (.c (.bl true)) x_is_catch_of_0 a [.v g.enc, .v (.tup xs), .u] h = .ok (some (.bl (isFT 0 ((g.beds.length : Int) - 1) a))) h := fun a ha => by
        have pa := pls_at p a ha
        simp [x_is_catch_of_0, keep_pl pa, r_is_from_to pa]
      cases q2 : xs.all (isFT 0 ((g.beds.length : Int) - 1)) with
      | false => simp [f_is_catch_of, compB_each q, show ¬ (g.boats : Int) < xs.length by omega, show xs.length ≤ LIM by unfold LIM; omega, q2, isCa]
      | true =>
        obtain ⟨i1, i2⟩ := ft_list (by omega) q2
        have e3 : D.tup xs = tN (xs.map toN) := by
          show D.tup xs = D.tup _
          rw [List.map_map]
          exact congrArg D.tup i1
        have e4 := r_are_rising (k := k + 1) (h := h) (xs := xs.map toN) (by rw [List.length_map]; omega)
        rw [← e3] at e4
        simp [f_is_catch_of, compB_each q, show ¬ (g.boats : Int) < xs.length by omega, show xs.length ≤ LIM by unfold LIM; omega, q2, isCa, e4, e]
    · simp [f_is_catch_of, show (g.boats : Int) < xs.length by omega, isCa, e]
  | _ => first | (cases p; done) | simp [f_is_catch_of, isCa, dIsi]
end Tv
end

section
set_option autoImplicit false
set_option maxHeartbeats 1000000
/-! What may be, what it sells, what stands behind. -/
namespace Tv
open PySem
def toNs : D → List Nat
  | .tup xs => xs.map toN
  | _ => []
structure StW (g : Gr) (s : List Nat) : Prop where
  len : s.length = g.beds.length
  le : ∀ i, i < g.beds.length → gN s i ≤ (bedAt g.beds i).most
structure CaW (g : Gr) (c : List Nat) : Prop where
  len : c.length ≤ g.boats
  lt : ∀ b ∈ c, b < g.beds.length
  ris : risN c = true
theorem isFT_nat2 {n m : Nat} : isFT 0 (m : Int) (.int (n : Int)) = decide (n ≤ m) := by
  rw [isFT_nat]
  by_cases q : n ≤ m
  · simp [q]
  · simp [q]
theorem zip_all : ∀ {s : List Nat} {bs : List Bed}, s.length = bs.length → (((s.zip bs).all fun p => decide (p.1 ≤ p.2.most)) = true ↔ ∀ i, i < bs.length → gN s i ≤ (bedAt bs i).most)
  | [], [], _ => by simp
  | [], _ :: _, h => by cases h
  | _ :: _, [], h => by cases h
  | x :: s, b :: bs, h => by
    have ih := zip_all (s := s) (bs := bs) (by simpa using h)
    rw [List.zip_cons_cons, List.all_cons, Bool.and_eq_true, ih]
    constructor
    · rintro ⟨h1, h2⟩ i hi
      cases i with
      | zero => simpa [bedAt, gN_z, gN_s] using h1
      | succ i =>
        have := h2 i (by simpa using hi)
        simpa [bedAt, gN_z, gN_s] using this
    · intro h1
      refine ⟨?_, fun i hi => ?_⟩
      · simpa [bedAt, gN_z, gN_s] using h1 0 (by simp)
      · simpa [bedAt, gN_z, gN_s] using h1 (i + 1) (by simpa using hi)
theorem isSt_tN {g : Gr} {s : List Nat} : isSt g (tN s) = true ↔ StW g s := by
  unfold tN isSt
  have e : ((s.map fun n : Nat => D.int n).zip g.beds).all (fun p => isFT 0 p.2.most p.1) = (s.zip g.beds).all fun p => decide (p.1 ≤ p.2.most) := by
    rw [List.zip_map_left, List.all_map]
    congr 1
    funext p
    exact isFT_nat2
  simp only [e, List.length_map, Bool.and_eq_true, beq_iff_eq]
  constructor
  · rintro ⟨h1, h2⟩
    exact ⟨h1, (zip_all h1).mp h2⟩
  · rintro ⟨h1, h2⟩
    exact ⟨h1, (zip_all h1).mpr h2⟩
theorem st_list : ∀ {xs : List D} {bs : List Bed}, xs.length = bs.length → ((xs.zip bs).all fun p => isFT 0 p.2.most p.1) = true → xs = (xs.map toN).map fun n : Nat => .int n
  | [], _, _, _ => rfl
  | _ :: _, [], h, _ => by cases h
  | x :: xs, b :: bs, h, q => by
    rw [List.zip_cons_cons, List.all_cons, Bool.and_eq_true] at q
    obtain ⟨e1, _⟩ := isFT_int q.1 (by omega)
    have i1 := st_list (xs := xs) (bs := bs) (by simpa using h) q.2
    rw [List.map_cons, List.map_cons, ← e1, ← i1]
theorem isSt_of {g : Gr} {d : D} (h : isSt g d = true) : d = tN (toNs d) ∧ StW g (toNs d) := by
  have e : d = tN (toNs d) := by
    unfold isSt at h
    split at h
    · rename_i xs
      simp only [Bool.and_eq_true, beq_iff_eq] at h
      exact congrArg D.tup (st_list h.1 h.2)
    · cases h
  exact ⟨e, isSt_tN.mp (by rw [← e]; exact h)⟩
theorem isCa_tN {g : Gr} (w : 1 ≤ g.beds.length) {c : List Nat} : isCa g (tN c) = true ↔ CaW g c := by
  unfold tN isCa
  have e1 : (c.map fun n : Nat => D.int n).all (isFT 0 ((g.beds.length : Int) - 1)) = c.all fun n => decide (n < g.beds.length) := by
    rw [List.all_map]
    congr 1
    funext n
    show isFT 0 ((g.beds.length : Int) - 1) (.int n) = _
    rw [isFT_nat]
    by_cases q : n < g.beds.length
    · simp [q]; omega
    · simp [q]; omega
  have e2 : (c.map fun n : Nat => D.int n).map toN = c := by
    rw [List.map_map]
    simp [Function.comp_def, toN_int]
  simp only [e1, e2, List.length_map, Bool.and_eq_true, decide_eq_true_eq, List.all_eq_true]
  exact ⟨fun ⟨⟨h1, h2⟩, h3⟩ => ⟨h1, h2, h3⟩, fun ⟨h1, h2, h3⟩ => ⟨⟨h1, h2⟩, h3⟩⟩
theorem isCa_of {g : Gr} (w : 1 ≤ g.beds.length) {d : D} (h : isCa g d = true) : d = tN (toNs d) ∧ CaW g (toNs d) := by
  have e : d = tN (toNs d) := by
    unfold isCa at h
    split at h
    · rename_i xs
      simp only [Bool.and_eq_true, decide_eq_true_eq] at h
      obtain ⟨i1, _⟩ := ft_list (by omega) h.1.2
      show D.tup xs = D.tup ((xs.map toN).map fun n : Nat => D.int n)
      rw [List.map_map]
      exact congrArg D.tup i1
    · cases h
  exact ⟨e, (isCa_tN w).mp (by rw [← e]; exact h)⟩
/-! what a catch does -/
def canB (bs : List Bed) (s : List Nat) (b : Nat) : Bool := decide ((bedAt bs b).rest ≤ gN s b)
def mayB (g : Gr) (s c : List Nat) : Bool := c.all (canB g.beds s)
def soldAt (bs : List Bed) (s : List Nat) (b : Nat) : Nat := gN (bedAt bs b).ys (gN s b - (bedAt bs b).rest)
def soldB (g : Gr) (s c : List Nat) : Nat := (c.map (soldAt g.beds s)).sum
def nextF (s c : List Nat) : Nat → List Bed → List Nat
  | _, [] => []
  | i, b :: bs => (if i ∈ c then 0 else min (gN s i + 1) b.most) :: nextF s c (i + 1) bs
def nextB (g : Gr) (s c : List Nat) : List Nat := nextF s c 0 g.beds
theorem nextF_len {s c : List Nat} : ∀ {i : Nat} {bs : List Bed}, (nextF s c i bs).length = bs.length
  | _, [] => rfl
  | i, b :: bs => congrArg (· + 1) (nextF_len (i := i + 1) (bs := bs))
theorem nextF_at {s c : List Nat} : ∀ {i j : Nat} {bs : List Bed}, j < bs.length → gN (nextF s c i bs) j = if i + j ∈ c then 0 else min (gN s (i + j) + 1) (bedAt bs j).most
  | _, _, [], h => by simp at h
  | i, 0, b :: bs, _ => by simp [nextF, bedAt, gN_z]
  | i, j + 1, b :: bs, h => by
    have q := nextF_at (s := s) (c := c) (i := i + 1) (j := j) (bs := bs) (by simpa using h)
    simp only [nextF, gN_s, q, bedAt, List.getD_cons_succ]
    rw [show i + 1 + j = i + (j + 1) by omega]
theorem nextB_at {g : Gr} {s c : List Nat} {j : Nat} (h : j < g.beds.length) : gN (nextB g s c) j = if j ∈ c then 0 else min (gN s j + 1) (bedAt g.beds j).most := by
  have q := nextF_at (s := s) (c := c) (i := 0) h
  rw [Nat.zero_add] at q
  exact q
theorem StW.next {g : Gr} {s c : List Nat} : StW g (nextB g s c) := by
  refine ⟨nextF_len, fun i hi => ?_⟩
  rw [nextB_at hi]
  split <;> omega
theorem r_may_go {k : Nat} {h : Hs} {g : Gr} {s c : List Nat} (w : g.wf) (ws : StW g s) (wc : CaW g c) : runF G (k + 1) n_may_go [g.enc, tN s, tN c] h = .ok (.bl (mayB g s c)) h := by
  rw [run_eq (fn := f_may_go) rfl]
  have q : ∀ a ∈ c, oneC (runF G k) (.n 3) (.c (.bl true)) x_may_go_0 ((fun n : Nat => D.int n) a) [.v g.enc, .v (tN s), .v (tN c), .u] h = .ok (some ((fun b : Nat => D.bl (canB g.beds s b)) a)) h := fun a ha => by
    have l := wc.lt a ha
    simp [x_may_go_0, tN_at (show a < s.length by rw [ws.len]; exact l), bd_at l, canB]
  have l2 := wc.len
  have l3 := w.b2
  simp [f_may_go, compB_all q, show c.length ≤ LIM by unfold LIM; omega, mayB]
theorem sumI {f : Nat → Nat} {xs : List Nat} : dBi .sum [.lst (xs.map fun x => .int (f x))] = some (.int ((xs.map f).sum : Nat)) := by
  show (allI _).map _ = _
  rw [allI_map]
  show some (D.int _) = _
  congr 2
  induction xs with
  | nil => rfl
  | cons x xs ih => simp only [List.map_cons, List.sum_cons, ih]; omega
theorem Bed.wf.sub {b : Bed} (w : b.wf) {x : Nat} (h : b.rest ≤ x) (h2 : x ≤ b.most) : x - b.rest < b.ys.length := by
  have := w.l1
  unfold Bed.most at h2
  omega
theorem tN_sub {xs : List Nat} {a b : Nat} {h : Hs} (l : b ≤ a) (l2 : a - b < xs.length) : ixR (tN xs) (.int ((a : Int) - (b : Int))) h = .ok (.int (gN xs (a - b) : Nat)) h := by
  rw [show ((a : Int) - (b : Int)) = ((a - b : Nat) : Int) by omega]
  exact tN_at l2
theorem mayB_at {g : Gr} {s c : List Nat} (m : mayB g s c = true) {b : Nat} (h : b ∈ c) : (bedAt g.beds b).rest ≤ gN s b := by
  unfold mayB at m
  rw [List.all_eq_true] at m
  exact of_decide_eq_true (m b h)
theorem r_baskets_in {k : Nat} {h : Hs} {g : Gr} {s c : List Nat} (w : g.wf) (ws : StW g s) (wc : CaW g c) (m : mayB g s c = true) : runF G (k + 1) n_baskets_in [g.enc, tN s, tN c] h = .ok (.int (soldB g s c : Nat)) h := by
  rw [run_eq (fn := f_baskets_in) rfl]
  have q : ∀ a ∈ c, oneC (runF G k) (.n 3) (.c (.bl true)) x_baskets_in_0 ((fun n : Nat => D.int n) a) [.v g.enc, .v (tN s), .v (tN c), .u] h = .ok (some ((fun b : Nat => D.int (soldAt g.beds s b : Nat)) a)) h := fun a ha => by
    have l := wc.lt a ha
    have l2 := mayB_at m ha
    have l3 := (w.b _ (bedAt_mem l)).sub l2 (ws.le a l)
    simp [x_baskets_in_0, tN_at (show a < s.length by rw [ws.len]; exact l), bd_at l, tN_sub l2 l3, soldAt]
  have l2 := wc.len
  have l3 := w.b2
  simp [f_baskets_in, compB_all q, show c.length ≤ LIM by unfold LIM; omega, soldB, sumI]
end Tv
end

section
set_option autoImplicit false
set_option maxHeartbeats 1000000
/-! Courses. -/
namespace Tv
open PySem
def lN (xs : List Nat) : D := .lst (xs.map fun n : Nat => .int n)
def oD : Option Nat → D
  | none => .non
  | some n => .int n
def tC (cs : List (List Nat)) : D := .tup (cs.map tN)
@[simp] theorem lN_hand {xs : List Nat} : (lN xs).hand = lN xs := rfl
@[simp] theorem lN_keep {xs : List Nat} : (lN xs).keep = true := rfl
@[simp] theorem tC_hand {xs : List (List Nat)} : (tC xs).hand = tC xs := rfl
@[simp] theorem tC_keep {xs : List (List Nat)} : (tC xs).keep = true := rfl
@[simp] theorem tC_nb {b : Bool} {xs : List (List Nat)} : nb b (tC xs) = some (tC xs) := nb_keep rfl
@[simp] theorem tC_it {xs : List (List Nat)} : itSeq (tC xs) = some (xs.map tN) := rfl
@[simp] theorem tC_sq {xs : List (List Nat)} : (tC xs).sq? = some (xs.map tN) := rfl
@[simp] theorem tC_len {xs : List (List Nat)} : dLen (tC xs) = some (.int xs.length) := by unfold tC; simp
@[simp] theorem enmD_nil {n : Nat} : enmD n [] = [] := rfl
@[simp] theorem enmD_cons {n : Nat} {x : D} {xs : List D} : enmD n (x :: xs) = .tup [.int n, x] :: enmD (n + 1) xs := rfl
@[simp] theorem dMin2_int {i j : Int} : dBi .min2 [.int i, .int j] = some (.int (if j < i then j else i)) := rfl
@[simp] theorem dMax2_int {i j : Int} : dBi .max2 [.int i, .int j] = some (.int (if j > i then j else i)) := rfl
@[simp] theorem dTuple_bor {xs : List D} : dBi .tuple [.bor xs] = some (.tup xs) := rfl
@[simp] theorem dTuple_lst {xs : List D} : dBi .tuple [.lst xs] = some (.tup xs) := rfl
@[simp] theorem dTuple_scr {xs : List D} : dBi .tuple [.scr xs] = some (.tup xs) := rfl
@[simp] theorem dList_tup {xs : List D} : dBi .list [.tup xs] = some (.lst xs) := rfl
@[simp] theorem dList_tN {xs : List Nat} : dBi .list [tN xs] = some (.lst (xs.map fun n : Nat => .int n)) := rfl
theorem min_cast {a b : Nat} : (if (b : Int) < (a : Int) then (b : Int) else (a : Int)) = ((min a b : Nat) : Int) := by
  by_cases h : b < a
  · rw [if_pos (by omega)]; omega
  · rw [if_neg (by omega)]; omega
theorem s_next_of {k : Nat} {h : Hs} {g : Gr} {s c : List Nat} {i : Nat} {b : Bed} {acc : List D} {u v : Sl} (wb : b.wf) (ls : i < s.length) (la : acc.length < 1000) :
    inT (runF G (k + 1)) (.t [4, 5]) b_next_of_0 (.tup [.int i, b.enc]) [.v g.enc, .v (tN s), .v (tN c), .o acc, u, v] h = .ok (.nx [.v g.enc, .v (tN s), .v (tN c), .o (acc ++ [.int (if i ∈ c then 0 else min (gN s i + 1) b.most : Nat)]), .v (.int i), .v b.enc]) h := by
  have l1 : acc.length < LIM := by unfold LIM; omega
  have e : ∀ {h : Hs}, ixR (tN s) (.int i) h = .ok (.int (gN s i : Nat)) h := tN_at ls
  by_cases q : i ∈ c
  · simp [b_next_of_0, q, l1]
  · simp [b_next_of_0, q, e, r_most_of wb.l1, l1]
    by_cases z : b.most < gN s i + 1
    · rw [if_pos (by omega)]; omega
    · rw [if_neg (by omega)]; omega
theorem l_next_of {k : Nat} {h : Hs} {g : Gr} {s c : List Nat} {bs : List Bed} : ∀ {i : Nat} {acc : List Nat} {u v : Sl}, (∀ b ∈ bs, b.wf) → i + bs.length ≤ s.length → acc.length + bs.length ≤ 1000 →
    ∃ u' v', forB (runF G (k + 1)) (.t [4, 5]) b_next_of_0 (enmD i (bs.map Bed.enc)) [.v g.enc, .v (tN s), .v (tN c), .o (acc.map fun n : Nat => .int n), u, v] h = .ok (.nx [.v g.enc, .v (tN s), .v (tN c), .o ((acc ++ nextF s c i bs).map fun n : Nat => .int n), u', v']) h := by
  induction bs with
  | nil => exact fun {i acc u v} _ _ _ => ⟨u, v, by simp [nextF]⟩
  | cons b bs ih =>
    intro i acc u v w l1 l2
    rw [List.length_cons] at l1 l2
    obtain ⟨u', v', e⟩ := ih (i := i + 1) (acc := acc ++ [if i ∈ c then 0 else min (gN s i + 1) b.most]) (u := .v (.int i)) (v := .v b.enc) (fun z hz => w z (List.mem_cons_of_mem _ hz)) (by omega) (by rw [List.length_append, List.length_singleton]; omega)
    refine ⟨u', v', ?_⟩
    rw [List.map_cons, enmD_cons, forB_cons, s_next_of (w b List.mem_cons_self) (by omega) (by rw [List.length_map]; omega), kFor_nx]
    rw [List.map_append, List.map_singleton, List.append_assoc, List.singleton_append] at e
    exact e
theorem r_next_of {k : Nat} {h : Hs} {g : Gr} {s c : List Nat} (w : g.wf) (ls : s.length = g.beds.length) : runF G (k + 2) n_next_of [g.enc, tN s, tN c] h = .ok (tN (nextB g s c)) h := by
  rw [run_eq (fn := f_next_of) rfl]
  have := w.l4
  obtain ⟨u, v, e⟩ := l_next_of (k := k) (h := h) (g := g) (s := s) (c := c) (bs := g.beds) (i := 0) (acc := []) (u := .u) (v := .u) w.b (by omega) (by simp; omega)
  rw [List.map_nil, List.nil_append] at e
  simp [f_next_of, e]
  rfl
theorem pl_ref : (D.bl true).pl = true := rfl
/-! courses -/
def isCo (g : Gr) : D → Bool
  | .tup xs => decide (xs.length ≤ 150) && xs.all (isCa g)
  | _ => false
theorem r_is_course {k : Nat} {h : Hs} {g : Gr} (w : g.wf) {d : D} (p : d.pl = true) : runF G (k + 4) n_is_course [g.enc, d] h = .ok (.bl (isCo g d)) h := by
  rw [run_eq (fn := f_is_course) rfl]
  cases d with
  | tup xs =>
    rw [D.pl] at p
    by_cases e : xs.length ≤ 150
    · have q : ∀ a ∈ xs, oneC (runF G (k + 3)) (.n 2) (.c (.bl true)) x_is_course_0 a [.v g.enc, .v (.tup xs), .u] h = .ok (some (.bl (isCa g a))) h := fun a ha => by
        have pa := pls_at p a ha
        simp [x_is_course_0, keep_pl pa, hand_pl pa, r_is_catch_of w pa]
      simp [f_is_course, compB_each q, show ¬ (150 : Int) < xs.length by omega, show xs.length ≤ LIM by unfold LIM; omega, isCo, e]
    · simp [f_is_course, show (150 : Int) < xs.length by omega, isCo, e]
  | _ => first | (cases p; done) | simp [f_is_course, isCo, dIsi]
theorem pl_tC {cs : List (List Nat)} : (tC cs).pl = true := by
  unfold tC
  rw [D.pl, D.pls_all]
  simp [pl_tN]
theorem isCo_tC {g : Gr} (w : 1 ≤ g.beds.length) {cs : List (List Nat)} : isCo g (tC cs) = true ↔ cs.length ≤ 150 ∧ ∀ c ∈ cs, CaW g c := by
  unfold tC isCo
  simp only [List.length_map, Bool.and_eq_true, decide_eq_true_eq, List.all_map, List.all_eq_true, Function.comp_def, isCa_tN w]
theorem r_need_course {k : Nat} {h : Hs} {g : Gr} {s : List Nat} (w : g.wf) (ws : StW g s) {d : D} (p : d.pl = true) : runF G (k + 7) n_need_course [g.enc, tN s, d] h = if isCo g d then .ok .non h else .exc (.exc 4 (.str "no course")) h := by
  rw [run_eq (fn := f_need_course) rfl]
  cases q : isCo g d <;> simp [f_need_course, hand_pl p, r_need_standing w pl_tN, isSt_tN.mpr ws, r_is_course w p, q]
  rfl
/-- what each year sells, the standing behind, the first year that breaks -/
def goneB (g : Gr) : Nat → List Nat → List (List Nat) → List Nat × List Nat × Option Nat
  | _, s, [] => ([], s, none)
  | y, s, c :: cs => if mayB g s c then (soldB g s c :: (goneB g (y + 1) (nextB g s c) cs).1, (goneB g (y + 1) (nextB g s c) cs).2) else ([], s, some y)
def goneR (g : Gr) (z : Sl) (acc : List Nat) (h : Hs) (u v : Sl) (r : List Nat × List Nat × Option Nat) : R Fl := match r.2.2 with
  | none => .ok (.nx [.v g.enc, .v (tN r.2.1), z, .o ((acc ++ r.1).map fun n : Nat => .int n), u, v]) h
  | some n => .ok (.rt (.tup [lN (acc ++ r.1), tN r.2.1, .int n])) h
theorem l_gone_through {k : Nat} {h : Hs} {g : Gr} (w : g.wf) {z : D} {cs : List (List Nat)} : ∀ {y : Nat} {s : List Nat} {acc : List Nat} {u v : Sl}, StW g s → (∀ c ∈ cs, CaW g c) → acc.length + cs.length ≤ 1000 →
    ∃ u' v', forB (runF G (k + 2)) (.t [4, 5]) b_gone_through_0 (enmD y (cs.map tN)) [.v g.enc, .v (tN s), .v z, .o (acc.map fun n : Nat => .int n), u, v] h = goneR g (.v z) acc h u' v' (goneB g y s cs) := by
  induction cs with
  | nil => exact fun {y s acc u v} _ _ _ => ⟨u, v, by simp [goneB, goneR]⟩
  | cons c cs ih =>
    intro y s acc u v ws wc l
    rw [List.length_cons] at l
    have wc0 := wc c List.mem_cons_self
    have l1 : acc.length < LIM := by unfold LIM; omega
    rw [List.map_cons, enmD_cons, forB_cons]
    cases m : mayB g s c with
    | false =>
      refine ⟨u, v, ?_⟩
      have st : inT (runF G (k + 2)) (.t [4, 5]) b_gone_through_0 (.tup [.int y, tN c]) [.v g.enc, .v (tN s), .v z, .o (acc.map fun n : Nat => .int n), u, v] h = .ok (.rt (.tup [lN acc, tN s, .int y])) h := by
        simp [b_gone_through_0, r_may_go w ws wc0, m]
        rfl
      rw [st, kFor_rt]
      simp [goneB, goneR, m]
    | true =>
      obtain ⟨u', v', e⟩ := ih (y := y + 1) (s := nextB g s c) (acc := acc ++ [soldB g s c]) (u := .v (.int y)) (v := .v (tN c)) StW.next (fun b hb => wc b (List.mem_cons_of_mem _ hb)) (by rw [List.length_append, List.length_singleton]; omega)
      refine ⟨u', v', ?_⟩
      have st : inT (runF G (k + 2)) (.t [4, 5]) b_gone_through_0 (.tup [.int y, tN c]) [.v g.enc, .v (tN s), .v z, .o (acc.map fun n : Nat => .int n), u, v] h = .ok (.nx [.v g.enc, .v (tN (nextB g s c)), .v z, .o ((acc ++ [soldB g s c]).map fun n : Nat => .int n), .v (.int y), .v (tN c)]) h := by
        simp [b_gone_through_0, r_may_go w ws wc0, m, r_baskets_in w ws wc0 m, r_next_of w ws.len, l1]
      rw [st, kFor_nx, e]
      unfold goneR
      simp only [goneB, m, if_true, List.append_assoc, List.singleton_append]
def goneD (r : List Nat × List Nat × Option Nat) : D := .tup [lN r.1, tN r.2.1, oD r.2.2]
theorem r_gone_through {k : Nat} {h : Hs} {g : Gr} (w : g.wf) {cs : List (List Nat)} {s : List Nat} (ws : StW g s) (wc : ∀ c ∈ cs, CaW g c) (l : cs.length ≤ 1000) : runF G (k + 3) n_gone_through [g.enc, tN s, tC cs] h = .ok (goneD (goneB g 0 s cs)) h := by
  rw [run_eq (fn := f_gone_through) rfl]
  obtain ⟨u, v, e⟩ := l_gone_through (k := k) (h := h) w (z := tC cs) (cs := cs) (y := 0) (s := s) (acc := []) (u := .u) (v := .u) ws wc (by simpa using l)
  rw [List.map_nil] at e
  unfold goneR at e
  cases q : (goneB g 0 s cs).2.2 with
  | none =>
    rw [q] at e
    simp [f_gone_through, e]
    simp [goneD, oD, q, lN]
  | some n =>
    rw [q] at e
    simp [f_gone_through, e]
    simp [goneD, oD, q]
@[simp] theorem goneD_2 {r : List Nat × List Nat × Option Nat} {h : Hs} : ixR (goneD r) (.int 2) h = .ok (oD r.2.2) h := by unfold goneD; simp
theorem r_first_break {k : Nat} {h : Hs} {g : Gr} (w : g.wf) {cs : List (List Nat)} {s : List Nat} (ws : StW g s) (wc : ∀ c ∈ cs, CaW g c) (l : cs.length ≤ 150) : runF G (k + 8) n_first_break [g.enc, tN s, tC cs] h = .ok (oD (goneB g 0 s cs).2.2) h := by
  rw [run_eq (fn := f_first_break) rfl]
  have kp : ∀ o, (oD o).keep = true := fun o => by cases o <;> rfl
  simp [f_first_break, r_need_course w ws pl_tC, (isCo_tC w.l1).mpr ⟨l, wc⟩, r_gone_through w ws wc (by omega : cs.length ≤ 1000), kp]
end Tv
end

section
set_option autoImplicit false
set_option maxHeartbeats 1000000
/-! The laws' own draws: boxes, digits, grounds. -/
namespace Tv
open PySem
def BoxAt (h : Hs) (i : Nat) : Prop := ∃ a b : Nat, h[i]? = some (.lst [.int a, .int b])
theorem ix_box0 {h : Hs} {i : Nat} {x y : D} (q : h[i]? = some (.lst [x, y])) : ixR (.ref i) (.int 0) h = .ok x h := by
  unfold ixR; simp [q, L2.atI, L2.ixN]
theorem ix_box1 {h : Hs} {i : Nat} {x y : D} (q : h[i]? = some (.lst [x, y])) : ixR (.ref i) (.int 1) h = .ok y h := by
  unfold ixR; simp [q, L2.atI, L2.ixN]
theorem st_box0 {h : Hs} {i : Nat} {x y z : D} (q : h[i]? = some (.lst [x, y])) : stR (.ref i) (.int 0) z h = some (h.set i (.lst [z, y])) := by
  unfold stR; simp [q, setL, L2.ixN]
theorem st_box1 {h : Hs} {i : Nat} {x y z : D} (q : h[i]? = some (.lst [x, y])) : stR (.ref i) (.int 1) z h = some (h.set i (.lst [x, z])) := by
  unfold stR; simp [q, setL, L2.ixN]
theorem set_at {h : Hs} {i : Nat} {o p : Ob} (q : h[i]? = some p) : (h.set i o)[i]? = some o := by
  have l := (List.getElem?_eq_some_iff.mp q).1
  simp [l]
@[simp] theorem dDivmod_nat {a m : Nat} (h : 0 < m) (h2 : m < 1073741824) : dBi .divmod [.int a, .int m] = some (.tup [.int (a / m : Nat), .int (a % m : Nat)]) := by
  show dDivmod (.int a) (.int m) = _
  unfold dDivmod
  simp only
  rw [if_pos (by omega)]
  simp
@[simp] theorem dDiv_nat {a m : Nat} (h : 0 < m) (h2 : m < 1073741824) : dDiv (.int a) (.int m) = some (.int (a / m : Nat)) := by
  show (if _ then _ else _) = _
  rw [if_pos (by omega)]
  simp
@[simp] theorem dMod_nat {a m : Nat} (h : 0 < m) : dMod (.int a) (.int m) = some (.int (a % m : Nat)) := by
  show (if _ then _ else _) = _
  rw [if_pos (by omega)]
  simp
theorem dMod_int {i m : Int} (h : 0 < m) : dMod (.int i) (.int m) = some (.int (i % m)) := by
  show (if _ then _ else _) = _
  rw [if_pos h]
theorem dDiv_int {i m : Int} (h : 0 < m) (h2 : m < 1073741824) : dDiv (.int i) (.int m) = some (.int (i / m)) := by
  show (if _ then _ else _) = _
  rw [if_pos ⟨h, h2⟩]
/-- the digit that a mixed number gives -/
def mixD (b m : Nat) : Nat := ((b / 1009 + 1) * (b / 1009 + 1) * (b / 1009 + 1) % 2147483629) / 61 % m
theorem r_take {k : Nat} {h : Hs} {i m : Nat} {M : Int} (eM : M = m) (q : BoxAt h i) (h1 : 0 < m) (h2 : m < 1073741824) : ∃ d h', runF G (k + 1) n_l_take [.ref i, .int M] h = .ok (.int (d : Nat)) h' ∧ d < m ∧ BoxAt h' i := by
  subst eM
  obtain ⟨a, b, e⟩ := q
  rw [run_eq (fn := f_l_take) rfl]
  by_cases z : 0 < a
  · refine ⟨a % m, h.set i (.lst [.int (a / m : Nat), .int b]), ?_, Nat.mod_lt _ h1, ⟨_, _, set_at e⟩⟩
    simp [f_l_take, ix_box0 e, z, dDivmod_nat h1 h2, sd2R_some (st_box0 e)]
  · have ea : a = 0 := by omega
    subst ea
    refine ⟨mixD ((b * 48271 + 11) % 2147483647) m, h.set i (.lst [.int (0 : Nat), .int ((b * 48271 + 11) % 2147483647 : Nat)]), ?_, Nat.mod_lt _ h1, ⟨_, _, set_at e⟩⟩
    have l : (b * 48271 + 11) % 2147483647 < 2147483647 := Nat.mod_lt _ (by omega)
    have e1 : dMul (.int b) (.int 48271) = some (.int ((b : Int) * 48271)) := dMul_s (by omega)
    have e2 : dMod (.int ((b : Int) * 48271 + 11)) (.int 2147483647) = some (.int ((b * 48271 + 11) % 2147483647 : Nat)) := by
      rw [dMod_int (by omega)]; simp
    generalize hb : (b * 48271 + 11) % 2147483647 = b' at *
    have e4 := set_at (o := .lst [.int (0 : Nat), .int (b' : Nat)]) e
    have e5 : dDiv (.int b') (.int 1009) = some (.int (b' / 1009 : Nat)) := dDiv_nat (m := 1009) (by omega) (by omega)
    have l3 : b' / 1009 + 1 ≤ 2147483647 := by omega
    have e6 : dMul (.int ((b' / 1009 : Nat) + 1 : Int)) (.int ((b' / 1009 : Nat) + 1 : Int)) = some (.int (((b' / 1009 : Nat) + 1 : Int) * ((b' / 1009 : Nat) + 1 : Int))) := dMul_s (by omega)
    have e7 : dMul (.int (((b' / 1009 : Nat) + 1 : Int) * ((b' / 1009 : Nat) + 1 : Int))) (.int ((b' / 1009 : Nat) + 1 : Int)) = some (.int (((b' / 1009 : Nat) + 1 : Int) * ((b' / 1009 : Nat) + 1 : Int) * ((b' / 1009 : Nat) + 1 : Int))) := dMul_s (by omega)
    generalize hc : b' / 1009 = c at *
    have e8 : dMod (.int (((c : Nat) + 1 : Int) * ((c : Nat) + 1 : Int) * ((c : Nat) + 1 : Int))) (.int 2147483629) = some (.int ((c + 1) * (c + 1) * (c + 1) % 2147483629 : Nat)) := by
      rw [dMod_int (by omega)]; simp
    have e3 : ∀ z, stR (.ref i) (.int 1) z h = some (h.set i (.lst [.int (0 : Nat), z])) := fun z => st_box1 e
    have e10 : ∀ z, srR (.int b') z (.ref i) (.int 1) h = .ok (.nx z) (h.set i (.lst [.int (0 : Nat), .int b'])) := fun z => srR_some rfl (e3 _)
    have e11 := ix_box1 e4
    unfold mixD
    rw [hc]
    generalize (c + 1) * (c + 1) * (c + 1) % 2147483629 = n1 at *
    have e9 : dDiv (.int n1) (.int 61) = some (.int (n1 / 61 : Nat)) := dDiv_nat (m := 61) (by omega) (by omega)
    generalize n1 / 61 = n2 at *
    have e12 : dMod (.int n2) (.int m) = some (.int (n2 % m : Nat)) := dMod_nat h1
    generalize n2 % m = n3 at *
    generalize h.set i (.lst [.int (0 : Nat), .int b']) = h' at *
    simp [f_l_take, ix_box0 e, ix_box1 e, e1, e2, e10, e11, e5, e6, e7, e8, e9, e12]
def boxTail : Ss := (.cons (.ite (.cmp .eq (.bin .mod (.v 2) (.c (.int 2))) (.c (.int 0))) (.cons (.ret (.mls (.cons (.bin .fdiv (.bi .abs (.cons (.v 2) .nil)) (.c (.int 2))) (.cons (.bin .add (.bin .add (.bin .mod (.v 2) (.c (.int 1000003))) (.bin .mul (.c (.int 7919)) (.v 1))) (.c (.int 1))) .nil)))) .nil) .nil) (.cons (.ret (.mls (.cons (.c (.int 0)) (.cons (.bin .add (.bin .add (.bin .mod (.v 2) (.c (.int 2147483563))) (.bin .mul (.c (.int 7919)) (.v 1))) (.c (.int 1))) .nil)))) .nil))
theorem f_l_box_eq : f_l_box = ⟨2, 3, (.cons (.set 2 (.bin .add (.bin .mul (.c (.int 6151)) (.v 1)) (.c (.int 29)))) (.cons (.ite (.cmp .lt (.v 1) (.bi .len (.cons (.v 0) .nil))) (.cons (.set 2 (.ix (.v 0) (.v 1))) .nil) .nil) boxTail))⟩ := rfl
theorem r_box {k : Nat} {h : Hs} {is : List Int} {n : Nat} (hn : n < 1000) : ∃ h', runF G (k + 1) n_l_box [.scr (is.map .int), .int n] h = .ok (.ref h.length) h' ∧ BoxAt h' h.length := by
  rw [run_eq (fn := f_l_box) rfl]
  have e1 : dMul (.int 6151) (.int n) = some (.int (6151 * n)) := dMul_s (by omega)
  have e2 : dMul (.int 7919) (.int n) = some (.int (7919 * n)) := dMul_s (by omega)
  have fin : ∀ cell : Int, ∃ h', exB (runF G k) boxTail [.v (.scr (is.map .int)), .v (.int n), .v (.int cell)] h = .ok (.rt (.ref h.length)) h' ∧ BoxAt h' h.length := by
    intro cell
    have m1 : 0 ≤ cell % 1000003 := Int.emod_nonneg _ (by omega)
    have m2 : 0 ≤ cell % 2147483563 := Int.emod_nonneg _ (by omega)
    have ab : dBi .abs [.int cell] = some (.int cell.natAbs) := by
      show some (D.int (if cell < 0 then -cell else cell)) = _
      congr 2
      split <;> omega
    have ab2 : dDiv (.int cell.natAbs) (.int 2) = some (.int (cell.natAbs / 2 : Nat)) := dDiv_nat (m := 2) (by omega) (by omega)
    have at_ : ∀ o : Ob, (h ++ [o])[h.length]? = some o := fun o => by simp
    by_cases z : cell % 2 = 0
    · refine ⟨h ++ [.lst [.int (cell.natAbs / 2 : Nat), .int (cell % 1000003 + 7919 * n + 1)]], ?_, cell.natAbs / 2, (cell % 1000003 + 7919 * n + 1).toNat, ?_⟩
      · generalize cell.natAbs = c1 at *
        generalize c1 / 2 = c2 at *
        simp [boxTail, dMod_int, z, e2, ab, ab2]
      · rw [at_, show (((cell % 1000003 + 7919 * n + 1).toNat : Nat) : Int) = cell % 1000003 + 7919 * n + 1 by omega]
    · refine ⟨h ++ [.lst [.int 0, .int (cell % 2147483563 + 7919 * n + 1)]], ?_, 0, (cell % 2147483563 + 7919 * n + 1).toNat, ?_⟩
      · have z2 : (cell % 2 == 0) = false := by rw [beq_eq_false_iff_ne]; exact z
        simp [boxTail, dMod_int, z2, e2]
      · rw [at_, show (((cell % 2147483563 + 7919 * n + 1).toNat : Nat) : Int) = cell % 2147483563 + 7919 * n + 1 by omega]
        rfl
  by_cases l : n < is.length
  · obtain ⟨h', f1, f2⟩ := fin (is[n]'l)
    refine ⟨h', ?_, f2⟩
    have e3 : dIx (.scr (is.map .int)) (.int n) = some (.int (is[n]'l)) := by
      simp [dIx, D.sq?, atI_nat (show n < (is.map D.int).length by simpa using l)]
    rw [f_l_box_eq]
    simp [e1, l, e3, f1]
  · obtain ⟨h', f1, f2⟩ := fin (6151 * n + 29)
    refine ⟨h', ?_, f2⟩
    rw [f_l_box_eq]
    simp [e1, l, f1]
/-! grounds -/
theorem r_l_most {k : Nat} {h : Hs} {b : Bed} (w : 1 ≤ b.ys.length) : runF G (k + 1) n_l_most [b.enc] h = .ok (.int b.most) h := by
  rw [run_eq (fn := f_l_most) rfl]
  simp [f_l_most]
  unfold Bed.most
  omega
theorem s_l_many {k : Nat} {h : Hs} {b : Bed} (n : Nat) (x y : Sl) (wb : b.wf) : inT (runF G (k + 1)) (.n 2) b_l_many_0 b.enc [x, .v (.int n), y] h = .ok (.nx [x, .v (.int (n * (b.most + 1) : Nat)), .v b.enc]) h := by
  have := wb.most_le
  simp [b_l_many_0, r_l_most wb.l1, dMul_s (i := n) (j := (b.most : Int) + 1) (by omega)]
theorem l_l_many {k : Nat} {h : Hs} {bs : List Bed} : ∀ (n : Nat) (x y : Sl), (∀ b ∈ bs, b.wf) → ∃ y', forB (runF G (k + 1)) (.n 2) b_l_many_0 (bs.map Bed.enc) [x, .v (.int n), y] h = .ok (.nx [x, .v (.int (bs.foldl (fun a b => a * (b.most + 1)) n : Nat)), y']) h := by
  induction bs with
  | nil => exact fun n x y _ => ⟨y, by rw [List.map_nil, forB_nil, List.foldl_nil]⟩
  | cons b bs ih =>
    intro n x y w
    obtain ⟨y', e⟩ := ih (n * (b.most + 1)) x (.v b.enc) fun z hz => w z (List.mem_cons_of_mem _ hz)
    refine ⟨y', ?_⟩
    rw [List.map_cons, forB_cons, s_l_many n x y (w b List.mem_cons_self), kFor_nx, List.foldl_cons]
    exact e
theorem r_l_many {k : Nat} {h : Hs} {bs : List Bed} (w : ∀ b ∈ bs, b.wf) : runF G (k + 2) n_l_many [bedsD bs] h = .ok (.int (manyB bs)) h := by
  rw [run_eq (fn := f_l_many) rfl]
  obtain ⟨y', e⟩ := l_l_many (k := k) (h := h) (bs := bs) 1 (.v (bedsD bs)) .u w
  simp at e
  simp [f_l_many, e, manyB]
theorem r_l_manyS {k : Nat} {h : Hs} {bs : List Bed} (w : ∀ b ∈ bs, b.wf) : runF G (k + 2) n_l_many [.bor (bs.map Bed.enc)] h = .ok (.int (manyB bs)) h := by
  rw [run_eq (fn := f_l_many) rfl]
  obtain ⟨y', e⟩ := l_l_many (k := k) (h := h) (bs := bs) 1 (.v (.scr (bs.map Bed.enc))) .u w
  simp at e
  simp [f_l_many, e, manyB]
@[simp] theorem rangeL_nat {lo : Int} {n : Nat} : rangeL lo (n + 1) = .int lo :: rangeL (lo + 1) n := rfl
@[simp] theorem rangeL_z {lo : Int} : rangeL lo 0 = [] := rfl
theorem rangeL_map : ∀ {n : Nat} {a : Nat}, rangeL a n = (List.range' a n).map fun i : Nat => D.int i
  | 0, _ => rfl
  | n + 1, a => by
    have e : ((a : Int) + 1) = ((a + 1 : Nat) : Int) := by omega
    rw [rangeL_nat, List.range'_succ, List.map_cons, e, rangeL_map]
theorem itRng_nat {n : Nat} (h : n ≤ 1000000) : itRng (.int 0) (.int n) = some ((List.range n).map fun i : Nat => D.int i) := by
  have b1 : inB 0 = true := by unfold inB; decide
  have b2 : inB (n : Int) = true := by unfold inB; simp; omega
  unfold itRng
  simp only [b1, b2, Bool.true_and, decide_eq_true_eq]
  rw [if_pos (by omega), List.range_eq_range', ← rangeL_map, show ((n : Int) - 0).toNat = n by omega]
  rfl
theorem itRng_nat2 {a n : Nat} (h : n ≤ 1000000) (h2 : a ≤ 1000000) : itRng (.int a) (.int n) = some ((List.range' a (n - a)).map fun i : Nat => D.int i) := by
  have b1 : inB a = true := by unfold inB; simp; omega
  have b2 : inB (n : Int) = true := by unfold inB; simp; omega
  unfold itRng
  simp only [b1, b2, Bool.true_and, decide_eq_true_eq]
  rw [if_pos (by omega), ← rangeL_map, show ((n : Int) - (a : Int)).toNat = n - a by omega]

theorem compB_nat {cl : Nat → List D → Hs → R D} {α : Type} {t : T} {c x : E} {e : Ev} {i m : Nat} {enc : α → D} {xs : List α} {h : Hs} (q : BoxAt h i) (st : ∀ a ∈ xs, ∀ h, BoxAt h i → ∃ (d : Nat) (h' : Hs), oneC cl t c x (enc a) e h = .ok (some (.int d)) h' ∧ d < m ∧ BoxAt h' i) :
    ∃ (ys : List Nat) (h' : Hs), compB cl t c x (xs.map enc) e h = .ok (ys.map fun n : Nat => .int n) h' ∧ ys.length = xs.length ∧ (∀ y ∈ ys, y < m) ∧ BoxAt h' i := by
  obtain ⟨ds, h', e1, l, p, b⟩ := compB_run (cl := cl) (t := t) (c := c) (x := x) (e := e) (fun h => BoxAt h i) (fun d => ∃ n : Nat, d = .int n ∧ n < m) (enc := enc) (xs := xs) q (fun a ha h hb => by
    obtain ⟨d, h', e1, e2, e3⟩ := st a ha h hb
    exact ⟨.int d, h', e1, ⟨d, rfl, e2⟩, e3⟩)
  refine ⟨ds.map toN, h', ?_, by simpa using l, ?_, b⟩
  · rw [e1, List.map_map]
    congr 1
    conv => lhs; rw [← List.map_id ds]
    refine List.map_congr_left fun d hd => ?_
    obtain ⟨n, rfl, _⟩ := p d hd
    simp [toN_int]
  · intro y hy
    obtain ⟨d, hd, rfl⟩ := List.mem_map.mp hy
    obtain ⟨n, rfl, hn⟩ := p d hd
    rw [toN_int]
    exact hn
theorem bor_ix0 {b : Bed} {bs : List Bed} {h : Hs} : ixR (.bor ((b :: bs).map Bed.enc)) (.int 0) h = .ok b.enc h := by
  simp [dIx, D.sq?, L2.atI, L2.ixN]
theorem setL_last {α : Type} {xs : List α} {x y : α} : setL (xs ++ [x]) (-1) y = some (xs ++ [y]) := by
  have e : L2.ixN (xs ++ [x]).length (-1) = some xs.length := by
    unfold L2.ixN
    rw [if_neg (by omega), if_pos (by simp; omega)]
    congr 1
    simp
    omega
  unfold setL
  rw [e]
  simp
theorem s_l_grounds {k : Nat} {h : Hs} {i m : Nat} {bs : List Bed} {x : D} {a3 a4 a5 : Sl} (kx : x.keep = true) (hm : 0 < m) (hm2 : m ≤ 100) (q : BoxAt h i) (w : ∀ b ∈ bs, b.wf) (l : bs.length < 1000) :
    ∃ (bs' : List Bed) (a b c : Sl) (h' : Hs), inT (runF G (k + 1)) (.n 3) b_l_grounds_0 x [.v (.ref i), .v (.int m), .o (bs.map Bed.enc), a3, a4, a5] h = .ok (.nx [.v (.ref i), .v (.int m), .o (bs'.map Bed.enc), a, b, c]) h' ∧ BoxAt h' i ∧ (∀ b ∈ bs', b.wf) ∧ bs'.length = bs.length + 1 := by
  obtain ⟨d1, h1, e1, l1, q1⟩ := r_take (k := k) (M := 3) (m := 3) rfl q (by omega) (by omega)
  obtain ⟨ys, h2, e2, l2, l3, q2⟩ := compB_nat (cl := runF G (k + 1)) (t := .n 5) (c := .c (.bl true)) (x := x_l_grounds_0) (e := [.v (.ref i), .v (.int m), .o (bs.map Bed.enc), .v x, a4, .u]) (m := m) (xs := List.range (1 + d1)) (enc := fun j : Nat => D.int j) q1 (fun a _ h hb => by
    obtain ⟨d, h', e3, e4, e5⟩ := r_take (k := k) rfl hb hm (by omega)
    exact ⟨d, h', by simp [x_l_grounds_0, e3], e4, e5⟩)
  obtain ⟨d3, h3, e3, l4, q3⟩ := r_take (k := k) (M := 4) (m := 4) rfl q2 (by omega) (by omega)
  obtain ⟨d4, h4, e4, l5, q4⟩ := r_take (k := k) (M := 4) (m := 4) rfl q3 (by omega) (by omega)
  have ny : ys.length = 1 + d1 := by rw [l2, List.length_range]
  have wb : Bed.wf ⟨d3, ys⟩ := ⟨by show d3 ≤ 3; omega, by show 1 ≤ ys.length; omega, by show ys.length ≤ 3; omega, fun y hy => by have := l3 y hy; omega⟩
  have eb : D.tup [.int d3, .tup (ys.map fun n : Nat => .int n)] = Bed.enc ⟨d3, ys⟩ := rfl
  have la : bs.length < LIM := by unfold LIM; omega
  have lr : (List.range (1 + d1)).length ≤ LIM := by rw [List.length_range]; unfold LIM; omega
  have er : itRng (.int 0) (.int (1 + (d1 : Int))) = some ((List.range (1 + d1)).map fun i : Nat => D.int i) := by
    rw [show (1 + (d1 : Int)) = ((1 + d1 : Nat) : Int) by omega]; exact itRng_nat (by omega)
  have em : bs.map Bed.enc ++ [Bed.enc ⟨d3, ys⟩] = (bs ++ [(⟨d3, ys⟩ : Bed)]).map Bed.enc := by simp
  by_cases z : d4 = 0
  · subst z
    have ei : ∃ b0 : Bed, b0.wf ∧ ixR (.bor ((bs ++ [(⟨d3, ys⟩ : Bed)]).map Bed.enc)) (.int 0) h4 = .ok b0.enc h4 := by
      cases bs with
      | nil => exact ⟨_, wb, bor_ix0⟩
      | cons b0 r => exact ⟨b0, w b0 List.mem_cons_self, bor_ix0⟩
    obtain ⟨b0, wb0, ei⟩ := ei
    have es : setL ((bs ++ [(⟨d3, ys⟩ : Bed)]).map Bed.enc) (-1) b0.enc = some ((bs ++ [b0]).map Bed.enc) := by
      rw [List.map_append, List.map_append, List.map_singleton, List.map_singleton]
      exact setL_last
    refine ⟨bs ++ [b0], .v x, .v (tN ys), a5, h4, ?_, q4, fun b hb => ?_, by simp⟩
    · have e5 : ∀ e, siR 2 ((bs ++ [(⟨d3, ys⟩ : Bed)]).map Bed.enc) b0.enc e (.int (-1)) h4 = .ok (.nx (e.put 2 (.o ((bs ++ [b0]).map Bed.enc)))) h4 := fun e => siR_int rfl es
      simp only [inT_p, putT_n, kx, putN_t, put_s, put_z, inP_some, b_l_grounds_0]
      simp [e1, er, lr, e2, -List.length_range, -List.map_append, e3, eb, la, em, e4, ei, e5]
      rfl
    · rcases List.mem_append.mp hb with hb | hb
      · exact w b hb
      · rw [List.mem_singleton.mp hb]; exact wb0
  · refine ⟨bs ++ [⟨d3, ys⟩], .v x, .v (tN ys), a5, h4, ?_, q4, fun b hb => ?_, by simp⟩
    · have e5 : ((d4 : Int) == 0) = false := by rw [beq_eq_false_iff_ne]; omega
      simp only [inT_p, putT_n, kx, putN_t, put_s, put_z, inP_some, b_l_grounds_0]
      simp [e1, er, lr, e2, -List.length_range, -List.map_append, e3, eb, la, em, e4, e5]
      rfl
    · rcases List.mem_append.mp hb with hb | hb
      · exact w b hb
      · rw [List.mem_singleton.mp hb]; exact wb

theorem l_l_grounds {k : Nat} {i m : Nat} (hm : 0 < m) (hm2 : m ≤ 100) {xs : List Nat} : ∀ {h : Hs} {bs : List Bed} {a3 a4 a5 : Sl}, BoxAt h i → (∀ b ∈ bs, b.wf) → bs.length + xs.length < 1000 →
    ∃ (bs' : List Bed) (a b c : Sl) (h' : Hs), forB (runF G (k + 1)) (.n 3) b_l_grounds_0 (xs.map fun j : Nat => D.int j) [.v (.ref i), .v (.int m), .o (bs.map Bed.enc), a3, a4, a5] h = .ok (.nx [.v (.ref i), .v (.int m), .o (bs'.map Bed.enc), a, b, c]) h' ∧ BoxAt h' i ∧ (∀ b ∈ bs', b.wf) ∧ bs'.length = bs.length + xs.length := by
  induction xs with
  | nil => exact fun {h bs a3 a4 a5} q w _ => ⟨bs, a3, a4, a5, h, by rw [List.map_nil, forB_nil], q, w, by simp⟩
  | cons x xs ih =>
    intro h bs a3 a4 a5 q w l
    rw [List.length_cons] at l
    obtain ⟨bs1, a, b, c, h1, e1, q1, w1, l1⟩ := s_l_grounds (k := k) (x := .int x) (a3 := a3) (a4 := a4) (a5 := a5) rfl hm hm2 q w (by omega)
    obtain ⟨bs2, a', b', c', h2, e2, q2, w2, l2⟩ := ih (h := h1) (bs := bs1) (a3 := a) (a4 := b) (a5 := c) q1 w1 (by omega)
    refine ⟨bs2, a', b', c', h2, ?_, q2, w2, by rw [List.length_cons]; omega⟩
    rw [List.map_cons, forB_cons, e1, kFor_nx, e2]
theorem manyB_one {b : Bed} (w : b.wf) : manyB [b] ≤ 120 := by
  have := w.most_le
  show 1 * (b.most + 1) ≤ 120
  omega
theorem w_l_grounds {k : Nat} {h : Hs} {x y a b c : Sl} : ∀ (n : Nat) (bs : List Bed), (∀ b ∈ bs, b.wf) → 1 ≤ bs.length → bs.length < n → bs.length < 1000 →
    ∃ bs' : List Bed, whlB (runF G (k + 2)) w_l_grounds_0 b_l_grounds_1 n [x, y, .o (bs.map Bed.enc), a, b, c] h = .ok (.nx [x, y, .o (bs'.map Bed.enc), a, b, c]) h ∧ (∀ b ∈ bs', b.wf) ∧ 1 ≤ bs'.length ∧ bs'.length ≤ bs.length ∧ manyB bs' ≤ 120
  | 0, bs, _, _, l, _ => by omega
  | n + 1, bs, w, l1, l2, l3 => by
    have ec : evE (runF G (k + 2)) w_l_grounds_0 [x, y, .o (bs.map Bed.enc), a, b, c] h = .ok (.bl (decide ((120 : Int) < (manyB bs : Int)))) h := by
      simp [w_l_grounds_0, r_l_manyS w]
    by_cases z : manyB bs ≤ 120
    · refine ⟨bs, ?_, w, l1, Nat.le_refl _, z⟩
      exact whlB_f ec (by simp; omega)
    · have l4 : 2 ≤ bs.length := by
        match bs, l1, w, z with
        | [b], _, w, z => exact absurd (manyB_one (w b List.mem_cons_self)) z
        | _ :: _ :: _, _, _, _ => simp
      obtain ⟨bs', e1, e2, e3, e4, e5⟩ := w_l_grounds (k := k) (h := h) (x := x) (y := y) (a := a) (b := b) (c := c) n bs.dropLast (fun b hb => w b ((List.dropLast_sublist bs).subset hb)) (by rw [List.length_dropLast]; omega) (by rw [List.length_dropLast]; omega) (by rw [List.length_dropLast]; omega)
      refine ⟨bs', ?_, e2, e3, by rw [List.length_dropLast] at e4; omega, e5⟩
      rw [whlB_t ec (by simp; omega)]
      have ne : (bs.map Bed.enc).isEmpty = false := by
        cases bs with
        | nil => simp at l4
        | cons _ _ => rfl
      have eb : exB (runF G (k + 2)) b_l_grounds_1 [x, y, .o (bs.map Bed.enc), a, b, c] h = .ok (.nx [x, y, .o (bs.dropLast.map Bed.enc), a, b, c]) h := by
        simp only [b_l_grounds_1, b_cons, s_pop, get_s, get_z, popS_o, ne, put_s, put_z, kBl_nx, b_nil]
        rw [List.map_dropLast]
        rfl
      rw [eb, R.fl_nx, e1]
theorem r_l_grounds {k : Nat} {h : Hs} {i : Nat} (q : BoxAt h i) : ∃ (g : Gr) (h' : Hs), runF G (k + 3) n_l_grounds [.ref i] h = .ok g.enc h' ∧ g.wf ∧ BoxAt h' i := by
  rw [run_eq (fn := f_l_grounds) rfl]
  obtain ⟨d1, h1, e1, l1, q1⟩ := r_take (k := k + 1) (M := 3) (m := 3) rfl q (by omega) (by omega)
  have em : ∃ m : Nat, 0 < m ∧ m ≤ 100 ∧ ∀ h, ixR (.lst [.int 2, .int 10, .int 100]) (.int d1) h = .ok (.int m) h := by
    rcases (by omega : d1 = 0 ∨ d1 = 1 ∨ d1 = 2) with rfl | rfl | rfl
    · exact ⟨2, by omega, by omega, fun h => by simp [dIx, D.sq?, L2.atI, L2.ixN]⟩
    · exact ⟨10, by omega, by omega, fun h => by simp [dIx, D.sq?, L2.atI, L2.ixN]⟩
    · exact ⟨100, by omega, by omega, fun h => by simp [dIx, D.sq?, L2.atI, L2.ixN]⟩
  obtain ⟨m, m1, m2, em⟩ := em
  obtain ⟨d2, h2, e2, l2, q2⟩ := r_take (k := k + 1) (M := 4) (m := 4) rfl q1 (by omega) (by omega)
  have er : itRng (.int 0) (.int (1 + (d2 : Int))) = some ((List.range (1 + d2)).map fun i : Nat => D.int i) := by
    rw [show (1 + (d2 : Int)) = ((1 + d2 : Nat) : Int) by omega]; exact itRng_nat (by omega)
  obtain ⟨bs, a, b, c, h3, e3, q3, w3, l3⟩ := l_l_grounds (k := k + 1) m1 m2 (xs := List.range (1 + d2)) (h := h2) (bs := []) (a3 := .u) (a4 := .u) (a5 := .u) q2 (by simp) (by simp; omega)
  rw [List.length_range, List.length_nil] at l3
  obtain ⟨bs', e4, w4, l4, l5, m4⟩ := w_l_grounds (k := k) (h := h3) (x := .v (.ref i)) (y := .v (.int m)) (a := a) (b := b) (c := c) turns bs w3 (by omega) (by unfold turns; omega) (by omega)
  obtain ⟨d5, h5, e5, l6, q5⟩ := r_take (k := k + 1) (M := 2) (m := 2) rfl q3 (by omega) (by omega)
  refine ⟨⟨bs', 1 + d5⟩, h5, ?_, ⟨l4, by show bs'.length ≤ 4; omega, w4, m4, by show 1 ≤ 1 + d5; omega, by show 1 + d5 ≤ 2; omega⟩, q5⟩
  rw [List.map_nil] at e3
  simp [f_l_grounds, e1, em, e2, er, -List.length_range, e3, e4, e5]
  simp [Gr.enc, bedsD]
end Tv
end

section
set_option autoImplicit false
set_option maxHeartbeats 1000000
/-! The laws' own standings, catches, courses. -/
namespace Tv
open PySem
theorem s_l_standing {k : Nat} {h : Hs} {i : Nat} {g : Gr} {b : Bed} {wy : Nat} {acc : List Nat} {a : Sl} (q : BoxAt h i) (wb : b.wf) (la : acc.length < 1000) :
    ∃ (d : Nat) (h' : Hs), inT (runF G (k + 1)) (.n 4) b_l_standing_0 b.enc [.v (.ref i), .v g.enc, .v (.int wy), .o (acc.map fun n : Nat => .int n), a] h = .ok (.nx [.v (.ref i), .v g.enc, .v (.int wy), .o ((acc ++ [d]).map fun n : Nat => .int n), .v b.enc]) h' ∧ d ≤ b.most ∧ BoxAt h' i := by
  have ml := wb.most_le
  obtain ⟨d1, h1, e1, l1, q1⟩ := r_take (k := k) (M := (b.most : Int) + 1) (m := b.most + 1) (by omega) q (by omega) (by omega)
  have l2 : acc.length < LIM := by unfold LIM; omega
  have key : ∃ d : Nat, d ≤ b.most ∧ ixR (.lst [.int b.most, .int 0, .int d1]) (.int (if (2 : Int) < (wy : Int) then 2 else wy)) h1 = .ok (.int d) h1 := by
    rcases (by omega : wy = 0 ∨ wy = 1 ∨ 2 ≤ wy) with rfl | rfl | z
    · exact ⟨b.most, by omega, by simp [dIx, D.sq?, L2.atI, L2.ixN]⟩
    · exact ⟨0, by omega, by simp [dIx, D.sq?, L2.atI, L2.ixN]⟩
    · refine ⟨d1, by omega, ?_⟩
      have : (if (2 : Int) < (wy : Int) then (2 : Int) else wy) = 2 := by split <;> omega
      rw [this]
      simp [dIx, D.sq?, L2.atI, L2.ixN]
  obtain ⟨d, ld, ek⟩ := key
  refine ⟨d, h1, ?_, ld, q1⟩
  simp [b_l_standing_0, r_l_most wb.l1, e1, ek, l2]
theorem l_l_standing {k : Nat} {i : Nat} {g : Gr} {wy : Nat} {bs : List Bed} : ∀ {h : Hs} {acc : List Nat} {a : Sl}, BoxAt h i → (∀ b ∈ bs, b.wf) → acc.length + bs.length < 1000 →
    ∃ (ds : List Nat) (a' : Sl) (h' : Hs), forB (runF G (k + 1)) (.n 4) b_l_standing_0 (bs.map Bed.enc) [.v (.ref i), .v g.enc, .v (.int wy), .o (acc.map fun n : Nat => .int n), a] h = .ok (.nx [.v (.ref i), .v g.enc, .v (.int wy), .o ((acc ++ ds).map fun n : Nat => .int n), a']) h' ∧ ds.length = bs.length ∧ (∀ j, j < bs.length → gN ds j ≤ (bedAt bs j).most) ∧ BoxAt h' i := by
  induction bs with
  | nil => exact fun {h acc a} q _ _ => ⟨[], a, h, by simp, rfl, fun j hj => by simp at hj, q⟩
  | cons b bs ih =>
    intro h acc a q w l
    rw [List.length_cons] at l
    obtain ⟨d, h1, e1, l1, q1⟩ := s_l_standing (k := k) (g := g) (wy := wy) (acc := acc) (a := a) q (w b List.mem_cons_self) (by omega)
    obtain ⟨ds, a', h2, e2, l2, p2, q2⟩ := ih (h := h1) (acc := acc ++ [d]) (a := .v b.enc) q1 (fun z hz => w z (List.mem_cons_of_mem _ hz)) (by rw [List.length_append, List.length_singleton]; omega)
    refine ⟨d :: ds, a', h2, ?_, by simp [l2], fun j hj => ?_, q2⟩
    · rw [List.map_cons, forB_cons, e1, kFor_nx, e2]
      simp
    · cases j with
      | zero => simpa [gN_z, bedAt] using l1
      | succ j =>
        have := p2 j (by simpa using hj)
        simpa [gN_s, bedAt] using this
theorem r_l_standing {k : Nat} {h : Hs} {i : Nat} {g : Gr} (w : g.wf) (q : BoxAt h i) : ∃ (s : List Nat) (h' : Hs), runF G (k + 2) n_l_standing [.ref i, g.enc] h = .ok (tN s) h' ∧ StW g s ∧ BoxAt h' i := by
  rw [run_eq (fn := f_l_standing) rfl]
  obtain ⟨d1, h1, e1, l1, q1⟩ := r_take (k := k) (M := 4) (m := 4) rfl q (by omega) (by omega)
  have hb := w.l4
  obtain ⟨ds, a', h2, e2, l2, p2, q2⟩ := l_l_standing (k := k) (g := g) (wy := d1) (h := h1) (acc := []) (a := .u) q1 w.b (by simp; omega)
  refine ⟨ds, h2, ?_, ⟨l2, p2⟩, q2⟩
  rw [List.map_nil] at e2
  simp [f_l_standing, e1, e2]
  rfl
/-! what may be, behind, sold: by the law -/
theorem filter_any {α : Type} {p : α → Bool} {xs : List α} : (xs.filter fun x => !p x).isEmpty = xs.all p := by
  induction xs with
  | nil => rfl
  | cons x xs ih => rw [List.filter_cons, List.all_cons, ← ih]; cases p x <;> simp
theorem sound_lN {xs : List Nat} : (lN xs).sound = true := by
  unfold D.sound
  have e : (lN xs).py = .list ((xs.map fun n : Nat => (n : Int)).map .int) := congrArg PyData.list py_ints
  have r : (lN xs).rd = true := pl_tN (xs := xs)
  rw [e, r, PyData.plain, plainAll_ints, PyData.depth, depthAll_ints]
  rfl
theorem dEq_lN {xs ys : List Nat} : dEq (lN xs) (lN ys) = some (xs == ys) := by
  show (if (lN xs).sound && (lN ys).sound then some _ else none) = _
  rw [sound_lN, sound_lN]
  have e : ∀ zs : List Nat, (lN zs).py = .list ((zs.map fun n : Nat => (n : Int)).map .int) := fun zs => congrArg PyData.list py_ints
  rw [e, e, PyData.eqv, eqvAll_ints, nat_list_eq]
  rfl
theorem dEq_lN0 {xs : List Nat} : dEq (.lst (xs.map fun n : Nat => .int n)) (.lst []) = some xs.isEmpty := by
  have q := dEq_lN (xs := xs) (ys := [])
  have e : (xs == []) = xs.isEmpty := by cases xs <;> rfl
  rw [e] at q
  exact q
theorem r_l_can {k : Nat} {h : Hs} {g : Gr} {s c : List Nat} (w : g.wf) (ws : StW g s) (wc : CaW g c) : runF G (k + 1) n_l_can [g.enc, tN s, tN c] h = .ok (.bl (mayB g s c)) h := by
  rw [run_eq (fn := f_l_can) rfl]
  have q : ∀ a ∈ c, oneC (runF G k) (.n 3) c_l_can_0 (.v 3) ((fun n : Nat => D.int n) a) [.v g.enc, .v (tN s), .v (tN c), .u] h = .ok (if (fun b : Nat => !canB g.beds s b) a then some ((fun n : Nat => D.int n) a) else none) h := fun a ha => by
    have l := wc.lt a ha
    by_cases z : (bedAt g.beds a).rest ≤ gN s a
    · simp [c_l_can_0, tN_at (show a < s.length by rw [ws.len]; exact l), bd_at l, canB, z, show ¬ (gN s a < (bedAt g.beds a).rest) by omega]
    · simp [c_l_can_0, tN_at (show a < s.length by rw [ws.len]; exact l), bd_at l, canB, z, show gN s a < (bedAt g.beds a).rest by omega]
  have l2 := wc.len
  have l3 := w.b2
  simp only [f_l_can]
  simp [compB_map q, show c.length ≤ LIM by unfold LIM; omega, dEq_lN0, filter_any, mayB]

/-! the standing behind, as a law tells it -/
theorem drop_bed {bs : List Bed} {i : Nat} (h : i < bs.length) : bs.drop i = bedAt bs i :: bs.drop (i + 1) := by
  rw [List.drop_eq_getElem_cons h]
  unfold bedAt
  simp [h]
@[simp] theorem dInt_bl {b : Bool} : dBi .int [.bl b] = some (.int (b2 b)) := rfl
theorem s_l_next {k : Nat} {h : Hs} {g : Gr} {z : D} {c acc : List Nat} {i x : Nat} {u v y : Sl} (w : g.wf) (li : i < g.beds.length) (la : acc.length < 1000) :
    inT (runF G (k + 1)) (.t [4, 5]) b_l_next_0 (.tup [.int i, .int x]) [.v g.enc, .v z, .v (tN c), .o (acc.map fun n : Nat => .int n), u, v, y] h = .ok (.nx [.v g.enc, .v z, .v (tN c), .o ((acc ++ [if i ∈ c then 0 else min (x + 1) (bedAt g.beds i).most]).map fun n : Nat => .int n), .v (.int i), .v (.int x), .v (.int (min (x + 1) (bedAt g.beds i).most : Nat))]) h := by
  have l1 : acc.length < LIM := by unfold LIM; omega
  have wb := w.b _ (bedAt_mem li)
  have ml := wb.most_le
  have em : (if ((bedAt g.beds i).most : Int) < (x : Int) + 1 then ((bedAt g.beds i).most : Int) else (x : Int) + 1) = ((min (x + 1) (bedAt g.beds i).most : Nat) : Int) := by
    by_cases z : (bedAt g.beds i).most < x + 1
    · rw [if_pos (by omega)]; omega
    · rw [if_neg (by omega)]; omega
  have l2 : min (x + 1) (bedAt g.beds i).most ≤ 5 := by omega
  generalize hm : min (x + 1) (bedAt g.beds i).most = m at *
  have m0 : dMul (.int m) (.int 0) = some (.int 0) := by rw [dMul_l (by omega)]; simp
  have m1 : dMul (.int m) (.int 1) = some (.int m) := by rw [dMul_l (by omega)]; simp
  by_cases q : i ∈ c
  · simp [b_l_next_0, bd_at li, r_l_most wb.l1, em, q, m0, l1, b2]
  · simp [b_l_next_0, bd_at li, r_l_most wb.l1, em, q, m1, l1, b2]
theorem l_l_next {k : Nat} {h : Hs} {g : Gr} {s c : List Nat} (w : g.wf) {z : D} {t : List Nat} : ∀ {i : Nat} {acc : List Nat} {u v y : Sl}, i + t.length = g.beds.length → (∀ j, j < t.length → gN t j = gN s (i + j)) → acc.length + t.length < 1000 →
    ∃ u' v' y', forB (runF G (k + 1)) (.t [4, 5]) b_l_next_0 (enmD i (t.map fun n : Nat => .int n)) [.v g.enc, .v z, .v (tN c), .o (acc.map fun n : Nat => .int n), u, v, y] h = .ok (.nx [.v g.enc, .v z, .v (tN c), .o ((acc ++ nextF s c i (g.beds.drop i)).map fun n : Nat => .int n), u', v', y']) h := by
  induction t with
  | nil =>
    intro i acc u v y l _ _
    refine ⟨u, v, y, ?_⟩
    rw [List.drop_of_length_le (by simp at l; omega)]
    simp [nextF]
  | cons x t ih =>
    intro i acc u v y l e la
    rw [List.length_cons] at l la
    have li : i < g.beds.length := by omega
    have ex : x = gN s i := by simpa [gN_z] using e 0 (by simp)
    obtain ⟨u', v', y', e2⟩ := ih (i := i + 1) (acc := acc ++ [if i ∈ c then 0 else min (x + 1) (bedAt g.beds i).most]) (u := .v (.int i)) (v := .v (.int x)) (y := .v (.int (min (x + 1) (bedAt g.beds i).most : Nat))) (by omega) (fun j hj => by
      have := e (j + 1) (by rw [List.length_cons]; omega)
      rw [gN_s] at this
      rw [this, show i + (j + 1) = i + 1 + j by omega]) (by rw [List.length_append, List.length_singleton]; omega)
    refine ⟨u', v', y', ?_⟩
    rw [List.map_cons, enmD_cons, forB_cons, s_l_next w li (by omega), kFor_nx, e2, drop_bed li, nextF, ← ex]
    simp
theorem r_l_next {k : Nat} {h : Hs} {g : Gr} {s c : List Nat} (w : g.wf) (ls : s.length = g.beds.length) : runF G (k + 2) n_l_next [g.enc, tN s, tN c] h = .ok (tN (nextB g s c)) h := by
  rw [run_eq (fn := f_l_next) rfl]
  have := w.l4
  obtain ⟨u, v, y, e⟩ := l_l_next (k := k) (h := h) (s := s) (c := c) w (z := tN s) (t := s) (i := 0) (acc := []) (u := .u) (v := .u) (y := .u) (by omega) (fun j _ => by rw [Nat.zero_add]) (by simp; omega)
  rw [List.map_nil, List.nil_append, List.drop_zero] at e
  simp [f_l_next, e]
  rfl
theorem l_l_sold {k : Nat} {h : Hs} {g : Gr} {s c : List Nat} (w : g.wf) (ws : StW g s) (wc : CaW g c) (m : mayB g s c = true) {z : D} {t : List Nat} : ∀ {n : Nat} {a b d : Sl}, (∀ x ∈ t, x ∈ c) →
    ∃ a' b' d', forB (runF G k) (.n 4) b_l_sold_0 (t.map fun n : Nat => .int n) [.v g.enc, .v (tN s), .v z, .v (.int n), a, b, d] h = .ok (.nx [.v g.enc, .v (tN s), .v z, .v (.int (n + (t.map (soldAt g.beds s)).sum : Nat)), a', b', d']) h := by
  induction t with
  | nil => exact fun {n a b d} _ => ⟨a, b, d, by simp⟩
  | cons x t ih =>
    intro n a b d hc
    have hx := hc x List.mem_cons_self
    have l := wc.lt x hx
    have l2 := mayB_at m hx
    have l3 := (w.b _ (bedAt_mem l)).sub l2 (ws.le x l)
    obtain ⟨a', b', d', e⟩ := ih (n := n + soldAt g.beds s x) (a := .v (.int x)) (b := .v (.int (bedAt g.beds x).rest)) (d := .v (tN (bedAt g.beds x).ys)) fun y hy => hc y (List.mem_cons_of_mem _ hy)
    refine ⟨a', b', d', ?_⟩
    have pt : ∀ e : Ev, putT (.t [5, 6]) (bedAt g.beds x).enc e = some ((e.put 5 (.v (.int (bedAt g.beds x).rest))).put 6 (.v (tN (bedAt g.beds x).ys))) := fun e => rfl
    have st : inT (runF G k) (.n 4) b_l_sold_0 (.int x) [.v g.enc, .v (tN s), .v z, .v (.int n), a, b, d] h = .ok (.nx [.v g.enc, .v (tN s), .v z, .v (.int (n + soldAt g.beds s x : Nat)), .v (.int x), .v (.int (bedAt g.beds x).rest), .v (tN (bedAt g.beds x).ys)]) h := by
      simp [b_l_sold_0, bd_at l, pt, tN_at (show x < s.length by rw [ws.len]; exact l), tN_sub l2 l3, soldAt]
    rw [List.map_cons, forB_cons, st, kFor_nx, e, List.map_cons, List.sum_cons, Nat.add_assoc]
theorem r_l_sold {k : Nat} {h : Hs} {g : Gr} {s c : List Nat} (w : g.wf) (ws : StW g s) (wc : CaW g c) (m : mayB g s c = true) : runF G (k + 1) n_l_sold [g.enc, tN s, tN c] h = .ok (.int (soldB g s c : Nat)) h := by
  rw [run_eq (fn := f_l_sold) rfl]
  obtain ⟨a, b, d, e⟩ := l_l_sold (k := k) (h := h) w ws wc m (z := tN c) (t := c) (n := 0) (a := .u) (b := .u) (d := .u) fun _ h => h
  rw [show (((0 : Nat) : Nat) : Int) = 0 from rfl, Nat.zero_add] at e
  simp [f_l_sold, e, soldB]
theorem l_l_gone {k : Nat} {h : Hs} {g : Gr} (w : g.wf) {z : D} {cs : List (List Nat)} : ∀ {y : Nat} {s : List Nat} {acc : List Nat} {u v : Sl}, StW g s → (∀ c ∈ cs, CaW g c) → acc.length + cs.length ≤ 1000 →
    ∃ u' v', forB (runF G (k + 2)) (.t [4, 5]) b_l_gone_0 (enmD y (cs.map tN)) [.v g.enc, .v (tN s), .v z, .o (acc.map fun n : Nat => .int n), u, v] h = goneR g (.v z) acc h u' v' (goneB g y s cs) := by
  induction cs with
  | nil => exact fun {y s acc u v} _ _ _ => ⟨u, v, by simp [goneB, goneR]⟩
  | cons c cs ih =>
    intro y s acc u v ws wc l
    rw [List.length_cons] at l
    have wc0 := wc c List.mem_cons_self
    have l1 : acc.length < LIM := by unfold LIM; omega
    rw [List.map_cons, enmD_cons, forB_cons]
    cases m : mayB g s c with
    | false =>
      refine ⟨u, v, ?_⟩
      have st : inT (runF G (k + 2)) (.t [4, 5]) b_l_gone_0 (.tup [.int y, tN c]) [.v g.enc, .v (tN s), .v z, .o (acc.map fun n : Nat => .int n), u, v] h = .ok (.rt (.tup [lN acc, tN s, .int y])) h := by
        simp [b_l_gone_0, r_l_can w ws wc0, m]
        rfl
      rw [st, kFor_rt]
      simp [goneB, goneR, m]
    | true =>
      obtain ⟨u', v', e⟩ := ih (y := y + 1) (s := nextB g s c) (acc := acc ++ [soldB g s c]) (u := .v (.int y)) (v := .v (tN c)) StW.next (fun b hb => wc b (List.mem_cons_of_mem _ hb)) (by rw [List.length_append, List.length_singleton]; omega)
      refine ⟨u', v', ?_⟩
      have st : inT (runF G (k + 2)) (.t [4, 5]) b_l_gone_0 (.tup [.int y, tN c]) [.v g.enc, .v (tN s), .v z, .o (acc.map fun n : Nat => .int n), u, v] h = .ok (.nx [.v g.enc, .v (tN (nextB g s c)), .v z, .o ((acc ++ [soldB g s c]).map fun n : Nat => .int n), .v (.int y), .v (tN c)]) h := by
        simp [b_l_gone_0, r_l_can w ws wc0, m, r_l_sold w ws wc0 m, r_l_next w ws.len, l1]
      rw [st, kFor_nx, e]
      unfold goneR
      simp only [goneB, m, if_true, List.append_assoc, List.singleton_append]
theorem r_l_gone {k : Nat} {h : Hs} {g : Gr} (w : g.wf) {cs : List (List Nat)} {s : List Nat} (ws : StW g s) (wc : ∀ c ∈ cs, CaW g c) (l : cs.length ≤ 1000) : runF G (k + 3) n_l_gone [g.enc, tN s, tC cs] h = .ok (goneD (goneB g 0 s cs)) h := by
  rw [run_eq (fn := f_l_gone) rfl]
  obtain ⟨u, v, e⟩ := l_l_gone (k := k) (h := h) w (z := tC cs) (cs := cs) (y := 0) (s := s) (acc := []) (u := .u) (v := .u) ws wc (by simpa using l)
  rw [List.map_nil] at e
  unfold goneR at e
  cases q : (goneB g 0 s cs).2.2 with
  | none =>
    rw [q] at e
    simp [f_l_gone, e]
    simp [goneD, oD, q, lN]
  | some n =>
    rw [q] at e
    simp [f_l_gone, e]
    simp [goneD, oD, q]
end Tv
end

section
set_option autoImplicit false
set_option maxHeartbeats 1000000
/-! The catches in order; courses drawn. -/
namespace Tv
open PySem
def iN (xs : List Nat) : List Int := xs.map fun n : Nat => (n : Int)
def leN (a b : List Nat) : Bool := decide (iN a ≤ iN b)
theorem py_tN {xs : List Nat} : (tN xs).py = .tuple ((iN xs).map .int) := congrArg PyData.tuple py_ints
theorem lt_tup (xs ys : List PyData) : W.dataLt (.tuple xs) (.tuple ys) = W.dataLt (.list xs) (.list ys) := by
  unfold W.dataLt
  simp only [W.keyToks]
theorem le_tN (a b : List Nat) : W.dataLe false D.py (tN a) (tN b) = leN a b := by
  have q := congrFun (congrFun (W.dataLe_rows (fun x : List Int => x)) (iN a)) (iN b)
  rw [W.dataLe_eq] at q ⊢
  show (!W.dataLt (tN b).py (tN a).py) = _
  rw [py_tN, py_tN, lt_tup]
  exact q
theorem sortsOk_tN {L : List (List Nat)} (l : L.length ≤ 10000) : sortsOk (L.map tN) = true := by
  unfold sortsOk
  have e1 : (L.map tN).all isTupD = true := by rw [List.all_map, List.all_eq_true]; exact fun _ _ => rfl
  have e2 : D.pls (L.map tN) = true := by rw [D.pls_all, List.all_map, List.all_eq_true]; exact fun x _ => pl_tN
  have e4 : ((L.map tN).all fun x => decide (PyData.depth x.py ≤ 60) && (L.map tN).all fun y => W.alike x.py y.py) = true := by
    rw [List.all_map, List.all_eq_true]
    intro x _
    show (_ && _) = true
    rw [Bool.and_eq_true]
    refine ⟨?_, ?_⟩
    · rw [py_tN, PyData.depth, depthAll_ints]; rfl
    · rw [py_tN, List.all_map, List.all_eq_true]
      intro y _
      show W.alike _ (tN y).py = true
      rw [py_tN, W.alike]
      exact W.alike_ints _ _
  have e5 : decide ((L.map tN).length ≤ 10000) = true := by simpa using l
  simp only [e1, e2, e4, e5, Bool.true_or, Bool.or_true, Bool.and_true, Bool.true_and]
  rw [Bool.or_eq_true]
  refine .inr ?_
  rw [List.all_map, List.all_eq_true]
  exact fun _ _ => rfl
theorem sorted_tN {L : List (List Nat)} (l : L.length ≤ 10000) : dBi .sorted [.bor (L.map tN)] = some (.lst ((L.mergeSort leN).map tN)) := by
  show (if sortsOk (L.map tN) then some (D.lst ((L.map tN).mergeSort (W.dataLe false D.py))) else none) = _
  rw [sortsOk_tN l, if_pos rfl, List.map_mergeSort (s := W.dataLe false D.py) (f := tN) (fun a _ b _ => (le_tN a b).symm)]
theorem sorted_tNl {L : List (List Nat)} (l : L.length ≤ 10000) : dBi .sorted [.lst (L.map tN)] = some (.lst ((L.mergeSort leN).map tN)) := sorted_tN l
/-- all catches of so many beds, boats -/
def rowB (n b one : Nat) : List (List Nat) := [one] :: (if b = 2 then (List.range' (one + 1) (n - (one + 1))).map fun o => [one, o] else [])
def catB (n b : Nat) : List (List Nat) := [] :: (List.range n).flatMap (rowB n b)
theorem catB_sorted : ∀ n, n ≤ 4 → ∀ b, b ≤ 2 → (catB n b).mergeSort leN = catB n b := by
  intro n hn b hb
  apply List.mergeSort_of_pairwise
  have : ∀ n, n < 5 → ∀ b, b < 3 → (catB n b).Pairwise (fun a b => leN a b = true) := by decide
  exact this n (by omega) b (by omega)
theorem rowB_len {n b one : Nat} (h : n ≤ 4) : (rowB n b one).length ≤ 5 := by
  unfold rowB
  split <;> simp <;> omega
theorem dAdd_bl {xs ys : List D} (h : xs.length + ys.length ≤ LIM) : dAdd (.bor xs) (.lst ys) = some (.lst (xs ++ ys)) := by
  show ofLen _ _ = _
  unfold ofLen
  rw [if_pos h]
theorem dAdd_ll {xs ys : List D} (h : xs.length + ys.length ≤ LIM) : dAdd (.lst xs) (.lst ys) = some (.lst (xs ++ ys)) := by
  show ofLen _ _ = _
  unfold ofLen
  rw [if_pos h]
theorem s_l_catches {k : Nat} {h : Hs} {g : Gr} {acc : List (List Nat)} {one : Nat} {a b : Sl} (w : g.wf) (l1 : one < g.beds.length) (la : acc.length ≤ 100) :
    ∃ b', inT (runF G k) (.n 3) b_l_catches_0 (.int one) [.v g.enc, .o (acc.map tN), .v (.int g.beds.length), a, b] h = .ok (.nx [.v g.enc, .o ((acc ++ rowB g.beds.length g.boats one).map tN), .v (.int g.beds.length), .v (.int one), b']) h := by
  have l2 : acc.length < LIM := by unfold LIM; omega
  have l4 := w.l4
  have eo : D.tup [.int one] = tN [one] := rfl
  have ea : acc.map tN ++ [tN [one]] = (acc ++ [[one]]).map tN := by simp
  by_cases z : g.boats = 2
  · have q : ∀ x ∈ List.range' (one + 1) (g.beds.length - (one + 1)), oneC (runF G k) (.n 4) (.c (.bl true)) x_l_catches_0 ((fun j : Nat => D.int j) x) [.v g.enc, .o ((acc ++ [[one]]).map tN), .v (.int g.beds.length), .v (.int one), .u] h = .ok (some ((fun o : Nat => tN [one, o]) x)) h := fun x _ => by
      simp [x_l_catches_0]
      rfl
    have er : itRng (.int ((one : Int) + 1)) (.int g.beds.length) = some ((List.range' (one + 1) (g.beds.length - (one + 1))).map fun i : Nat => D.int i) := by
      rw [show ((one : Int) + 1) = ((one + 1 : Nat) : Int) by omega]; exact itRng_nat2 (by omega) (by omega)
    have lr : (List.range' (one + 1) (g.beds.length - (one + 1))).length ≤ LIM := by rw [List.length_range']; unfold LIM; omega
    have ls : ((acc ++ [[one]]).map tN).length + ((List.range' (one + 1) (g.beds.length - (one + 1))).map fun o : Nat => tN [one, o]).length ≤ LIM := by
      simp only [List.length_map, List.length_append, List.length_range', List.length_singleton]
      unfold LIM; omega
    have ks : ∀ L : List Nat, (L.map fun o : Nat => tN [one, o]).all D.keep = true := fun L => by simp
    have ks2 : ∀ L : List (List Nat), (L.map tN).all D.keep = true := fun L => by simp
    have z2 : ((g.boats : Int) == 2) = true := by rw [beq_iff_eq]; omega
    refine ⟨b, ?_⟩
    simp only [b_l_catches_0]
    simp only [inT_p, putT_n, keep_int, putN_t, put_s, put_z, inP_some, b_cons, s_app, get_s, get_z, appS_o, e_tup, es_cons, e_v, evV_eq, slV_v, R.of_some, kEs_ok, es_nil, kEs2_ok, kTup_ok, List.all_cons, List.all_nil, Bool.and_true, if_true, kApp_ok, keep_tup, List.length_map, l2, decide_true, kBl_nx, eo, ea, tN_keep]
    simp only [s_ite, e_cmp, e_ix, e_v, evV_eq, get_z, slV_v, R.of_some, kIx_ok, e_c, kIx2_ok, gr_ix1, kCmp_ok, kCmp2_ok, dCmp_eq, dEq_int, z2, Option.map_some, kIf_ok, tru_bl, cIf_t, b_cons, s_own, e_bin, get_s, slV_o, kBin_ok, e_comp, i_rngs, kRngs_ok, kRngs2_ok, dBin_add, dAdd_int, er, kComp_ok, cComp_eq, lr, if_true, wipe_cons, wipe_nil, put_s, put_z, compB_all q, R.calm_ok, kComp2_ok, kBin2_ok, dAdd_bl ls, kOwn_ok, ownR_lst, List.all_append, ks, ks2, Bool.and_true, List.length_map, kBl_nx, b_nil]
    simp [rowB, z, Function.comp_def]
  · refine ⟨b, ?_⟩
    have z2 : ((g.boats : Int) == 2) = false := by rw [beq_eq_false_iff_ne]; omega
    simp [b_l_catches_0, l2, z2, rowB, z]
    rfl

theorem l_l_catches {k : Nat} {h : Hs} {g : Gr} (w : g.wf) {xs : List Nat} : ∀ {acc : List (List Nat)} {a b : Sl}, (∀ x ∈ xs, x < g.beds.length) → acc.length + 5 * xs.length ≤ 100 →
    ∃ a' b', forB (runF G k) (.n 3) b_l_catches_0 (xs.map fun j : Nat => D.int j) [.v g.enc, .o (acc.map tN), .v (.int g.beds.length), a, b] h = .ok (.nx [.v g.enc, .o ((acc ++ xs.flatMap (rowB g.beds.length g.boats)).map tN), .v (.int g.beds.length), a', b']) h := by
  induction xs with
  | nil => exact fun {acc a b} _ _ => ⟨a, b, by simp⟩
  | cons x xs ih =>
    intro acc a b hx l
    rw [List.length_cons] at l
    have hl := rowB_len (n := g.beds.length) (b := g.boats) (one := x) w.l4
    obtain ⟨b1, e1⟩ := s_l_catches (k := k) (h := h) (acc := acc) (a := a) (b := b) w (hx x List.mem_cons_self) (by omega)
    obtain ⟨a2, b2, e2⟩ := ih (acc := acc ++ rowB g.beds.length g.boats x) (a := .v (.int x)) (b := b1) (fun y hy => hx y (List.mem_cons_of_mem _ hy)) (by rw [List.length_append]; omega)
    refine ⟨a2, b2, ?_⟩
    rw [List.map_cons, forB_cons, e1, kFor_nx, e2, List.flatMap_cons, List.append_assoc]
def catG (g : Gr) : List (List Nat) := catB g.beds.length g.boats
theorem catB_len : ∀ n, n ≤ 4 → ∀ b, b ≤ 2 → (catB n b).length ≤ 20 := by
  have : ∀ n, n < 5 → ∀ b, b < 3 → (catB n b).length ≤ 20 := by decide
  exact fun n hn b hb => this n (by omega) b (by omega)
theorem catG_len {g : Gr} (w : g.wf) : (catG g).length ≤ 20 := catB_len _ w.l4 _ w.b2
theorem r_l_catches {k : Nat} {h : Hs} {g : Gr} (w : g.wf) : runF G (k + 1) n_l_catches [g.enc] h = .ok (.lst ((catG g).map tN)) h := by
  rw [run_eq (fn := f_l_catches) rfl]
  have l4 := w.l4
  obtain ⟨a, b, e⟩ := l_l_catches (k := k) (h := h) w (xs := List.range g.beds.length) (acc := [[]]) (a := .u) (b := .u) (fun x hx => List.mem_range.mp hx) (by simp; omega)
  have ec : [[]] ++ (List.range g.beds.length).flatMap (rowB g.beds.length g.boats) = catG g := rfl
  rw [ec] at e
  have er := itRng_nat (n := g.beds.length) (by omega)
  have e0 : [D.tup []] = [([] : List Nat)].map tN := rfl
  have es := sorted_tNl (L := catG g) (by have := catG_len w; omega)
  have ems : (catG g).mergeSort leN = catG g := catB_sorted _ w.l4 _ w.b2
  rw [ems] at es
  have e1 : [D.tup []] = [tN []] := rfl
  rw [List.map_singleton] at e
  simp [f_l_catches, e1, er, e, es]
theorem catB_ok : ∀ n, n < 5 → ∀ b, b < 3 → ∀ c ∈ catB n b, c.length ≤ max b 1 ∧ (∀ x ∈ c, x < n) ∧ risN c = true := by decide
theorem catG_ok {g : Gr} (w : g.wf) {c : List Nat} (h : c ∈ catG g) : CaW g c := by
  have l4 := w.l4; have b1 := w.b1; have b2 := w.b2
  obtain ⟨h1, h2, h3⟩ := catB_ok g.beds.length (by omega) g.boats (by omega) c h
  exact ⟨by omega, h2, h3⟩
theorem r_l_let {k : Nat} {h : Hs} {g : Gr} {s : List Nat} (w : g.wf) (ws : StW g s) : runF G (k + 2) n_l_let [g.enc, tN s] h = .ok (.lst (((catG g).filter (mayB g s)).map tN)) h := by
  rw [run_eq (fn := f_l_let) rfl]
  have q : ∀ a ∈ catG g, oneC (runF G (k + 1)) (.n 2) c_l_let_0 (.v 2) (tN a) [.v g.enc, .v (tN s), .u] h = .ok (if mayB g s a then some (tN a) else none) h := fun a ha => by
    cases z : mayB g s a <;> simp [c_l_let_0, r_l_can w ws (catG_ok w ha), z]
  have l := catG_len w
  simp [f_l_let, r_l_catches w, compB_map q, show (catG g).length ≤ LIM by unfold LIM; omega]
theorem nil_catG {g : Gr} : [] ∈ catG g := List.mem_cons_self
theorem mayB_nil {g : Gr} {s : List Nat} : mayB g s [] = true := rfl
theorem ixL_map {α : Type} {f : α → D} {xs : List α} {j : Nat} {h : Hs} (l : j < xs.length) : ixR (.lst (xs.map f)) (.int j) h = .ok (f (xs[j]'l)) h := by
  rw [ixR_lst, ixL j rfl (by simpa using l)]
  simp
/-- a course that does not break -/
def goesB (g : Gr) : List Nat → List (List Nat) → Bool
  | _, [] => true
  | s, c :: cs => mayB g s c && goesB g (nextB g s c) cs
theorem s_l_course {k : Nat} {h : Hs} {i : Nat} {g : Gr} {s : List Nat} {acc : List (List Nat)} {x y : D} {a b c : Sl} (w : g.wf) (ws : StW g s) (q : BoxAt h i) (la : acc.length ≤ 1000) (kx : x.keep = true) :
    ∃ (ct : List Nat) (b' : Sl) (h' : Hs), inT (runF G (k + 3)) (.n 5) b_l_course_0 x [.v (.ref i), .v g.enc, .v (tN s), .v y, .o (acc.map tN), a, b, c] h = .ok (.nx [.v (.ref i), .v g.enc, .v (tN (nextB g s ct)), .v y, .o ((acc ++ [ct]).map tN), .v x, b', .v (tN ct)]) h' ∧ CaW g ct ∧ mayB g s ct = true ∧ BoxAt h' i := by
  have la2 : acc.length < LIM := by unfold LIM; omega
  generalize hL : (catG g).filter (mayB g s) = L at *
  have mL : ∀ c ∈ L, CaW g c ∧ mayB g s c = true := fun c hc => by
    rw [← hL, List.mem_filter] at hc
    exact ⟨catG_ok w hc.1, hc.2⟩
  have pL : 0 < L.length := by
    have : [] ∈ L := by rw [← hL, List.mem_filter]; exact ⟨nil_catG, mayB_nil⟩
    exact List.length_pos_of_mem this
  have lL : L.length ≤ 20 := by rw [← hL]; exact Nat.le_trans (List.length_filter_le ..) (catG_len w)
  have el : ∀ h, runF G (k + 3) n_l_let [g.enc, tN s] h = .ok (.lst (L.map tN)) h := fun h => by rw [r_l_let w ws, hL]
  obtain ⟨d1, h1, e1, l1, q1⟩ := r_take (k := k + 2) (M := L.length) (m := L.length) rfl q pL (by omega)
  obtain ⟨d2, h2, e2, l2, q2⟩ := r_take (k := k + 2) (M := 2) (m := 2) rfl q1 (by omega) (by omega)
  have ej : ∃ j : Nat, j < L.length ∧ ixR (.lst [.int d1, .int ((L.length : Int) - 1)]) (.int d2) h2 = .ok (.int j) h2 := by
    rcases (by omega : d2 = 0 ∨ d2 = 1) with rfl | rfl
    · exact ⟨d1, l1, by simp [dIx, D.sq?, L2.atI, L2.ixN]⟩
    · refine ⟨L.length - 1, by omega, ?_⟩
      simp [dIx, D.sq?, L2.atI, L2.ixN]
      omega
  obtain ⟨j, lj, ej⟩ := ej
  obtain ⟨wc, mc⟩ := mL (L[j]'lj) (List.getElem_mem lj)
  have ei : ixR (.lst (L.map tN)) (.int j) h2 = .ok (tN (L[j]'lj)) h2 := ixL_map lj
  generalize L[j]'lj = ct at *
  refine ⟨ct, .v (.lst (L.map tN)), h2, ?_, wc, mc, q2⟩
  simp only [b_l_course_0, inT_p, putT_n, kx, putN_t, put_s, put_z, inP_some]
  simp [el, e1, e2, ej, ei, la2, r_l_next w ws.len]
theorem l_l_course {k : Nat} {i : Nat} {g : Gr} (w : g.wf) {y : D} {xs : List Nat} : ∀ {h : Hs} {s : List Nat} {acc : List (List Nat)} {a b c : Sl}, StW g s → BoxAt h i → acc.length + xs.length ≤ 1000 →
    ∃ (cs : List (List Nat)) (s' : List Nat) (a' b' c' : Sl) (h' : Hs), forB (runF G (k + 3)) (.n 5) b_l_course_0 (xs.map fun j : Nat => D.int j) [.v (.ref i), .v g.enc, .v (tN s), .v y, .o (acc.map tN), a, b, c] h = .ok (.nx [.v (.ref i), .v g.enc, .v (tN s'), .v y, .o ((acc ++ cs).map tN), a', b', c']) h' ∧ cs.length = xs.length ∧ (∀ c ∈ cs, CaW g c) ∧ goesB g s cs = true ∧ BoxAt h' i := by
  induction xs with
  | nil => exact fun {h s acc a b c} _ q _ => ⟨[], s, a, b, c, h, by simp, rfl, by simp, rfl, q⟩
  | cons x xs ih =>
    intro h s acc a b c ws q l
    rw [List.length_cons] at l
    obtain ⟨ct, b1, h1, e1, wc, mc, q1⟩ := s_l_course (k := k) (x := .int x) (y := y) (a := a) (b := b) (c := c) w ws q (by omega : acc.length ≤ 1000) rfl
    obtain ⟨cs, s', a', b', c', h2, e2, l2, w2, g2, q2⟩ := ih (h := h1) (s := nextB g s ct) (acc := acc ++ [ct]) (a := .v (.int x)) (b := b1) (c := .v (tN ct)) StW.next q1 (by rw [List.length_append, List.length_singleton]; omega)
    refine ⟨ct :: cs, s', a', b', c', h2, ?_, by simp [l2], fun z hz => ?_, by rw [goesB, mc, g2]; rfl, q2⟩
    · rw [List.map_cons, forB_cons, e1, kFor_nx, e2]
      simp
    · rcases List.mem_cons.mp hz with rfl | hz
      · exact wc
      · exact w2 z hz
theorem r_l_course {k : Nat} {h : Hs} {i n : Nat} {g : Gr} {s : List Nat} (w : g.wf) (ws : StW g s) (q : BoxAt h i) (l : n ≤ 1000) : ∃ (cs : List (List Nat)) (h' : Hs), runF G (k + 4) n_l_course [.ref i, g.enc, tN s, .int n] h = .ok (tC cs) h' ∧ cs.length = n ∧ (∀ c ∈ cs, CaW g c) ∧ goesB g s cs = true ∧ BoxAt h' i := by
  rw [run_eq (fn := f_l_course) rfl]
  obtain ⟨cs, s', a, b, c, h', e, l2, w2, g2, q2⟩ := l_l_course (k := k) w (y := .int n) (xs := List.range n) (h := h) (s := s) (acc := []) (a := .u) (b := .u) (c := .u) ws q (by simpa using l)
  refine ⟨cs, h', ?_, by simpa using l2, w2, g2, q2⟩
  rw [List.map_nil] at e
  have er := itRng_nat (n := n) (by omega)
  simp [f_l_course, er, e]
  rfl
end Tv
end

section
set_option autoImplicit false
set_option maxHeartbeats 1000000
/-! Things of whatever kind, things spoilt: small enough to be shown. -/
namespace Tv
open PySem
mutual
/-- small: whole numbers to B, signs, nothing of one's own -/
def D.nic (B : Nat) : D → Bool
  | .non => true | .bl _ => true
  | .int i => decide (i.natAbs ≤ B)
  | .str s => s.cps.toList.all fun c => decide (c < 16 ^ 8)
  | .tup xs => D.nics B xs | .lst xs => D.nics B xs
  | .dct kvs => kvs.all fun p => decide (p.1.natAbs ≤ B) && decide (p.2.natAbs ≤ B)
  | .bor _ => false | .scr _ => false | .ref _ => false | .exc _ _ => false
def D.nics (B : Nat) : List D → Bool
  | [] => true
  | x :: xs => D.nic B x && D.nics B xs
end
theorem log_lt {i : Int} {B : Nat} (hB : B < 10 ^ 30) (h : i.natAbs ≤ B) : i.natAbs.log2 < 1920 := by
  by_cases z : i.natAbs = 0
  · rw [z]; decide
  · exact Nat.lt_trans ((Nat.log2_lt (k := 100) z).mpr (Nat.lt_of_le_of_lt h (Nat.lt_trans hB (by decide)))) (by decide)
theorem len_le {i : Int} {B : Nat} (hB : B < 10 ^ 30) (h : i.natAbs ≤ B) : (PyData.shown (.int i)).length ≤ 31 := by
  rw [PyData.shown]
  have e := int_text_length_le10 (a := i) (k := 30) (by decide) (Nat.lt_of_le_of_lt h hB)
  rw [ofString_length]
  exact e
mutual
theorem nic_pl {B : Nat} : ∀ {d : D}, d.nic B = true → d.pl = true
  | .non, _ => rfl | .bl _, _ => rfl | .int _, _ => rfl | .str _, _ => rfl
  | .tup xs, h => by rw [D.pl]; rw [D.nic] at h; exact nics_pl h
  | .lst xs, h => by rw [D.pl]; rw [D.nic] at h; exact nics_pl h
  | .dct _, _ => rfl
  | .bor _, h => by cases h
  | .scr _, h => by cases h
  | .ref _, h => by cases h
  | .exc _ _, h => by cases h
theorem nics_pl {B : Nat} : ∀ {xs : List D}, D.nics B xs = true → D.pls xs = true
  | [], _ => rfl
  | x :: xs, h => by
    rw [D.nics, Bool.and_eq_true] at h
    rw [D.pls, nic_pl h.1, nics_pl h.2]; rfl
end
theorem kv_show {B : Nat} (hB : B < 10 ^ 30) : ∀ {kvs : List (Int × Int)}, (kvs.all fun p => decide (p.1.natAbs ≤ B) && decide (p.2.natAbs ≤ B)) = true → PyData.showableKv (kvs.map fun p => (.int p.1, .int p.2)) = true ∧ PyData.leavesShortKv 31 (kvs.map fun p => (.int p.1, .int p.2)) = true
  | [], _ => ⟨rfl, rfl⟩
  | p :: kvs, h => by
    rw [List.all_cons, Bool.and_eq_true, Bool.and_eq_true, decide_eq_true_eq, decide_eq_true_eq] at h
    obtain ⟨i1, i2⟩ := kv_show hB h.2
    refine ⟨?_, ?_⟩
    · rw [List.map_cons, PyData.showableKv, i1, PyData.showable, PyData.showable, decide_eq_true (log_lt hB h.1.1), decide_eq_true (log_lt hB h.1.2)]; rfl
    · rw [List.map_cons, PyData.leavesShortKv, i2, PyData.leavesShort, PyData.leavesShort, decide_eq_true (len_le hB h.1.1), decide_eq_true (len_le hB h.1.2)]; rfl
mutual
theorem nic_show {B : Nat} (hB : B < 10 ^ 30) : ∀ {d : D}, d.nic B = true → PyData.showable d.py = true ∧ PyData.leavesShort 31 d.py = true
  | .non, _ => ⟨rfl, rfl⟩
  | .bl _, _ => ⟨rfl, rfl⟩
  | .int i, h => by
    rw [D.nic, decide_eq_true_eq] at h
    exact ⟨by rw [D.py, PyData.showable, decide_eq_true (log_lt hB h)], by rw [D.py, PyData.leavesShort, decide_eq_true (len_le hB h)]⟩
  | .str s, h => by
    rw [D.nic] at h
    exact ⟨rfl, by rw [D.py, PyData.leavesShort, h]⟩
  | .tup xs, h => by rw [D.nic] at h; rw [D.py, PyData.showable, PyData.leavesShort]; exact nics_show hB h
  | .lst xs, h => by rw [D.nic] at h; rw [D.py, PyData.showable, PyData.leavesShort]; exact nics_show hB h
  | .dct kvs, h => by rw [D.nic] at h; rw [D.py, PyData.showable, PyData.leavesShort]; exact kv_show hB h
  | .bor _, h => by cases h
  | .scr _, h => by cases h
  | .ref _, h => by cases h
  | .exc _ _, h => by cases h
theorem nics_show {B : Nat} (hB : B < 10 ^ 30) : ∀ {xs : List D}, D.nics B xs = true → PyData.showableAll (D.pys xs) = true ∧ PyData.leavesShortAll 31 (D.pys xs) = true
  | [], _ => ⟨rfl, rfl⟩
  | x :: xs, h => by
    rw [D.nics, Bool.and_eq_true] at h
    obtain ⟨a1, a2⟩ := nic_show hB h.1
    obtain ⟨b1, b2⟩ := nics_show hB h.2
    rw [D.pys, PyData.showableAll, PyData.leavesShortAll, a1, a2, b1, b2]; exact ⟨rfl, rfl⟩
end
/-- small, of so much bulk, so deep -/
structure Fit (B w p : Nat) (d : D) : Prop where
  n : d.nic B = true
  b : PyData.bulk d.py ≤ w
  d : PyData.depth d.py ≤ p
structure FitL (B w p : Nat) (xs : List D) : Prop where
  n : D.nics B xs = true
  b : PyData.bulkAll (D.pys xs) ≤ w
  d : PyData.depthAll (D.pys xs) ≤ p
theorem Fit.pl {B w p : Nat} {d : D} (f : Fit B w p d) : d.pl = true := nic_pl f.n
theorem Fit.shows {B w p : Nat} {d : D} (f : Fit B w p d) (hB : B < 10 ^ 30) (hw : w ≤ 400000) (hp : p ≤ 60) : d.shows = true := by
  obtain ⟨s1, s2⟩ := nic_show hB f.n
  have s3 := PyData.shown_le_bulk 31 (by decide) d.py s2
  have fb := f.b
  have fd := f.d
  have rd : d.rd = true := by
    have := f.pl
    cases d <;> first | exact this | (cases this; done)
  unfold D.shows
  rw [rd, s1, decide_eq_true (show PyData.depth d.py ≤ 60 by omega), decide_eq_true (show (PyData.shown d.py).length ≤ LIM by unfold LIM; omega)]
  rfl
mutual
theorem nic_mono {B C : Nat} (h : B ≤ C) : ∀ {d : D}, d.nic B = true → d.nic C = true
  | .non, _ => rfl
  | .bl _, _ => rfl
  | .int i, z => by rw [D.nic, decide_eq_true_eq] at z ⊢; omega
  | .str s, z => by rw [D.nic] at z ⊢; exact z
  | .tup xs, z => by rw [D.nic] at z ⊢; exact nics_mono h z
  | .lst xs, z => by rw [D.nic] at z ⊢; exact nics_mono h z
  | .dct kvs, z => by
    rw [D.nic, List.all_eq_true] at z ⊢
    intro p hp
    have := z p hp
    rw [Bool.and_eq_true, decide_eq_true_eq, decide_eq_true_eq] at this ⊢
    omega
  | .bor _, h => by cases h
  | .scr _, h => by cases h
  | .ref _, h => by cases h
  | .exc _ _, h => by cases h
theorem nics_mono {B C : Nat} (h : B ≤ C) : ∀ {xs : List D}, D.nics B xs = true → D.nics C xs = true
  | [], _ => rfl
  | x :: xs, z => by
    rw [D.nics, Bool.and_eq_true] at z ⊢
    exact ⟨nic_mono h z.1, nics_mono h z.2⟩
end
theorem Fit.mono {B C w v p q : Nat} {d : D} (f : Fit B w p d) (h1 : B ≤ C) (h2 : w ≤ v) (h3 : p ≤ q) : Fit C v q d := ⟨nic_mono h1 f.n, Nat.le_trans f.b h2, Nat.le_trans f.d h3⟩
theorem FitL.mono {B C w v p q : Nat} {d : List D} (f : FitL B w p d) (h1 : B ≤ C) (h2 : w ≤ v) (h3 : p ≤ q) : FitL C v q d := ⟨nics_mono h1 f.n, Nat.le_trans f.b h2, Nat.le_trans f.d h3⟩
theorem fl_nil {B : Nat} : FitL B 0 0 [] := ⟨rfl, Nat.le_refl _, Nat.le_refl _⟩
theorem fl_cons {B w v p q : Nat} {x : D} {xs : List D} (f : Fit B w p x) (g : FitL B v q xs) : FitL B (w + 1 + v) (max p q) (x :: xs) := by
  refine ⟨by rw [D.nics, f.n, g.n]; rfl, ?_, ?_⟩
  · have := f.b; have := g.b; rw [D.pys, PyData.bulkAll]; omega
  · have := f.d; have := g.d; rw [D.pys, PyData.depthAll]; omega
theorem fl_inv {B w p : Nat} {x : D} {xs : List D} (f : FitL B w p (x :: xs)) : ∃ a b, Fit B a p x ∧ FitL B b p xs ∧ a + 1 + b ≤ w := by
  obtain ⟨n, b, d⟩ := f
  rw [D.nics, Bool.and_eq_true] at n
  rw [D.pys, PyData.bulkAll] at b
  rw [D.pys, PyData.depthAll] at d
  exact ⟨PyData.bulk x.py, PyData.bulkAll (D.pys xs), ⟨n.1, Nat.le_refl _, by omega⟩, ⟨n.2, Nat.le_refl _, by omega⟩, b⟩
theorem fl_app {B : Nat} : ∀ {xs ys : List D} {w v p q : Nat}, FitL B w p xs → FitL B v q ys → FitL B (w + v) (max p q) (xs ++ ys)
  | [], ys, w, v, p, q, _, g => g.mono (Nat.le_refl _) (by omega) (by omega)
  | x :: xs, ys, w, v, p, q, f, g => by
    obtain ⟨a, b, fx, fs, l⟩ := fl_inv f
    exact (fl_cons fx (fl_app fs g)).mono (Nat.le_refl _) (by omega) (by omega)
/-- parted at a place -/
theorem fl_cut {B : Nat} : ∀ {xs : List D} {n w p : Nat}, FitL B w p xs → ∃ a b, FitL B a p (xs.take n) ∧ FitL B b p (xs.drop n) ∧ a + b ≤ w
  | xs, 0, w, p, f => ⟨0, w, fl_nil.mono (Nat.le_refl _) (Nat.le_refl _) (Nat.zero_le _), f, by omega⟩
  | [], n + 1, w, p, f => ⟨0, w, fl_nil.mono (Nat.le_refl _) (Nat.le_refl _) (Nat.zero_le _), f, by omega⟩
  | x :: xs, n + 1, w, p, f => by
    obtain ⟨a, b, fx, fs, l⟩ := fl_inv f
    obtain ⟨c, e, f1, f2, l2⟩ := fl_cut (n := n) fs
    exact ⟨a + 1 + c, e, (fl_cons fx f1).mono (Nat.le_refl _) (Nat.le_refl _) (by omega), f2, by omega⟩
theorem fl_rev {B : Nat} : ∀ {xs : List D} {w p : Nat}, FitL B w p xs → FitL B w p xs.reverse
  | [], _, _, f => f
  | x :: xs, w, p, f => by
    obtain ⟨a, b, fx, fs, l⟩ := fl_inv f
    rw [List.reverse_cons]
    exact (fl_app (fl_rev fs) (fl_cons fx fl_nil)).mono (Nat.le_refl _) (by omega) (by omega)
theorem fit_tup {B w p : Nat} {xs : List D} (f : FitL B w p xs) : Fit B w (p + 1) (.tup xs) := ⟨by rw [D.nic]; exact f.n, by rw [D.py, PyData.bulk]; exact f.b, by rw [D.py, PyData.depth]; exact Nat.succ_le_succ f.d⟩
theorem fit_lst {B w p : Nat} {xs : List D} (f : FitL B w p xs) : Fit B w (p + 1) (.lst xs) := ⟨by rw [D.nic]; exact f.n, by rw [D.py, PyData.bulk]; exact f.b, by rw [D.py, PyData.depth]; exact Nat.succ_le_succ f.d⟩
theorem tup_fl {B w p : Nat} {xs : List D} (f : Fit B w (p + 1) (.tup xs)) : FitL B w p xs := by
  obtain ⟨n, b, d⟩ := f
  rw [D.nic] at n; rw [D.py, PyData.bulk] at b; rw [D.py, PyData.depth] at d
  exact ⟨n, b, by omega⟩
theorem fit_int {B : Nat} {i : Int} (h : i.natAbs ≤ B) : Fit B 0 0 (.int i) := ⟨by rw [D.nic]; exact decide_eq_true h, Nat.le_refl _, Nat.le_refl _⟩
theorem fit_non {B : Nat} : Fit B 0 0 .non := ⟨rfl, Nat.le_refl _, Nat.le_refl _⟩
theorem fit_bl {B : Nat} {b : Bool} : Fit B 0 0 (.bl b) := ⟨rfl, Nat.le_refl _, Nat.le_refl _⟩
theorem fl_nat {B : Nat} : ∀ {xs : List Nat}, (∀ x ∈ xs, x ≤ B) → FitL B xs.length 0 (xs.map fun n : Nat => .int n)
  | [], _ => fl_nil
  | x :: xs, h => (fl_cons (fit_int (i := x) (by have := h x List.mem_cons_self; omega)) (fl_nat fun y hy => h y (List.mem_cons_of_mem _ hy))).mono (Nat.le_refl _) (by rw [List.length_cons]; omega) (by omega)
theorem fit_tN {B : Nat} {xs : List Nat} (h : ∀ x ∈ xs, x ≤ B) : Fit B xs.length 1 (tN xs) := fit_tup (fl_nat h)
theorem fit_bed {B : Nat} (hB : 99 ≤ B) {b : Bed} (w : b.wf) : Fit B 5 2 b.enc := by
  have h1 := w.r; have h3 := w.l3
  exact (fit_tup (fl_cons (fit_int (i := b.rest) (by omega)) (fl_cons (fit_tN fun y hy => by have := w.y y hy; omega) fl_nil))).mono (Nat.le_refl _) (by omega) (by omega)
theorem fl_beds {B : Nat} (hB : 99 ≤ B) : ∀ {bs : List Bed}, (∀ b ∈ bs, b.wf) → FitL B (6 * bs.length) 2 (bs.map Bed.enc)
  | [], _ => fl_nil.mono (Nat.le_refl _) (Nat.zero_le _) (Nat.zero_le _)
  | b :: bs, w => (fl_cons (fit_bed hB (w b List.mem_cons_self)) (fl_beds hB fun z hz => w z (List.mem_cons_of_mem _ hz))).mono (Nat.le_refl _) (by rw [List.length_cons]; omega) (by omega)
theorem fit_gr {B : Nat} (hB : 99 ≤ B) {g : Gr} (w : g.wf) : Fit B 26 4 g.enc := by
  have h1 := w.b2; have h3 := w.l4
  exact (fit_tup (fl_cons (fit_tup (fl_beds hB w.b)) (fl_cons (fit_int (i := g.boats) (by omega)) fl_nil))).mono (Nat.le_refl _) (by omega) (by omega)
def odds : List D := [.non, .bl true, .bl false, .int 0, .int 1, .int (-1), .int 2, .int 3, .int 4, .int 5, .int 8, .int 9, .int 12, .int 13, .int 29, .int 30, .int 99, .int 100, .int 120, .int 121, .int 9999, .int 10000, .int 10000000000000000000, .int (-10000000000000000000), .str ⟨#[]⟩, .str ⟨#[48]⟩, .str ⟨#[45]⟩, .str ⟨#[108, 97, 105, 100]⟩, .tup [], .lst [], .dct [], .tup [.int 0], .lst [.int 0], .tup [.int 1, .int 1], .tup [.int 0, .int 0], .tup [.tup [.int 0, .int 5]], .tup [.int 0, .tup [.int 5]], .tup [.tup [.tup [.int 0, .tup [.int 5]]], .int 1], .tup [.tup [.tup [.int 0, .tup [.int 5]]], .int 3], .tup [.non], .tup [.tup []], .tup [.tup [], .tup []], .dct [(0, 5)], .tup [.bl true], .tup [.int 0, .str ⟨#[100, 105, 101, 100]⟩, .int 0, .int 1], .tup [.int 0, .str ⟨#[100, 105, 101, 100]⟩, .int 0, .int 13], .tup [.int 0, .str ⟨#[108, 97, 105, 100]⟩, .int 0, .int 0, .int 5], .tup [.tup [.int 0, .str ⟨#[100, 105, 101, 100]⟩, .int 0, .int 1]]]
def fitB (B w p : Nat) (d : D) : Bool := d.nic B && decide (PyData.bulk d.py ≤ w) && decide (PyData.depth d.py ≤ p)
theorem fit_of {B w p : Nat} {d : D} (h : fitB B w p d = true) : Fit B w p d := by
  unfold fitB at h
  rw [Bool.and_eq_true, Bool.and_eq_true, decide_eq_true_eq, decide_eq_true_eq] at h
  exact ⟨h.1.1, h.1.2, h.2⟩
theorem odds_fit : odds.all (fitB (10 ^ 19) 12 4) = true := by decide +kernel
theorem odd_body {cl : Nat → List D → Hs → R D} {i : Nat} {h : Hs} : exB cl f_l_odd.body [.v (.ref i), .u] h = kBl cl .nil (kRet cl (kIx2 cl (.lst odds) (cl n_l_take [.ref i, .int 48] h))) := by kernel_rfl
theorem r_l_odd {k : Nat} {h : Hs} {i : Nat} (q : BoxAt h i) : ∃ d h', runF G (k + 2) n_l_odd [.ref i] h = .ok d h' ∧ Fit (10 ^ 19) 12 4 d ∧ BoxAt h' i := by
  rw [run_eq (fn := f_l_odd) rfl]
  obtain ⟨j, h1, e1, l1, q1⟩ := r_take (k := k) (M := 48) (m := 48) rfl q (by omega) (by omega)
  have lo : odds.length = 48 := rfl
  have lj : j < odds.length := by omega
  have f := fit_of (List.all_eq_true.mp odds_fit _ (List.getElem_mem lj))
  refine ⟨odds[j]'lj, h1, ?_, f, q1⟩
  have eb := odd_body (cl := runF G (k + 1)) (i := i) (h := h)
  have es : startE f_l_odd.nn ([D.ref i].map D.hand) = [.v (.ref i), .u] := rfl
  rw [if_pos (show [D.ref i].length = f_l_odd.np from rfl), es, eb, e1, kIx2_ok, ixR_lst, ixL j rfl lj, R.of_some, kRet_ok, if_pos (keep_pl f.pl), kBl_rt, out_rt]
end Tv
end

section
set_option autoImplicit false
set_option maxHeartbeats 1000000
/-! Things spoilt at any place. -/
namespace Tv
open PySem
mutual
/-- whole numbers, None, tuples of such -/
def D.itp : D → Bool
  | .non => true | .int _ => true
  | .tup xs => D.itps xs
  | _ => false
def D.itps : List D → Bool
  | [] => true
  | x :: xs => D.itp x && D.itps xs
end
theorem itps_all : ∀ {xs : List D}, D.itps xs = xs.all D.itp
  | [] => rfl
  | x :: xs => by rw [D.itps, itps_all]; rfl
mutual
theorem itp_plain : ∀ {d : D}, d.itp = true → PyData.plain d.py = true
  | .non, _ => rfl
  | .int _, _ => rfl
  | .tup xs, h => by rw [D.itp] at h; rw [D.py, PyData.plain]; exact itps_plain h
  | .bl _, h => by cases h
  | .str _, h => by cases h
  | .lst _, h => by cases h
  | .dct _, h => by cases h
  | .bor _, h => by cases h
  | .scr _, h => by cases h
  | .ref _, h => by cases h
  | .exc _ _, h => by cases h
theorem itps_plain : ∀ {xs : List D}, D.itps xs = true → PyData.plainAll (D.pys xs) = true
  | [], _ => rfl
  | x :: xs, h => by
    rw [D.itps, Bool.and_eq_true] at h
    rw [D.pys, PyData.plainAll, itp_plain h.1, itps_plain h.2]; rfl
end
theorem itp_sound {B w p : Nat} {d : D} (h : d.itp = true) (f : Fit B w p d) (hp : p ≤ 60) : d.sound = true := by
  have fd := f.d
  have rd : d.rd = true := by
    have := f.pl
    cases d <;> first | exact this | (cases this; done)
  unfold D.sound
  rw [rd, itp_plain h, decide_eq_true (show PyData.depth d.py ≤ 60 by omega)]
  rfl
theorem dEq_tup0 {xs : List D} (s : (D.tup xs).sound = true) : dEq (.tup xs) (.tup []) = some xs.isEmpty := by
  have s2 : (D.tup []).sound = true := rfl
  unfold dEq
  rw [s, s2]
  cases xs <;> rfl
theorem dSl_fromto {xs : List D} {a b : Nat} (h : a ≤ b) : dSl (.tup xs) (some (a : Int)) (some (b : Int)) = some (.tup ((xs.drop a).take (b - a))) := by
  show some (D.tup (cutD xs (some (a : Int)) (some (b : Int)))) = _
  unfold cutD
  rw [HT.sIx_nat, HT.sIx_nat]
  congr 2
  by_cases h1 : a ≤ xs.length
  · rw [Nat.min_eq_left h1]
    by_cases h2 : b ≤ xs.length
    · rw [Nat.min_eq_left h2]
    · rw [Nat.min_eq_right (by omega), List.take_of_length_le (by rw [List.length_drop]; omega), List.take_of_length_le (by rw [List.length_drop]; omega)]
  · rw [Nat.min_eq_right (show xs.length ≤ b by omega), Nat.min_eq_right (show xs.length ≤ a by omega), List.drop_of_length_le (Nat.le_refl _), List.drop_of_length_le (by omega)]
    simp
@[simp] theorem dSl_from1 {xs : List D} {n : Nat} : dSl (.tup xs) (some ((n : Int) + 1)) none = some (.tup (xs.drop (n + 1))) := dSl_from (n := n + 1)
@[simp] theorem dSl_one {xs : List D} {n : Nat} : dSl (.tup xs) (some (n : Int)) (some ((n : Int) + 1)) = some (.tup ((xs.drop n).take 1)) := by
  have := dSl_fromto (xs := xs) (a := n) (b := n + 1) (by omega)
  rw [show n + 1 - n = 1 by omega] at this
  exact this
@[simp] theorem dRev_tup {xs : List D} : dRev (.tup xs) = some (.tup xs.reverse) := rfl
theorem dAdd_tt {xs ys : List D} (h : xs.length + ys.length ≤ LIM) : dAdd (.tup xs) (.tup ys) = some (.tup (xs ++ ys)) := by
  show ofLen _ _ = _
  unfold ofLen
  rw [if_pos h]
theorem fl_len {B : Nat} : ∀ {xs : List D} {w p : Nat}, FitL B w p xs → xs.length ≤ w
  | [], _, _, _ => Nat.zero_le _
  | x :: xs, w, p, f => by
    obtain ⟨a, b, fx, fs, l⟩ := fl_inv f
    have := fl_len fs
    rw [List.length_cons]; omega
theorem ix_any {xs : List D} {j : Nat} {h : Hs} {P : D → Prop} (l : j < xs.length) (q : ∀ x ∈ xs, P x) : ∃ d, ixR (.lst xs) (.int j) h = .ok d h ∧ P d :=
  ⟨xs[j]'l, by rw [ixR_lst, ixL j rfl l]; rfl, q _ (List.getElem_mem l)⟩
theorem str_signs (s : String) : ((Str.ofString s).cps.toList.all fun c => decide (c < 16 ^ 8)) = true := by
  rw [List.all_eq_true, Str.ofString_eq_toList]
  intro c hc
  simp only [List.mem_map] at hc
  obtain ⟨d, _, rfl⟩ := hc
  exact decide_eq_true (Nat.lt_of_lt_of_le d.val.toNat_lt (by decide))
theorem fit_str {B C : Nat} {i : Int} (hB : B < 10 ^ 30) (h : i.natAbs ≤ B) : Fit C 31 0 (.str (Str.ofString (toString i))) := by
  have e := len_le hB h
  rw [PyData.shown] at e
  exact ⟨by rw [D.nic]; exact str_signs _, by rw [D.py, PyData.bulk]; exact e, Nat.le_refl _⟩
theorem dStr_int {B : Nat} {i : Int} (hB : B < 10 ^ 30) (h : i.natAbs ≤ B) : dBi .str [.int i] = some (.str (Str.ofString (toString i))) := by
  show (if _ then _ else _) = _
  rw [if_pos (log_lt hB h)]
def spTail : Ss := (.cons (.set 4 (.call n_l_take (.cons (.v 0) (.cons (.c (.int 7)) .nil)))) (.cons (.ite (.isi (.v 1) .tuple) (.cons (.set 3 (.call n_l_take (.cons (.v 0) (.cons (.bin .add (.bi .len (.cons (.v 1) .nil)) (.c (.int 1))) .nil)))) (.cons (.set 5 (.lst (.cons (.bin .add (.slt (.v 1) (.v 3)) (.slf (.v 1) (.bin .add (.v 3) (.c (.int 1))))) (.cons (.bin .add (.bin .add (.slt (.v 1) (.v 3)) (.sl (.v 1) (.v 3) (.bin .add (.v 3) (.c (.int 1))))) (.slf (.v 1) (.v 3))) (.cons (.rev (.v 1)) (.cons (.bi .list (.cons (.v 1) .nil)) .nil)))))) (.cons (.ret (.ix (.bin .add (.v 5) (.lst (.cons (.bin .add (.v 1) (.tup (.cons (.v 2) .nil))) (.cons (.v 2) (.cons (.bin .add (.slf (.v 1) (.v 3)) (.slt (.v 1) (.v 3))) .nil))))) (.v 4))) .nil))) .nil) (.cons (.ite (.isi (.v 1) .int) (.cons (.ret (.ix (.lst (.cons (.bin .add (.v 1) (.c (.int 1))) (.cons (.bin .sub (.v 1) (.c (.int 1))) (.cons (.bin .sub (.c (.int 0)) (.v 1)) (.cons (.bi .str (.cons (.v 1) .nil)) (.cons (.v 2) (.cons (.bin .add (.v 1) (.c (.int 90))) (.cons (.v 2) .nil)))))))) (.v 4))) .nil) .nil) (.cons (.ret (.v 2)) .nil))))
theorem f_l_spoil_eq : f_l_spoil = ⟨3, 6, (.cons (.ite (.and (.isi (.v 1) .tuple) (.and (.cmp .ne (.v 1) (.tup .nil)) (.cmp .gt (.call n_l_take (.cons (.v 0) (.cons (.c (.int 5)) .nil))) (.c (.int 0))))) (.cons (.set 3 (.call n_l_take (.cons (.v 0) (.cons (.bi .len (.cons (.v 1) .nil)) .nil)))) (.cons (.ret (.bin .add (.bin .add (.slt (.v 1) (.v 3)) (.tup (.cons (.call n_l_spoil (.cons (.v 0) (.cons (.ix (.v 1) (.v 3)) (.cons (.v 2) .nil)))) .nil))) (.slf (.v 1) (.bin .add (.v 3) (.c (.int 1)))))) .nil)) .nil) spTail)⟩ := rfl
section
variable {i wo po B : Nat} {odd : D}
/-- what a spoilt thing is -/
def Spo (B wo po w n : Nat) (d : D) : Prop := Fit (B + 90) (2 * w + wo + 31) (n + po + 1) d
theorem sp_int {k : Nat} {h : Hs} {t : Int} {w n : Nat} (hB : B + 90 < 10 ^ 30) (fo : Fit B wo po odd) (q : BoxAt h i) (ht : t.natAbs ≤ B) : ∃ d h', exB (runF G (k + 1)) spTail [.v (.ref i), .v (.int t), .v odd, .u, .u, .u] h = .ok (.rt d) h' ∧ Spo B wo po w n d ∧ d.keep = true ∧ BoxAt h' i := by
  obtain ⟨j, h1, e1, l1, q1⟩ := r_take (k := k) (M := 7) (m := 7) rfl q (by omega) (by omega)
  have es := dStr_int (i := t) (B := B) (by omega) ht
  have go : Spo B wo po w n odd := fo.mono (by omega) (by omega) (by omega)
  obtain ⟨d, e2, p2⟩ := ix_any (h := h1) (P := Spo B wo po w n) (xs := [.int (t + 1), .int (t - 1), .int (0 - t), .str (Str.ofString (toString t)), odd, .int (t + 90), odd]) (j := j) (by simpa using l1) (fun x hx => by
    simp only [List.mem_cons, List.not_mem_nil, or_false] at hx
    rcases hx with rfl | rfl | rfl | rfl | rfl | rfl | rfl
    · exact (fit_int (by omega)).mono (Nat.le_refl _) (by omega) (by omega)
    · exact (fit_int (by omega)).mono (Nat.le_refl _) (by omega) (by omega)
    · exact (fit_int (by omega)).mono (Nat.le_refl _) (by omega) (by omega)
    · exact (fit_str (B := B) (by omega) ht).mono (Nat.le_refl _) (by omega) (by omega)
    · exact go
    · exact (fit_int (by omega)).mono (Nat.le_refl _) (by omega) (by omega)
    · exact go)
  refine ⟨d, h1, ?_, p2, keep_pl p2.pl, q1⟩
  have ko := keep_pl fo.pl
  generalize Str.ofString (toString t) = s at *
  simp only [Int.zero_sub] at e2
  simp [spTail, dIsi, e1, es, ko, e2, keep_pl p2.pl]
theorem sp_non {k : Nat} {h : Hs} {w n : Nat} (fo : Fit B wo po odd) (q : BoxAt h i) : ∃ d h', exB (runF G (k + 1)) spTail [.v (.ref i), .v .non, .v odd, .u, .u, .u] h = .ok (.rt d) h' ∧ Spo B wo po w n d ∧ d.keep = true ∧ BoxAt h' i := by
  obtain ⟨j, h1, e1, l1, q1⟩ := r_take (k := k) (M := 7) (m := 7) rfl q (by omega) (by omega)
  refine ⟨odd, h1, ?_, fo.mono (by omega) (by omega) (by omega), keep_pl fo.pl, q1⟩
  simp [spTail, dIsi, e1, keep_pl fo.pl]
theorem sp_tup {k : Nat} {h : Hs} {xs : List D} {w n : Nat} (fo : Fit B wo po odd) (q : BoxAt h i) (ft : FitL B w n xs) (hw : w ≤ 100000) : ∃ d h', exB (runF G (k + 1)) spTail [.v (.ref i), .v (.tup xs), .v odd, .u, .u, .u] h = .ok (.rt d) h' ∧ Spo B wo po w (n + 1) d ∧ d.keep = true ∧ BoxAt h' i := by
  obtain ⟨j, h1, e1, l1, q1⟩ := r_take (k := k) (M := 7) (m := 7) rfl q (by omega) (by omega)
  have lx := fl_len ft
  obtain ⟨m, h2, e2, l2, q2⟩ := r_take (k := k) (M := (xs.length : Int) + 1) (m := xs.length + 1) (by omega) q1 (by omega) (by omega)
  have go : Spo B wo po w (n + 1) odd := fo.mono (by omega) (by omega) (by omega)
  obtain ⟨wa, wb, fa, fb, lab⟩ := fl_cut (n := m) ft
  obtain ⟨wc, wd, fc, fd, lcd⟩ := fl_cut (n := m + 1) ft
  obtain ⟨we, wf, fe, ff, lef⟩ := fl_cut (n := 1) fb
  have l3 : (xs.take m).length ≤ w := by rw [List.length_take]; omega
  have l4 : (xs.drop m).length ≤ w := by rw [List.length_drop]; omega
  have l5 : (xs.drop (m + 1)).length ≤ w := by rw [List.length_drop]; omega
  have l6 : ((xs.drop m).take 1).length ≤ w := by rw [List.length_take]; omega
  have a1 : dAdd (.tup (xs.take m)) (.tup (xs.drop (m + 1))) = some (.tup (xs.take m ++ xs.drop (m + 1))) := dAdd_tt (by unfold LIM; omega)
  have a2 : dAdd (.tup (xs.take m)) (.tup ((xs.drop m).take 1)) = some (.tup (xs.take m ++ (xs.drop m).take 1)) := dAdd_tt (by unfold LIM; omega)
  have a3 : dAdd (.tup (xs.take m ++ (xs.drop m).take 1)) (.tup (xs.drop m)) = some (.tup ((xs.take m ++ (xs.drop m).take 1) ++ xs.drop m)) := dAdd_tt (by rw [List.length_append]; unfold LIM; omega)
  have a4 : dAdd (.tup xs) (.tup [odd]) = some (.tup (xs ++ [odd])) := dAdd_tt (by rw [List.length_singleton]; unfold LIM; omega)
  have a5 : dAdd (.tup (xs.drop m)) (.tup (xs.take m)) = some (.tup (xs.drop m ++ xs.take m)) := dAdd_tt (by unfold LIM; omega)
  have a6 : ∀ p1 p2 p3 p4 p5 p6 p7 : D, dAdd (.lst [p1, p2, p3, p4]) (.lst [p5, p6, p7]) = some (.lst [p1, p2, p3, p4, p5, p6, p7]) := fun _ _ _ _ _ _ _ => rfl
  have m1 : ∀ {d : D} {v p : Nat}, Fit B v p d → v ≤ 2 * w + wo + 31 → p ≤ n + po + 2 → Spo B wo po w (n + 1) d := fun f g1 g2 => f.mono (by omega) g1 (by omega)
  obtain ⟨d, e3, p3⟩ := ix_any (h := h2) (P := Spo B wo po w (n + 1)) (xs := [.tup (xs.take m ++ xs.drop (m + 1)), .tup ((xs.take m ++ (xs.drop m).take 1) ++ xs.drop m), .tup xs.reverse, .lst xs, .tup (xs ++ [odd]), odd, .tup (xs.drop m ++ xs.take m)]) (j := j) (by simpa using l1) (fun x hx => by
    simp only [List.mem_cons, List.not_mem_nil, or_false] at hx
    rcases hx with rfl | rfl | rfl | rfl | rfl | rfl | rfl
    · exact m1 (fit_tup (fl_app fa fd)) (by omega) (by omega)
    · exact m1 (fit_tup (fl_app (fl_app fa fe) fb)) (by omega) (by omega)
    · exact m1 (fit_tup (fl_rev ft)) (by omega) (by omega)
    · exact m1 (fit_lst ft) (by omega) (by omega)
    · exact m1 (fit_tup (fl_app ft (fl_cons fo fl_nil))) (by omega) (by omega)
    · exact go
    · exact m1 (fit_tup (fl_app fb fa)) (by omega) (by omega))
  refine ⟨d, h2, ?_, p3, keep_pl p3.pl, q2⟩
  have ko := keep_pl fo.pl
  simp only [List.append_assoc] at e3 a3
  simp [spTail, e1, e2, a1, a2, a3, a4, a5, a6, ko, e3, keep_pl p3.pl, -List.cons_append, -List.length_append]
theorem fl_at {B : Nat} {xs : List D} {j w p : Nat} (l : j < xs.length) (f : FitL B w p xs) : ∃ wa wx wb, FitL B wa p (xs.take j) ∧ Fit B wx p (xs[j]'l) ∧ FitL B wb p (xs.drop (j + 1)) ∧ wa + wx + 1 + wb ≤ w := by
  obtain ⟨wa, wr, fa, fr, l1⟩ := fl_cut (n := j) f
  rw [List.drop_eq_getElem_cons l] at fr
  obtain ⟨wx, wb, fx, fb, l2⟩ := fl_inv fr
  exact ⟨wa, wx, wb, fa, fx, fb, by omega⟩
theorem r_l_spoil (hB : B + 90 < 10 ^ 30) (fo : Fit B wo po odd) : ∀ (n : Nat) {k : Nat} {h : Hs} {t : D} {w : Nat}, BoxAt h i → Fit B w n t → t.itp = true → n ≤ 50 → w ≤ 100000 →
    ∃ d h', runF G (k + n + 2) n_l_spoil [.ref i, t, odd] h = .ok d h' ∧ Spo B wo po w n d ∧ BoxAt h' i := by
  have ho := hand_pl fo.pl
  have ko := keep_pl fo.pl
  intro n
  induction n with
  | zero =>
    intro k h t w q ft it ln lw
    cases t with
    | non =>
      obtain ⟨d, h', e, p, kd, q'⟩ := sp_non (k := k) (w := w) (n := 0) fo q
      refine ⟨d, h', ?_, p, q'⟩
      rw [run_eq (fn := f_l_spoil) rfl, f_l_spoil_eq]
      simp [dIsi, ho, e]
    | int x =>
      have hx : x.natAbs ≤ B := by have := ft.n; rw [D.nic, decide_eq_true_eq] at this; exact this
      obtain ⟨d, h', e, p, kd, q'⟩ := sp_int (k := k) (w := w) (n := 0) hB fo q hx
      refine ⟨d, h', ?_, p, q'⟩
      rw [run_eq (fn := f_l_spoil) rfl, f_l_spoil_eq]
      simp [dIsi, ho, e]
    | tup xs =>
      have := ft.d
      rw [D.py, PyData.depth] at this
      omega
    | _ => cases it
  | succ n ih =>
    intro k h t w q ft it ln lw
    cases t with
    | non =>
      obtain ⟨d, h', e, p, kd, q'⟩ := sp_non (k := k + n + 1) (w := w) (n := n + 1) fo q
      refine ⟨d, h', ?_, p, q'⟩
      rw [show k + (n + 1) + 2 = k + n + 1 + 1 + 1 by omega, run_eq (fn := f_l_spoil) rfl, f_l_spoil_eq]
      simp [dIsi, ho, e]
    | int x =>
      have hx : x.natAbs ≤ B := by have := ft.n; rw [D.nic, decide_eq_true_eq] at this; exact this
      obtain ⟨d, h', e, p, kd, q'⟩ := sp_int (k := k + n + 1) (w := w) (n := n + 1) hB fo q hx
      refine ⟨d, h', ?_, p, q'⟩
      rw [show k + (n + 1) + 2 = k + n + 1 + 1 + 1 by omega, run_eq (fn := f_l_spoil) rfl, f_l_spoil_eq]
      simp [dIsi, ho, e]
    | tup xs =>
      have fl := tup_fl ft
      have ll := fl_len fl
      have es := dEq_tup0 (itp_sound it ft (by omega))
      rw [D.itp, itps_all] at it
      cases xs with
      | nil =>
        obtain ⟨d, h', e, p, kd, q'⟩ := sp_tup (k := k + n + 1) (w := w) (n := n) (xs := []) fo q fl lw
        refine ⟨d, h', ?_, p, q'⟩
        rw [show k + (n + 1) + 2 = k + n + 1 + 1 + 1 by omega, run_eq (fn := f_l_spoil) rfl, f_l_spoil_eq]
        simp [ho, e, es]
      | cons x xs =>
        obtain ⟨d1, h1, e1, l1, q1⟩ := r_take (k := k + n + 1) (M := 5) (m := 5) rfl q (by omega) (by omega)
        by_cases z : 0 < d1
        · generalize hz : x :: xs = ys at *
          have ly : 0 < ys.length := by rw [← hz]; simp
          obtain ⟨j, h2, e2, l2, q2⟩ := r_take (k := k + n + 1) (M := ys.length) (m := ys.length) rfl q1 ly (by omega)
          obtain ⟨wa, wx, wb, fa, fx, fb, l3⟩ := fl_at l2 fl
          obtain ⟨d, h3, e3, p3, q3⟩ := ih (k := k) (h := h2) q2 fx (List.all_eq_true.mp it _ (List.getElem_mem l2)) (by omega) (by omega)
          have kd := keep_pl p3.pl
          have lt : (ys.take j).length ≤ w := by rw [List.length_take]; omega
          have ld : (ys.drop (j + 1)).length ≤ w := by rw [List.length_drop]; omega
          have a1 : dAdd (.tup (ys.take j)) (.tup [d]) = some (.tup (ys.take j ++ [d])) := dAdd_tt (by rw [List.length_singleton]; unfold LIM; omega)
          have a2 : dAdd (.tup (ys.take j ++ [d])) (.tup (ys.drop (j + 1))) = some (.tup ((ys.take j ++ [d]) ++ ys.drop (j + 1))) := dAdd_tt (by rw [List.length_append, List.length_singleton]; unfold LIM; omega)
          have ei : dIx (.tup ys) (.int j) = some (ys[j]'l2) := ixT j rfl l2
          have em : ys.isEmpty = false := by rw [← hz]; rfl
          rw [em] at es
          refine ⟨.tup ((ys.take j ++ [d]) ++ ys.drop (j + 1)), h3, ?_, ?_, q3⟩
          · rw [show k + (n + 1) + 2 = k + n + 2 + 1 by omega, run_eq (fn := f_l_spoil) rfl, f_l_spoil_eq]
            have z2 : (0 : Int) < (d1 : Int) := by omega
            generalize ys[j]'l2 = y at *
            simp [ho, es, e1, z, e2, ei, e3, kd, a1, a2, -List.append_assoc]
          · have f3 : Fit (B + 90) (2 * wx + wo + 31) (n + po + 1) d := p3
            exact (fit_tup (fl_app (fl_app (fa.mono (by omega) (Nat.le_refl _) (Nat.le_refl _)) (fl_cons f3 fl_nil)) (fb.mono (by omega) (Nat.le_refl _) (Nat.le_refl _)))).mono (Nat.le_refl _) (by omega) (by omega)
        · have z0 : d1 = 0 := by omega
          subst z0
          obtain ⟨d, h', e, p, kd, q'⟩ := sp_tup (k := k + n + 1) (w := w) (n := n) (xs := x :: xs) fo q1 fl lw
          refine ⟨d, h', ?_, p, q'⟩
          rw [show k + (n + 1) + 2 = k + n + 1 + 1 + 1 by omega, run_eq (fn := f_l_spoil) rfl, f_l_spoil_eq]
          simp [ho, e, es, e1]
    | _ => cases it
end
end Tv
end

section
set_option autoImplicit false
set_option maxHeartbeats 1000000
/-! What the laws take for grounds, standings, catches. -/
namespace Tv
open PySem
theorem r_l_is_from_to {k : Nat} {h : Hs} {d : D} {a b : Int} (p : d.pl = true) : runF G (k + 1) n_l_is_from_to [d, .int a, .int b] h = .ok (.bl (isFT a b d)) h := by
  rw [run_eq (fn := f_l_is_from_to) rfl]
  cases d with
  | int i =>
    by_cases q : a ≤ i <;> simp [f_l_is_from_to, dIsi, isFT, q]
  | _ => first | (cases p; done) | simp [f_l_is_from_to, dIsi, isFT]
/-- of one bed: the loop's turn -/
theorem s_l_is_grounds {k : Nat} {h : Hs} {v0 y : Sl} {d : D} (p : d.pl = true) : inT (runF G (k + 1)) (.n 1) b_l_is_grounds_0 d [v0, y, .u] h = .ok (if isBed d then .nx [v0, .v d, .u] else .rt (.bl false)) h := by
  cases d with
  | tup xs =>
    rw [D.pl] at p
    match xs, p with
    | [], _ => simp [b_l_is_grounds_0, isBed]
    | [_], _ => simp [b_l_is_grounds_0, isBed]
    | x :: y :: z :: r, _ => simp [b_l_is_grounds_0, isBed, ne_2]
    | [r, y], p =>
      simp [D.pls] at p
      obtain ⟨p1, p2⟩ := p
      cases h1 : isFT 0 3 r with
      | false => cases y <;> simp [b_l_is_grounds_0, r_l_is_from_to p1, h1, isBed]
      | true =>
        cases y with
        | tup ys =>
          rw [D.pl] at p2
          by_cases h2 : 1 ≤ ys.length
          · by_cases h3 : ys.length ≤ 3
            · have q : ∀ a ∈ ys, oneC (runF G (k + 1)) (.n 2) (.c (.bl true)) x_l_is_grounds_0 a [v0, .v (.tup [r, .tup ys]), .u] h = .ok (some (.bl (isFT 0 99 a))) h := fun a ha => by
                have pa := pls_at p2 a ha
                simp [x_l_is_grounds_0, r_l_is_from_to pa, keep_pl pa]
              cases h4 : ys.all (isFT 0 99) <;> simp [b_l_is_grounds_0, r_l_is_from_to p1, h1, dIsi, compB_each q, show ys.length ≤ LIM by unfold LIM; omega, show (1 : Int) ≤ ys.length by omega, show (ys.length : Int) ≤ 3 by omega, h2, h3, h4]
            · simp [b_l_is_grounds_0, r_l_is_from_to p1, h1, dIsi, show (1 : Int) ≤ ys.length by omega, show ¬ (ys.length : Int) ≤ 3 by omega, h2, h3]
          · simp [b_l_is_grounds_0, r_l_is_from_to p1, h1, dIsi, show ¬ (1 : Int) ≤ ys.length by omega, h2]
        | _ => first | (cases p2; done) | simp [b_l_is_grounds_0, r_l_is_from_to p1, h1, dIsi, isBed]
  | _ => first | (cases p; done) | simp [b_l_is_grounds_0, isBed, dIsi]
theorem l_l_is_grounds {k : Nat} {h : Hs} {v0 : Sl} : ∀ {xs : List D} {y : Sl}, D.pls xs = true → ∃ y', forB (runF G (k + 1)) (.n 1) b_l_is_grounds_0 xs [v0, y, .u] h = .ok (if xs.all isBed then .nx [v0, y', .u] else .rt (.bl false)) h
  | [], y, _ => ⟨y, by simp⟩
  | x :: xs, y, p => by
    rw [D.pls, Bool.and_eq_true] at p
    obtain ⟨y', e⟩ := l_l_is_grounds (k := k) (h := h) (v0 := v0) (xs := xs) (y := .v x) p.2
    refine ⟨y', ?_⟩
    rw [forB_cons, s_l_is_grounds p.1]
    cases z : isBed x with
    | true => rw [if_pos rfl, kFor_nx, e, List.all_cons, z]; rfl
    | false => rw [if_neg (by simp), kFor_rt, List.all_cons, z]; rfl
theorem r_l_is_grounds {k : Nat} {h : Hs} {d : D} (p : d.pl = true) : runF G (k + 3) n_l_is_grounds [d] h = .ok (.bl (isGr d)) h := by
  rw [run_eq (fn := f_l_is_grounds) rfl]
  cases d with
  | tup xs =>
    rw [D.pl] at p
    match xs, p with
    | [], _ => simp [f_l_is_grounds, isGr]
    | [_], _ => simp [f_l_is_grounds, isGr]
    | x :: y :: z :: r, _ => simp [f_l_is_grounds, isGr, ne_2]
    | [b, n], p =>
      simp [D.pls] at p
      obtain ⟨p1, p2⟩ := p
      cases h0 : isFT 1 2 n with
      | false => cases b <;> simp [f_l_is_grounds, r_l_is_from_to p2, h0, isGr]
      | true =>
        cases b with
        | tup bs =>
          rw [D.pl] at p1
          by_cases h2 : 1 ≤ bs.length
          · by_cases h3 : bs.length ≤ 4
            · obtain ⟨y', e⟩ := l_l_is_grounds (k := k + 1) (h := h) (v0 := .v (.tup [.tup bs, n])) (xs := bs) (y := .u) p1
              cases h4 : bs.all isBed with
              | false =>
                rw [h4, if_neg (by simp)] at e
                simp [f_l_is_grounds, r_l_is_from_to p2, h0, e, h2, h3, h4, isGr, show (1 : Int) ≤ bs.length by omega, show (bs.length : Int) ≤ 4 by omega]
              | true =>
                rw [h4, if_pos rfl] at e
                obtain ⟨e1, e2⟩ := beds_list h4
                have e3 : D.tup bs = bedsD (bs.map toBed) := congrArg D.tup e1
                have e4 : runF G (k + 2) n_l_many [.tup bs] h = .ok (.int (manyB (bs.map toBed))) h := by rw [e3]; exact r_l_many e2
                by_cases h5 : manyB (bs.map toBed) ≤ 120
                · simp [f_l_is_grounds, r_l_is_from_to p2, h0, e, h2, h3, h4, isGr, e4, h5, show (manyB (bs.map toBed) : Int) ≤ 120 by omega, show (1 : Int) ≤ bs.length by omega, show (bs.length : Int) ≤ 4 by omega]
                · simp [f_l_is_grounds, r_l_is_from_to p2, h0, e, h2, h3, h4, isGr, e4, h5, show ¬ (manyB (bs.map toBed) : Int) ≤ 120 by omega, show (1 : Int) ≤ bs.length by omega, show (bs.length : Int) ≤ 4 by omega]
            · simp [f_l_is_grounds, r_l_is_from_to p2, h0, isGr, h3, show (1 : Int) ≤ bs.length by omega, show ¬ (bs.length : Int) ≤ 4 by omega]
          · simp [f_l_is_grounds, r_l_is_from_to p2, h0, isGr, h2, show ¬ (1 : Int) ≤ bs.length by omega]
        | _ => first | (cases p1; done) | simp [f_l_is_grounds, r_l_is_from_to p2, h0, isGr, dIsi]
  | _ => first | (cases p; done) | simp [f_l_is_grounds, isGr, dIsi]
theorem r_l_rising {k : Nat} {h : Hs} {xs : List Nat} (l : xs.length ≤ 1000000) : runF G (k + 1) n_l_rising [tN xs] h = .ok (.bl (risN xs)) h := by
  rw [run_eq (fn := f_l_rising) rfl]
  have q : ∀ a ∈ xs.zip (xs.drop 1), oneC (runF G k) (.t [1, 2]) c_l_rising_0 (.c (.int 1)) ((fun p : Nat × Nat => D.tup [.int p.1, .int p.2]) a) [.v (tN xs), .u, .u] h = .ok (if (fun p : Nat × Nat => !decide (p.1 < p.2)) a then some ((fun p : Nat × Nat => D.int (1 : Nat)) a) else none) h := fun a _ => by
    by_cases z : a.1 < a.2 <;> simp [c_l_rising_0, z]
  have e : D.tup ((xs.map fun n : Nat => D.int n).drop 1) = tN (xs.drop 1) := by unfold tN; rw [List.map_drop]
  have e2 : itZip (tN xs) (D.tup ((xs.map fun n : Nat => D.int n).drop 1)) = some ((xs.zip (xs.drop 1)).map fun p : Nat × Nat => D.tup [.int p.1, .int p.2]) := by
    rw [e]; exact congrArg some zipD_map
  have e3 : dSl (tN xs) (some 1) none = some (.tup ((xs.map fun n : Nat => D.int n).drop 1)) := dSl_1
  have l2 : (xs.zip (xs.drop 1)).length ≤ LIM := by rw [List.length_zip]; unfold LIM; omega
  have e4 := compB_map q
  have e5 : (((xs.zip (xs.drop 1)).filter fun p : Nat × Nat => !decide (p.1 < p.2)).map fun p : Nat × Nat => D.int (1 : Nat)) = (((xs.zip (xs.drop 1)).filter fun p : Nat × Nat => !decide (p.1 < p.2)).map fun _ => (1 : Nat)).map fun n : Nat => D.int n := by rw [List.map_map]; rfl
  rw [e5] at e4
  have e6 : ((((xs.zip (xs.drop 1)).filter fun p : Nat × Nat => !decide (p.1 < p.2)).map fun _ => (1 : Nat))).isEmpty = risN xs := by
    rw [List.isEmpty_map, filter_any (p := fun p : Nat × Nat => decide (p.1 < p.2)), risN_all]
  generalize (((xs.zip (xs.drop 1)).filter fun p : Nat × Nat => !decide (p.1 < p.2)).map fun _ => (1 : Nat)) = zs at *
  simp only [List.drop_one] at e2 e3 l2 e4
  simp [f_l_rising, e2, e3, e4, -List.length_zip, l2, dEq_lN0, e6]
theorem r_l_is_standing {k : Nat} {h : Hs} {g : Gr} (w : g.wf) {d : D} (p : d.pl = true) : runF G (k + 2) n_l_is_standing [g.enc, d] h = .ok (.bl (isSt g d)) h := by
  rw [run_eq (fn := f_l_is_standing) rfl]
  cases d with
  | tup xs =>
    rw [D.pl] at p
    have hb := w.l4
    by_cases e : xs.length = g.beds.length
    · have q : ∀ a ∈ xs.zip g.beds, oneC (runF G (k + 1)) (.t [2, 3]) (.c (.bl true)) x_l_is_standing_0 ((fun p : D × Bed => D.tup [p.1, p.2.enc]) a) [.v g.enc, .v (.tup xs), .u, .u] h = .ok (some ((fun p : D × Bed => D.bl (isFT 0 p.2.most p.1)) a)) h := fun a ha => by
        obtain ⟨a1, a2⟩ := zip_mem ha
        simp [x_l_is_standing_0, hand_pl (pls_at p _ a1), r_l_most (w.b _ a2).l1, r_l_is_from_to (pls_at p _ a1)]
      have l2 : (xs.zip g.beds).length ≤ LIM := by rw [List.length_zip]; unfold LIM; omega
      simp [f_l_is_standing, e, itZip_bd, compB_all q, l2, -List.length_zip, dBi_all, isSt]
    · have e2 : ((xs.length : Int) == (g.beds.length : Int)) = false := by rw [beq_eq_false_iff_ne]; omega
      simp [f_l_is_standing, e2, isSt, e]
  | _ => first | (cases p; done) | simp [f_l_is_standing, isSt, dIsi]
theorem r_l_is_catch {k : Nat} {h : Hs} {g : Gr} (w : g.wf) {d : D} (p : d.pl = true) : runF G (k + 2) n_l_is_catch [g.enc, d] h = .ok (.bl (isCa g d)) h := by
  rw [run_eq (fn := f_l_is_catch) rfl]
  cases d with
  | tup xs =>
    rw [D.pl] at p
    have hb := w.b2
    by_cases e : xs.length ≤ g.boats
    · have q : ∀ a ∈ xs, oneC (runF G (k + 1)) (.n 2) (.c (.bl true)) x_l_is_catch_0 a [.v g.enc, .v (.tup xs), .u] h = .ok (some (.bl (isFT 0 ((g.beds.length : Int) - 1) a))) h := fun a ha => by
        have pa := pls_at p a ha
        simp [x_l_is_catch_0, keep_pl pa, r_l_is_from_to pa]
      cases q2 : xs.all (isFT 0 ((g.beds.length : Int) - 1)) with
      | false => simp [f_l_is_catch, compB_each q, show ¬ (g.boats : Int) < xs.length by omega, show xs.length ≤ LIM by unfold LIM; omega, q2, isCa]
      | true =>
        obtain ⟨i1, i2⟩ := ft_list (by omega) q2
        have e3 : D.tup xs = tN (xs.map toN) := by
          show D.tup xs = D.tup _
          rw [List.map_map]
          exact congrArg D.tup i1
        have e4 := r_l_rising (k := k) (h := h) (xs := xs.map toN) (by rw [List.length_map]; omega)
        rw [← e3] at e4
        simp [f_l_is_catch, compB_each q, show ¬ (g.boats : Int) < xs.length by omega, show xs.length ≤ LIM by unfold LIM; omega, q2, isCa, e4, e]
    · simp [f_l_is_catch, show (g.boats : Int) < xs.length by omega, isCa, e]
  | _ => first | (cases p; done) | simp [f_l_is_catch, isCa, dIsi]
end Tv
end

section
set_option autoImplicit false
set_option maxHeartbeats 1000000
/-! What is said of a catch, what is due. -/
namespace Tv
open PySem
def kSaid (r : R D) : R D := match r with
  | .ok d h => if d.shows then .ok (.str (PyData.shown d.py)) h else .bad
  | .exc x h => if wordFits x then .ok (.str (wordOf x)) h else .bad
  | .bad => .bad
@[simp] theorem kSaid_ok {d : D} {h : Hs} : kSaid (.ok d h) = if d.shows then .ok (.str (PyData.shown d.py)) h else .bad := id rfl
@[simp] theorem e_said {cl : Nat → List D → Hs → R D} {a : E} {e : Ev} {h : Hs} : evE cl (.said a) e h = kSaid (evE cl a e h) := id rfl
def sG : Str := ⟨#[33, 32, 103, 114, 111, 117, 110, 100, 115]⟩
def sS : Str := ⟨#[33, 32, 115, 116, 97, 110, 100, 105, 110, 103]⟩
def sC : Str := ⟨#[33, 32, 99, 97, 116, 99, 104]⟩
def sT : Str := ⟨#[84, 114, 117, 101]⟩
def sF : Str := ⟨#[70, 97, 108, 115, 101]⟩
theorem word1 {p : D} : wordOf (.exc 1 p) = sG := by
  have e : ("! " ++ "grounds" : Str) = sG := by decide +kernel
  exact e
theorem word2 {p : D} : wordOf (.exc 2 p) = sS := by
  have e : ("! " ++ "standing" : Str) = sS := by decide +kernel
  exact e
theorem word3 {p : D} : wordOf (.exc 3 p) = sC := by
  have e : ("! " ++ "catch" : Str) = sC := by decide +kernel
  exact e
theorem said1 {p : D} {h : Hs} : kSaid (.exc (.exc 1 p) h) = .ok (.str sG) h := by
  show (if wordFits (.exc 1 p) then R.ok (D.str (wordOf (.exc 1 p))) h else .bad) = _
  rw [word1]; rfl
theorem said2 {p : D} {h : Hs} : kSaid (.exc (.exc 2 p) h) = .ok (.str sS) h := by
  show (if wordFits (.exc 2 p) then R.ok (D.str (wordOf (.exc 2 p))) h else .bad) = _
  rw [word2]; rfl
theorem said3 {p : D} {h : Hs} : kSaid (.exc (.exc 3 p) h) = .ok (.str sC) h := by
  show (if wordFits (.exc 3 p) then R.ok (D.str (wordOf (.exc 3 p))) h else .bad) = _
  rw [word3]; rfl
theorem said_bl {b : Bool} {h : Hs} : kSaid (.ok (.bl b) h) = .ok (.str (if b then sT else sF)) h := by
  rw [kSaid_ok]
  have e1 : ("True" : Str) = sT := by decide +kernel
  have e2 : ("False" : Str) = sF := by decide +kernel
  have s : (D.bl b).shows = true := (fit_bl (B := 0)).shows (by decide) (by omega) (by omega)
  rw [if_pos s]
  cases b
  · exact congrArg (fun z : Str => R.ok (D.str z) h) e2
  · exact congrArg (fun z : Str => R.ok (D.str z) h) e1
theorem mul3 {s : D} : dMul (.lst [s]) (.int 3) = some (.lst [s, s, s]) := rfl
theorem dBi_rep {d : D} : dBi .rep [d] = dRep d := rfl
theorem rep_of {d : D} (s : d.shows = true) : dBi .rep [d] = some (.str (PyData.shown d.py)) := by
  show (if d.shows then _ else _) = _
  rw [if_pos s]
section
variable {k : Nat} {h : Hs} {a b c : D}
theorem sd_exc {x : D} (pa : a.pl = true) (pb : b.pl = true) (e : runF G (k + 5) n_need_grounds [a] h = .exc x h) : runF G (k + 6) n_need_standing [a, b] h = .exc x h := by
  rw [run_eq (fn := f_need_standing) rfl]
  simp [f_need_standing, hand_pl pa, hand_pl pb, e]
/-- what is said, what is due -/
structure Said3 (k : Nat) (h : Hs) (a b c : D) (m1 m2 m3 : Str) : Prop where
  mb : kSaid (runF G (k + 9) n_may_be [a, b, c] h) = .ok (.str m1) h
  sb : kSaid (runF G (k + 9) n_sold_by [a, b, c] h) = .ok (.str m2) h
  bh : kSaid (runF G (k + 9) n_behind [a, b, c] h) = .ok (.str m3) h
  du : runF G (k + 9) n_l_due [a, b, c] h = .ok (.lst [.str m1, .str m2, .str m3]) h
end
theorem y_le {g : Gr} (w : g.wf) {i j : Nat} (h : i < g.beds.length) : gN (bedAt g.beds i).ys j ≤ 99 := by
  unfold gN
  by_cases l : j < (bedAt g.beds i).ys.length
  · have := (w.b _ (bedAt_mem h)).y ((bedAt g.beds i).ys[j]'l) (List.getElem_mem l)
    simp [l]; omega
  · simp [l]
theorem sum_le {f : Nat → Nat} {m : Nat} : ∀ {c : List Nat}, (∀ x ∈ c, f x ≤ m) → (c.map f).sum ≤ m * c.length
  | [], _ => Nat.zero_le _
  | x :: c, h => by
    have h1 := h x List.mem_cons_self
    have h2 := sum_le (f := f) (m := m) (c := c) fun y hy => h y (List.mem_cons_of_mem _ hy)
    rw [List.map_cons, List.sum_cons, List.length_cons, Nat.mul_succ]
    omega
theorem sold_le {g : Gr} (w : g.wf) {s c : List Nat} (wc : CaW g c) : soldB g s c ≤ 198 := by
  have h1 := sum_le (f := soldAt g.beds s) (m := 99) (c := c) fun x hx => y_le w (wc.lt x hx)
  have := wc.len; have := w.b2
  unfold soldB
  omega
theorem st_all {g : Gr} (w : g.wf) {s : List Nat} (ws : StW g s) : ∀ x ∈ s, x ≤ 5 := by
  intro x hx
  obtain ⟨i, hi, rfl⟩ := List.getElem_of_mem hx
  have l : i < g.beds.length := by rw [← ws.len]; exact hi
  have h1 := ws.le i l
  have h2 := (w.b _ (bedAt_mem l)).most_le
  rw [gN_get hi] at h1
  omega
theorem fit_st {g : Gr} (w : g.wf) {s : List Nat} (ws : StW g s) {B : Nat} (hB : 5 ≤ B) : Fit B 4 1 (tN s) := by
  have l := ws.len; have l4 := w.l4
  exact (fit_tN fun x hx => by have := st_all w ws x hx; omega).mono (Nat.le_refl _) (by omega) (by omega)
theorem fit_ca {g : Gr} (w : g.wf) {c : List Nat} (wc : CaW g c) {B : Nat} (hB : 4 ≤ B) : Fit B 2 1 (tN c) := by
  have l := wc.len; have l4 := w.l4; have b2 := w.b2
  exact (fit_tN fun x hx => by have := wc.lt x hx; omega).mono (Nat.le_refl _) (by omega) (by omega)
end Tv
end

section
set_option autoImplicit false
set_option maxHeartbeats 1000000
/-! All standings. -/
namespace Tv
open PySem
def rowA (b : Bed) (row : List Nat) : List (List Nat) := (List.range (b.most + 1)).map fun y => row ++ [y]
def stepA (L : List (List Nat)) (b : Bed) : List (List Nat) := L.flatMap (rowA b)
def allG (g : Gr) : List (List Nat) := g.beds.foldl stepA [[]]
theorem rowA_len {b : Bed} {row : List Nat} : (rowA b row).length = b.most + 1 := by unfold rowA; simp
theorem stepA_len {b : Bed} : ∀ {L : List (List Nat)}, (stepA L b).length = L.length * (b.most + 1)
  | [] => by simp [stepA]
  | r :: L => by
    have ih := stepA_len (b := b) (L := L)
    unfold stepA at ih ⊢
    rw [List.flatMap_cons, List.length_append, rowA_len, ih, List.length_cons, Nat.succ_mul, Nat.add_comm]
theorem foldA_len : ∀ {bs : List Bed} {L : List (List Nat)}, (bs.foldl stepA L).length = bs.foldl (fun a b => a * (b.most + 1)) L.length
  | [], _ => rfl
  | b :: bs, L => by rw [List.foldl_cons, foldA_len, stepA_len, List.foldl_cons]
theorem allG_len {g : Gr} : (allG g).length = manyB g.beds := foldA_len
theorem x_row {cl : Nat → List D → Hs → R D} {x : E} (hx : x = (.bin .add (.v 4) (.tup (.cons (.v 5) .nil)))) {v0 v1 v2 v3 : Sl} {row : List Nat} {h : Hs} {b : Bed} (wb : b.most ≤ 1000) (lr : row.length ≤ 1000) :
    compB cl (.n 5) (.c (.bl true)) x ((List.range (b.most + 1)).map fun i : Nat => D.int i) [v0, v1, v2, v3, .v (tN row), .u] h = .ok ((rowA b row).map tN) h := by
  subst hx
  have q : ∀ y ∈ List.range (b.most + 1), oneC cl (.n 5) (.c (.bl true)) (.bin .add (.v 4) (.tup (.cons (.v 5) .nil))) ((fun i : Nat => D.int i) y) [v0, v1, v2, v3, .v (tN row), .u] h = .ok (some ((fun y : Nat => tN (row ++ [y])) y)) h := fun y _ => by
    have a1 : dAdd (tN row) (.tup [.int y]) = some (tN (row ++ [y])) := by
      unfold tN
      rw [dAdd_tt (by rw [List.length_map, List.length_singleton]; unfold LIM; omega), List.map_append]
      rfl
    simp [a1]
  rw [compB_all q]
  unfold rowA
  rw [List.map_map]
  rfl
section
variable {k : Nat} {h : Hs} {b : Bed}
theorem rng_most {b : Bed} (wb : b.most ≤ 1000) : itRng (.int 0) (.int ((b.most : Int) + 1)) = some ((List.range (b.most + 1)).map fun i : Nat => D.int i) := by
  rw [show ((b.most : Int) + 1) = ((b.most + 1 : Nat) : Int) by omega]; exact itRng_nat (by omega)
theorem stepA_row {L : List (List Nat)} {n : Nat} (hL : ∀ r ∈ L, r.length ≤ n ∧ ∀ x ∈ r, x ≤ 5) (wb : b.wf) : ∀ r ∈ stepA L b, r.length ≤ n + 1 ∧ ∀ x ∈ r, x ≤ 5 := by
  intro r hr
  unfold stepA rowA at hr
  obtain ⟨q, hq, hr⟩ := List.mem_flatMap.mp hr
  obtain ⟨y, hy, rfl⟩ := List.mem_map.mp hr
  have hy := List.mem_range.mp hy
  have ml := wb.most_le
  obtain ⟨h1, h2⟩ := hL q hq
  refine ⟨by rw [List.length_append, List.length_singleton]; omega, fun x hx => ?_⟩
  rcases List.mem_append.mp hx with hx | hx
  · exact h2 x hx
  · rw [List.mem_singleton.mp hx]; omega
theorem stepA_le {L : List (List Nat)} (wb : b.wf) : (stepA L b).length ≤ L.length * 6 := by
  have := wb.most_le
  rw [stepA_len]
  exact Nat.mul_le_mul_left _ (by omega)
theorem foldA_row {bs : List Bed} : ∀ {L : List (List Nat)} {n : Nat}, (∀ b ∈ bs, b.wf) → (∀ r ∈ L, r.length ≤ n ∧ ∀ x ∈ r, x ≤ 5) → ∀ r ∈ bs.foldl stepA L, r.length ≤ n + bs.length ∧ ∀ x ∈ r, x ≤ 5 := by
  induction bs with
  | nil => exact fun {L n} _ hL r hr => hL r hr
  | cons b bs ih =>
    intro L n w hL r hr
    have := ih (L := stepA L b) (n := n + 1) (fun z hz => w z (List.mem_cons_of_mem _ hz)) (stepA_row hL (w b List.mem_cons_self)) r hr
    rw [List.length_cons]
    exact ⟨by omega, this.2⟩
theorem allG_row {g : Gr} (w : g.wf) : ∀ r ∈ allG g, r.length ≤ 4 ∧ ∀ x ∈ r, x ≤ 5 := fun r hr => by
  have l4 := w.l4
  have := foldA_row (n := 0) w.b (by simp) r hr
  exact ⟨by omega, this.2⟩
theorem fl_rows {B : Nat} (hB : 5 ≤ B) : ∀ {L : List (List Nat)}, (∀ r ∈ L, r.length ≤ 4 ∧ ∀ x ∈ r, x ≤ 5) → FitL B (5 * L.length) 1 (L.map tN)
  | [], _ => fl_nil.mono (Nat.le_refl _) (Nat.zero_le _) (Nat.zero_le _)
  | r :: L, hL => by
    obtain ⟨h1, h2⟩ := hL r List.mem_cons_self
    have f : Fit B 4 1 (tN r) := (fit_tN fun x hx => by have := h2 x hx; omega).mono (Nat.le_refl _) h1 (Nat.le_refl _)
    exact (fl_cons f (fl_rows hB fun z hz => hL z (List.mem_cons_of_mem _ hz))).mono (Nat.le_refl _) (by rw [List.length_cons]; omega) (by omega)
theorem fit_all {g : Gr} (w : g.wf) : Fit 5 600 2 (.lst ((allG g).map tN)) := by
  have := w.m
  rw [← allG_len] at this
  exact (fit_lst (fl_rows (B := 5) (Nat.le_refl _) (allG_row w))).mono (Nat.le_refl _) (by omega) (Nat.le_refl _)
end
end Tv
end

section
set_option autoImplicit false
set_option maxHeartbeats 1000000
/-! Numbers of standings; moves. -/
namespace Tv
open PySem
/-! ### numbers -/
def numF (f : Nat) (ps : List (Bed × Nat)) : Nat := ps.foldl (fun f p => f * (p.1.most + 1) + p.2) f
def numB (bs : List Bed) (s : List Nat) : Nat := numF 0 (bs.zip s)
def numG (g : Gr) (s : List Nat) : Nat := numB g.beds s
theorem fold_mono {bs : List Bed} : ∀ {a b : Nat}, a ≤ b → bs.foldl (fun a b => a * (b.most + 1)) a ≤ bs.foldl (fun a b => a * (b.most + 1)) b := by
  induction bs with
  | nil => exact fun h => h
  | cons c bs ih => exact fun h => ih (Nat.mul_le_mul_right _ h)
theorem numF_lt {bs : List Bed} : ∀ {s : List Nat} {f : Nat}, s.length = bs.length → (∀ i, i < bs.length → gN s i ≤ (bedAt bs i).most) → numF f (bs.zip s) < bs.foldl (fun a b => a * (b.most + 1)) (f + 1) := by
  induction bs with
  | nil => exact fun {s f} l _ => by cases s <;> first | exact Nat.lt_succ_self f | cases l
  | cons b bs ih =>
    intro s f l h
    cases s with
    | nil => cases l
    | cons x s =>
      have h0 := h 0 (by simp)
      have hx : x ≤ b.most := h0
      have := ih (s := s) (f := f * (b.most + 1) + x) (by simpa using l) fun i hi => h (i + 1) (by simpa using hi)
      refine Nat.lt_of_lt_of_le this (fold_mono ?_)
      show f * (b.most + 1) + x + 1 ≤ (f + 1) * (b.most + 1)
      rw [Nat.add_mul]; omega
theorem numG_lt {g : Gr} {s : List Nat} (w : StW g s) : numG g s < manyB g.beds := numF_lt w.len w.le
theorem numB_snoc {bs : List Bed} {b : Bed} {r : List Nat} {y : Nat} (l : r.length = bs.length) : numB (bs ++ [b]) (r ++ [y]) = numB bs r * (b.most + 1) + y := by
  unfold numB numF
  rw [List.zip_append l.symm, List.foldl_append]
  rfl
theorem range_flat (n k : Nat) : (List.range n).flatMap (fun v => (List.range k).map fun y => v * k + y) = List.range (n * k) := by
  induction n with
  | zero => simp
  | succ n ih => rw [List.range_succ, List.flatMap_append, ih, Nat.succ_mul, List.range_add]; simp
theorem stepA_num {bs : List Bed} {b : Bed} {L : List (List Nat)} (hl : ∀ r ∈ L, r.length = bs.length) (h : L.map (numB bs) = List.range L.length) : (stepA L b).map (numB (bs ++ [b])) = List.range (stepA L b).length := by
  have e : (stepA L b).map (numB (bs ++ [b])) = (L.map (numB bs)).flatMap fun v => (List.range (b.most + 1)).map fun y => v * (b.most + 1) + y := by
    clear h
    induction L with
    | nil => rfl
    | cons r L ih =>
      have := ih fun z hz => hl z (List.mem_cons_of_mem _ hz)
      unfold stepA at this ⊢
      rw [List.flatMap_cons, List.map_append, this, List.map_cons, List.flatMap_cons]
      congr 1
      unfold rowA
      rw [List.map_map]
      refine List.map_congr_left fun y _ => ?_
      exact numB_snoc (hl r List.mem_cons_self)
  rw [e, h, range_flat, stepA_len]
theorem foldA_num {bs : List Bed} : ∀ {bs0 : List Bed} {L : List (List Nat)}, (∀ r ∈ L, r.length = bs0.length) → L.map (numB bs0) = List.range L.length → (bs.foldl stepA L).map (numB (bs0 ++ bs)) = List.range (bs.foldl stepA L).length := by
  induction bs with
  | nil => exact fun {bs0 L} _ h => by rw [List.append_nil]; exact h
  | cons b bs ih =>
    intro bs0 L hl h
    have := ih (bs0 := bs0 ++ [b]) (L := stepA L b) (fun r hr => by
      unfold stepA rowA at hr
      obtain ⟨q, hq, hr⟩ := List.mem_flatMap.mp hr
      obtain ⟨y, _, rfl⟩ := List.mem_map.mp hr
      rw [List.length_append, List.length_append, hl q hq]; rfl) (stepA_num hl h)
    rw [List.append_assoc] at this
    exact this
theorem allG_num {g : Gr} : (allG g).map (numG g) = List.range (allG g).length := foldA_num (bs := g.beds) (bs0 := []) (L := [[]]) (by simp) rfl
theorem allG_at {g : Gr} {i : Nat} (h : i < (allG g).length) : numG g ((allG g)[i]'h) = i := by
  have e := allG_num (g := g)
  have h2 : i < ((allG g).map (numG g)).length := by rw [List.length_map]; exact h
  have : ((allG g).map (numG g))[i]'h2 = (List.range (allG g).length)[i]'(by rw [List.length_range]; exact h) := by simp only [e]
  simpa using this
theorem foldA_mem {bs : List Bed} : ∀ {L : List (List Nat)} {r t : List Nat}, r ∈ L → t.length = bs.length → (∀ i, i < bs.length → gN t i ≤ (bedAt bs i).most) → r ++ t ∈ bs.foldl stepA L := by
  induction bs with
  | nil => exact fun {L r t} hr l _ => by cases t <;> first | (rw [List.append_nil]; exact hr) | cases l
  | cons b bs ih =>
    intro L r t hr l h
    cases t with
    | nil => cases l
    | cons y t =>
      have hy : y ≤ b.most := h 0 (by simp)
      have := ih (L := stepA L b) (r := r ++ [y]) (t := t) (List.mem_flatMap.mpr ⟨r, hr, List.mem_map.mpr ⟨y, List.mem_range.mpr (by omega), rfl⟩⟩) (by simpa using l) fun i hi => h (i + 1) (by simpa using hi)
      rw [List.append_assoc] at this
      exact this
theorem allG_mem {g : Gr} {s : List Nat} (w : StW g s) : s ∈ allG g := foldA_mem (L := [[]]) (r := []) List.mem_cons_self w.len w.le
theorem allG_st {g : Gr} {s : List Nat} (h : s ∈ allG g) : StW g s := by
  have key : ∀ {bs : List Bed} {L : List (List Nat)} {n : Nat} {bs0 : List Bed}, (∀ r ∈ L, r.length = bs0.length ∧ ∀ i, i < bs0.length → gN r i ≤ (bedAt bs0 i).most) → ∀ r ∈ bs.foldl stepA L, r.length = (bs0 ++ bs).length ∧ ∀ i, i < (bs0 ++ bs).length → gN r i ≤ (bedAt (bs0 ++ bs) i).most := by
    intro bs
    induction bs with
    | nil => exact fun {L n bs0} hL r hr => by rw [List.append_nil]; exact hL r hr
    | cons b bs ih =>
      intro L n bs0 hL r hr
      have := ih (L := stepA L b) (n := n) (bs0 := bs0 ++ [b]) (fun q hq => by
        unfold stepA rowA at hq
        obtain ⟨p, hp, hq⟩ := List.mem_flatMap.mp hq
        obtain ⟨y, hy, rfl⟩ := List.mem_map.mp hq
        have hy := List.mem_range.mp hy
        obtain ⟨h1, h2⟩ := hL p hp
        refine ⟨by simp [h1], fun i hi => ?_⟩
        by_cases z : i < bs0.length
        · have := h2 i z
          unfold gN bedAt at this ⊢
          simp only [List.getD_eq_getElem?_getD] at this ⊢
          rw [List.getElem?_append_left (by omega), List.getElem?_append_left z]
          exact this
        · have e : i = bs0.length := by rw [List.length_append, List.length_singleton] at hi; omega
          subst e
          unfold gN bedAt
          simp only [List.getD_eq_getElem?_getD]
          rw [List.getElem?_append_right (by omega), List.getElem?_append_right (by omega), h1]
          simp
          omega) r hr
      rw [List.append_assoc] at this
      exact this
  have := key (bs := g.beds) (L := [[]]) (n := 0) (bs0 := []) (by simp) s h
  exact ⟨this.1, this.2⟩
/-! ### moves -/
structure Mv where
  c : List Nat
  s : Nat
  l : Nat
def encM (m : Mv) : D := .tup [tN m.c, .int m.s, .int m.l]
def rowM (g : Gr) (s : List Nat) : List Mv := ((catG g).filter (mayB g s)).map fun c => ⟨c, soldB g s c, numG g (nextB g s c)⟩
def movG (g : Gr) : List (List Mv) := (allG g).map (rowM g)
def rowD (r : List Mv) : D := .lst (r.map encM)
def movD (M : List (List Mv)) : D := .lst (M.map rowD)
section
variable {k : Nat} {h : Hs}
/-- the catches as the program makes them -/
def catM (n b : Nat) : List (List Nat) := ([] :: (List.range n).map fun i => [i]) ++ (if b = 2 then (List.range n).flatMap fun one => (List.range' (one + 1) (n - (one + 1))).map fun o => [one, o] else [])
theorem leN_trans (a b c : List Nat) (h1 : leN a b = true) (h2 : leN b c = true) : leN a c = true := by
  unfold leN at *
  exact decide_eq_true (Std.le_trans (of_decide_eq_true h1) (of_decide_eq_true h2))
theorem leN_total (a b : List Nat) : (leN a b || leN b a) = true := by
  unfold leN
  rw [Bool.or_eq_true, decide_eq_true_eq, decide_eq_true_eq]
  exact Std.le_total
theorem leN_anti {a b : List Nat} (h1 : leN a b = true) (h2 : leN b a = true) : a = b := by
  unfold leN at *
  have e : iN a = iN b := Std.le_antisymm (of_decide_eq_true h1) (of_decide_eq_true h2)
  have := congrArg (List.map Int.toNat) e
  unfold iN at this
  rw [List.map_map, List.map_map] at this
  simpa [Function.comp_def] using this
theorem catM_sorted {n b : Nat} (hn : n < 5) (hb : b < 3) : (catM n b).mergeSort leN = catB n b := by
  have p : ∀ n, n < 5 → ∀ b, b < 3 → (catM n b).isPerm (catB n b) = true := by decide +kernel
  have s : ∀ n, n < 5 → ∀ b, b < 3 → (catB n b).Pairwise (fun a b => leN a b = true) := by decide +kernel
  exact List.Perm.eq_of_pairwise (le := fun a b => leN a b = true) (fun a b _ _ h1 h2 => leN_anti h1 h2) (List.pairwise_mergeSort leN_trans leN_total _) (s n hn b hb) ((List.mergeSort_perm _ _).trans (List.isPerm_iff.mp (p n hn b hb)))
end
end Tv
end

section
set_option autoImplicit false
set_option maxHeartbeats 1000000
/-! Catches, moves: the program's, the laws'. -/
namespace Tv
open PySem
section
variable {k : Nat} {h : Hs}
def pairL (n one : Nat) : List (List Nat) := (List.range' (one + 1) (n - (one + 1))).map fun o => [one, o]
/-! ### the program's moves -/
def mvOf (g : Gr) (s c : List Nat) : Mv := ⟨c, soldB g s c, numG g (nextB g s c)⟩
end
end Tv
end

section
set_option autoImplicit false
set_option maxHeartbeats 1000000
/-! The laws' moves, by a dict of places. -/
namespace Tv
open PySem
theorem fin_c {x : Sl} {r : Ev} : Ev.fin (x :: r) = x.fin :: Ev.fin r := id rfl
theorem sfin_o {xs : List D} : (Sl.o xs).fin = .v (.lst xs) := id rfl
def kvE (ps : List (List Nat × Nat)) : Kvs := ps.map fun p => (tN p.1, D.int p.2)
theorem kEq_tN {a b : List Nat} : kEq (tN a) (tN b) = (a == b) := by
  show PyData.eqvAll (D.pys _) (D.pys _) = _
  rw [py_ints, py_ints, eqvAll_ints, nat_list_eq]
@[simp] theorem kOk_tN {a : List Nat} : kOk true (tN a) = true := by
  unfold tN kOk
  simp
theorem kGet_ix {num : List Nat → Nat} {s : List Nat} : ∀ {L : List (List Nat)} {n : Nat}, (∀ j (h : j < L.length), num (L[j]'h) = n + j) → s ∈ L → kGet (kvE (L.zipIdx n)) (tN s) = some (.int (num s : Nat))
  | [], _, _, h => by cases h
  | x :: L, n, hn, h => by
    rw [List.zipIdx_cons]
    unfold kvE kGet
    rw [List.map_cons, List.find?_cons, kEq_tN]
    by_cases e : x = s
    · have e2 : (x == s) = true := by rw [e]; exact beq_self_eq_true s
      rw [e2]
      have := hn 0 (by simp)
      rw [List.getElem_cons_zero, e] at this
      show some (D.int (n : Nat)) = _
      rw [this]; rfl
    · rw [beq_eq_false_iff_ne.mpr e]
      have := kGet_ix (num := num) (s := s) (L := L) (n := n + 1) (fun j hj => by
        have := hn (j + 1) (by simpa using hj)
        rw [List.getElem_cons_succ] at this
        omega) (by
        rcases List.mem_cons.mp h with z | z
        · exact absurd z.symm e
        · exact z)
      unfold kvE kGet at this
      exact this
theorem kPut_new {s : List Nat} {n : Nat} {ps : List (List Nat × Nat)} (h : ∀ p ∈ ps, p.1 ≠ s) : kPut (tN s) (.int n) (kvE ps) = kvE (ps ++ [(s, n)]) := by
  have e : ((kvE ps).any fun p => kEq p.1 (tN s)) = false := by
    unfold kvE
    rw [List.any_map, List.any_eq_false]
    intro p hp
    show ¬ kEq (tN p.1) (tN s) = true
    rw [kEq_tN, beq_eq_false_iff_ne.mpr (h p hp)]
    simp
  unfold kPut
  rw [e, if_neg (by simp)]
  unfold kvE
  rw [List.map_append]; rfl
section
variable {k : Nat} {h : Hs}
def kvG (g : Gr) : Kvs := kvE (allG g).zipIdx
theorem kvG_get {g : Gr} {s : List Nat} (w : StW g s) : kGet (kvG g) (tN s) = some (.int (numG g s : Nat)) := kGet_ix (n := 0) (fun j hj => by rw [allG_at hj, Nat.zero_add]) (allG_mem w)
end
end Tv
end

section
set_option autoImplicit false
set_option maxHeartbeats 1000000
/-! Sheets. -/
namespace Tv
open PySem
def mxN : List Nat → Nat
  | [] => 0
  | a :: r => r.foldl max a
theorem maxL_nat : ∀ {xs : List Nat} {a : Nat}, maxL a (xs.map fun n : Nat => (n : Int)) = ((xs.foldl max a : Nat) : Int)
  | [], _ => rfl
  | x :: xs, a => by
    rw [List.map_cons, maxL, List.foldl_cons, ← maxL_nat (xs := xs) (a := max a x)]
    congr 1
    by_cases h : a < x
    · rw [if_pos (by omega)]; omega
    · rw [if_neg (by omega)]; omega
theorem dMax1 {xs : List Nat} (h : xs ≠ []) : dBi .max1 [.lst (xs.map fun n : Nat => .int n)] = some (.int (mxN xs : Nat)) := by
  show dMaxL (xs.map fun n : Nat => D.int n) = _
  unfold dMaxL
  rw [allI_map]
  cases xs with
  | nil => exact absurd rfl h
  | cons a r =>
    rw [List.map_cons]
    show some (D.int (maxL _ _)) = _
    rw [maxL_nat]; rfl
def rowS (M : List (List Mv)) (last : List Nat) : List Nat := M.map fun r => mxN (r.map fun m => m.s + gN last m.l)
def rowN (M : List (List Mv)) : Nat → List Nat
  | 0 => List.replicate M.length 0
  | n + 1 => rowS M (rowN M n)
def shN (M : List (List Mv)) (n : Nat) : List (List Nat) := (List.range (n + 1)).map (rowN M)
theorem rowN_len {M : List (List Mv)} : ∀ {n : Nat}, (rowN M n).length = M.length
  | 0 => by simp [rowN]
  | n + 1 => by simp [rowN, rowS]
/-- moves as they are: small, later ones known -/
structure MvW (M : List (List Mv)) : Prop where
  len : M.length ≤ 120
  ne : ∀ r ∈ M, r ≠ []
  rl : ∀ r ∈ M, r.length ≤ 20
  lt : ∀ r ∈ M, ∀ m ∈ r, m.l < M.length
  s : ∀ r ∈ M, ∀ m ∈ r, m.s ≤ 198
theorem movG_w {g : Gr} (w : g.wf) : MvW (movG g) := by
  have ll : (movG g).length = manyB g.beds := by unfold movG; rw [List.length_map, allG_len]
  have lc := catG_len w
  refine ⟨by rw [ll]; exact w.m, fun r hr => ?_, fun r hr => ?_, fun r hr m hm => ?_, fun r hr m hm => ?_⟩ <;> (unfold movG at hr; obtain ⟨s, hs, rfl⟩ := List.mem_map.mp hr)
  · intro z
    have : [] ∈ (catG g).filter (mayB g s) := by rw [List.mem_filter]; exact ⟨nil_catG, mayB_nil⟩
    unfold rowM at z
    rw [List.map_eq_nil_iff] at z
    rw [z] at this
    cases this
  · unfold rowM
    rw [List.length_map]
    exact Nat.le_trans (List.length_filter_le _ _) lc
  · unfold rowM at hm
    obtain ⟨c, hc, rfl⟩ := List.mem_map.mp hm
    rw [ll]
    exact numG_lt StW.next
  · unfold rowM at hm
    obtain ⟨c, hc, rfl⟩ := List.mem_map.mp hm
    rw [List.mem_filter] at hc
    exact sold_le w (catG_ok w hc.1)
section
variable {k : Nat} {h : Hs}
@[simp] theorem movD_keep {M : List (List Mv)} : (movD M).keep = true := rfl
@[simp] theorem movD_hand {M : List (List Mv)} : (movD M).hand = movD M := rfl
@[simp] theorem rowD_keep {M : List Mv} : (rowD M).keep = true := rfl
@[simp] theorem movD_nb {b : Bool} {M : List (List Mv)} : nb b (movD M) = some (movD M) := nb_keep rfl
@[simp] theorem movD_it {M : List (List Mv)} : itSeq (movD M) = some (M.map rowD) := rfl
@[simp] theorem movD_sq {M : List (List Mv)} : (movD M).sq? = some (M.map rowD) := rfl
@[simp] theorem movD_len {M : List (List Mv)} : dLen (movD M) = some (.int M.length) := by unfold movD; simp
@[simp] theorem rowD_nb {b : Bool} {M : List Mv} : nb b (rowD M) = some (rowD M) := nb_keep rfl
@[simp] theorem rowD_it {M : List Mv} : itSeq (rowD M) = some (M.map encM) := rfl
@[simp] theorem putM {i j l : Nat} {m : Mv} {e : Ev} : putT (.t [i, j, l]) (encM m) e = some (((e.put i (.v (tN m.c))).put j (.v (.int m.s))).put l (.v (.int m.l))) := rfl
def tS (S : List (List Nat)) : D := .tup (S.map tN)
theorem bor_last {L : List (List Nat)} {x : List Nat} {h : Hs} : ixR (.bor ((L ++ [x]).map tN)) (.int (-1)) h = .ok (tN x) h := by
  rw [ixR_bor]
  show R.of (L2.atI _ _) h = _
  have e : L2.ixN ((L ++ [x]).map tN).length (-1) = some L.length := by
    unfold L2.ixN
    rw [if_neg (by omega), if_pos (by simp; omega)]
    congr 1
    simp
    omega
  unfold L2.atI
  rw [e]
  simp
theorem c_max {cl : Nat → List D → Hs → R D} {x : E} {e : Ev} {last : List Nat} {r : List Mv} (ne : r ≠ []) (q : ∀ m ∈ r, oneC cl (.t [6, 7, 8]) (.c (.bl true)) x (encM m) e h = .ok (some (.int (m.s + gN last m.l : Nat))) h) : ∃ xs, compB cl (.t [6, 7, 8]) (.c (.bl true)) x (r.map encM) e h = .ok xs h ∧ dBi .max1 [.lst xs] = some (.int (mxN (r.map fun m => m.s + gN last m.l) : Nat)) := by
  have e1 := compB_all (g := fun m : Mv => D.int (m.s + gN last m.l : Nat)) q
  refine ⟨_, e1, ?_⟩
  have e2 : (r.map fun m : Mv => D.int (m.s + gN last m.l : Nat)) = (r.map fun m => m.s + gN last m.l).map fun n : Nat => D.int n := by rw [List.map_map]; rfl
  rw [e2]
  exact dMax1 (by simpa using ne)
theorem shN_succ {M : List (List Mv)} {n : Nat} : shN M (n + 1) = shN M n ++ [rowN M (n + 1)] := by unfold shN; rw [List.range_succ, List.map_append]; rfl
theorem shN_last {M : List (List Mv)} : ∀ {n : Nat}, ∃ L, shN M n = L ++ [rowN M n] ∧ L.length = n
  | 0 => ⟨[], rfl, rfl⟩
  | n + 1 => ⟨shN M n, shN_succ, by unfold shN; simp⟩
end
end Tv
end

section
set_option autoImplicit false
set_option maxHeartbeats 1000000
/-! The laws' sheets; looks at sheets. -/
namespace Tv
open PySem
section
variable {k : Nat} {h : Hs}
def mxR (last : List Nat) (r : List Mv) : Nat := mxN (r.map fun m => m.s + gN last m.l)
/-! ### looks at rows of numbers -/
/-- a whole number from 0 on -/
def isN0 : D → Bool
  | .int i => decide (0 ≤ i)
  | _ => false
def isRw (n : Nat) : D → Bool
  | .tup xs => decide (xs.length = n) && xs.all isN0
  | _ => false
theorem isN0_of {d : D} (q : isN0 d = true) : d = .int (toN d) := by
  cases d with
  | int i =>
    simp [isN0] at q
    show D.int i = .int ((i.toNat : Nat) : Int)
    congr 1; omega
  | _ => cases q
theorem n0_list : ∀ {xs : List D}, xs.all isN0 = true → xs = (xs.map toN).map fun n : Nat => .int n
  | [], _ => rfl
  | x :: xs, q => by
    rw [List.all_cons, Bool.and_eq_true] at q
    rw [List.map_cons, List.map_cons, ← isN0_of q.1, ← n0_list q.2]
theorem isRw_of {n : Nat} {d : D} (q : isRw n d = true) : d = tN (toNs d) ∧ (toNs d).length = n := by
  cases d with
  | tup xs =>
    simp only [isRw, Bool.and_eq_true, decide_eq_true_eq] at q
    exact ⟨congrArg D.tup (n0_list q.2), by show (xs.map toN).length = n; simpa using q.1⟩
  | _ => cases q
end
end Tv
end

section
set_option autoImplicit false
set_option maxHeartbeats 1000000
/-! Looks at sheets. -/
namespace Tv
open PySem
def sN : Str := ⟨#[33, 32, 110, 117, 109, 98, 101, 114]⟩
theorem word6 {p : D} : wordOf (.exc 6 p) = sN := by
  have e : ("! " ++ "number" : Str) = sN := by decide +kernel
  exact e
theorem said6 {p : D} {h : Hs} : kSaid (.exc (.exc 6 p) h) = .ok (.str sN) h := by
  show (if wordFits (.exc 6 p) then R.ok (D.str (wordOf (.exc 6 p))) h else .bad) = _
  rw [word6]; rfl
/-- a move borne by the numbers of two years -/
def okM (row last : List Nat) (i : Nat) (m : Mv) : Bool := !decide (gN row i < m.s + gN last m.l)
def bearL (row last : List Nat) : Nat → List (List Mv) → Bool
  | _, [] => true
  | i, r :: M => r.all (okM row last i) && bearL row last (i + 1) M
def pairsB (M : List (List Mv)) (S : List (List Nat)) : Bool := (S.zip (S.drop 1)).all fun p => bearL p.2 p.1 0 M
def isSh (M : List (List Mv)) (n : Nat) : D → Bool
  | .tup xs => decide (xs.length = n + 1) && xs.all (isRw M.length) && pairsB M (xs.map toNs)
  | _ => false
theorem any_not {α : Type} {f : α → Bool} : ∀ {xs : List α}, xs.any f = !xs.all fun x => !f x
  | [] => rfl
  | x :: xs => by rw [List.any_cons, List.all_cons, any_not, Bool.not_and, Bool.not_not]
section
variable {k : Nat} {h : Hs}
theorem rows_list {n : Nat} : ∀ {xs : List D}, xs.all (isRw n) = true → xs = (xs.map toNs).map tN ∧ ∀ r ∈ xs.map toNs, r.length = n
  | [], _ => ⟨rfl, by simp⟩
  | x :: xs, q => by
    rw [List.all_cons, Bool.and_eq_true] at q
    obtain ⟨e1, e2⟩ := isRw_of q.1
    obtain ⟨i1, i2⟩ := rows_list q.2
    refine ⟨by rw [List.map_cons, List.map_cons, ← e1, ← i1], fun r hr => ?_⟩
    rcases List.mem_cons.mp hr with rfl | hr
    · exact e2
    · exact i2 r hr
theorem pair_len {n : Nat} {S : List (List Nat)} (hS : ∀ r ∈ S, r.length = n) {p : List Nat × List Nat} (hp : p ∈ S.zip (S.drop 1)) : p.1.length = n ∧ p.2.length = n := by
  obtain ⟨h1, h2⟩ := List.of_mem_zip hp
  exact ⟨hS _ h1, hS _ (List.mem_of_mem_drop h2)⟩
end
end Tv
end

section
set_option autoImplicit false
set_option maxHeartbeats 1000000
/-! The laws' look at sheets; the sheet told. -/
namespace Tv
open PySem
section
variable {k : Nat} {h : Hs}
/-! what a sheet weighs -/
theorem mx_le {b : Nat} : ∀ {xs : List Nat}, (∀ x ∈ xs, x ≤ b) → mxN xs ≤ b := by
  have key : ∀ {xs : List Nat} {a : Nat}, a ≤ b → (∀ x ∈ xs, x ≤ b) → xs.foldl max a ≤ b := by
    intro xs
    induction xs with
    | nil => exact fun h _ => h
    | cons x xs ih => exact fun h hx => ih (by have := hx x List.mem_cons_self; omega) fun y hy => hx y (List.mem_cons_of_mem _ hy)
  intro xs hx
  cases xs with
  | nil => exact Nat.zero_le _
  | cons a r => exact key (hx a List.mem_cons_self) fun y hy => hx y (List.mem_cons_of_mem _ hy)
theorem gN_le {xs : List Nat} {b i : Nat} (h : ∀ x ∈ xs, x ≤ b) : gN xs i ≤ b := by
  by_cases l : i < xs.length
  · rw [gN_get l]; exact h _ (List.getElem_mem l)
  · unfold gN; simp [l]
theorem rowN_le {M : List (List Mv)} (w : MvW M) : ∀ {n : Nat}, ∀ x ∈ rowN M n, x ≤ 198 * n
  | 0, x, hx => by rw [List.eq_of_mem_replicate hx]; omega
  | n + 1, x, hx => by
    unfold rowN rowS at hx
    obtain ⟨r, hr, rfl⟩ := List.mem_map.mp hx
    refine mx_le fun y hy => ?_
    obtain ⟨m, hm, rfl⟩ := List.mem_map.mp hy
    have := w.s r hr m hm
    have := gN_le (i := m.l) (rowN_le w (n := n))
    omega
theorem fl_sheet {M : List (List Mv)} (w : MvW M) {S : List (List Nat)} (hS : ∀ r ∈ S, r.length = M.length ∧ ∀ x ∈ r, x ≤ 2000) : FitL 2000 (121 * S.length) 1 (S.map tN) := by
  have l := w.len
  induction S with
  | nil => exact fl_nil.mono (Nat.le_refl _) (Nat.zero_le _) (Nat.zero_le _)
  | cons r S ih =>
    obtain ⟨h1, h2⟩ := hS r List.mem_cons_self
    have f : Fit 2000 120 1 (tN r) := (fit_tN h2).mono (Nat.le_refl _) (by omega) (Nat.le_refl _)
    exact (fl_cons f (ih fun z hz => hS z (List.mem_cons_of_mem _ hz))).mono (Nat.le_refl _) (by rw [List.length_cons]; omega) (by omega)
theorem shN_ok {M : List (List Mv)} (w : MvW M) {n : Nat} (hn : n ≤ 8) : ∀ r ∈ shN M n, r.length = M.length ∧ ∀ x ∈ r, x ≤ 2000 := by
  intro r hr
  unfold shN at hr
  obtain ⟨j, hj, rfl⟩ := List.mem_map.mp hr
  have hj := List.mem_range.mp hj
  exact ⟨rowN_len, fun x hx => by have := rowN_le w x hx; omega⟩
theorem shN_len {M : List (List Mv)} {n : Nat} : (shN M n).length = n + 1 := by unfold shN; simp
theorem fit_sheet {M : List (List Mv)} (w : MvW M) {n : Nat} (hn : n ≤ 8) : Fit 2000 1100 2 (tS (shN M n)) := by
  have := fit_tup (fl_sheet w (shN_ok w hn))
  rw [shN_len] at this
  exact this.mono (Nat.le_refl _) (by omega) (Nat.le_refl _)
theorem tNi {xs : List Nat} : (tN xs).itp = true := by
  unfold tN
  rw [D.itp, itps_all, List.all_map, List.all_eq_true]
  exact fun _ _ => rfl
theorem tS_itp {S : List (List Nat)} : (tS S).itp = true := by
  unfold tS
  rw [D.itp, itps_all, List.all_map, List.all_eq_true]
  exact fun _ _ => tNi
end
end Tv
end

section
set_option autoImplicit false
set_option maxHeartbeats 1000000
/-! law_k22: whole courses part by part. -/
namespace Tv
open PySem
/-! courses that do not break -/
def salesB (g : Gr) : List Nat → List (List Nat) → List Nat
  | _, [] => []
  | s, c :: cs => soldB g s c :: salesB g (nextB g s c) cs
def endB (g : Gr) : List Nat → List (List Nat) → List Nat
  | s, [] => s
  | s, c :: cs => endB g (nextB g s c) cs
theorem gone_of {g : Gr} : ∀ {cs : List (List Nat)} {s : List Nat} {y : Nat}, goesB g s cs = true → goneB g y s cs = (salesB g s cs, endB g s cs, none)
  | [], _, _, _ => rfl
  | c :: cs, s, y, h => by
    rw [goesB, Bool.and_eq_true] at h
    rw [goneB, if_pos h.1, gone_of h.2]
    rfl
theorem sales_len {g : Gr} : ∀ {cs : List (List Nat)} {s : List Nat}, (salesB g s cs).length = cs.length
  | [], _ => rfl
  | c :: cs, s => congrArg (· + 1) (sales_len (cs := cs))
theorem sales_app {g : Gr} : ∀ {a b : List (List Nat)} {s : List Nat}, salesB g s (a ++ b) = salesB g s a ++ salesB g (endB g s a) b
  | [], _, _ => rfl
  | c :: cs, b, s => congrArg (_ :: ·) (sales_app (a := cs))
theorem end_app {g : Gr} : ∀ {a b : List (List Nat)} {s : List Nat}, endB g s (a ++ b) = endB g (endB g s a) b
  | [], _, _ => rfl
  | c :: cs, b, s => end_app (a := cs)
theorem goes_app {g : Gr} : ∀ {a b : List (List Nat)} {s : List Nat}, goesB g s (a ++ b) = (goesB g s a && goesB g (endB g s a) b)
  | [], _, _ => by simp [goesB, endB]
  | c :: cs, b, s => by
    rw [List.cons_append, goesB, goes_app (a := cs), goesB, endB, Bool.and_assoc]
theorem end_st {g : Gr} : ∀ {cs : List (List Nat)} {s : List Nat}, StW g s → StW g (endB g s cs)
  | [], _, w => w
  | c :: cs, s, _ => end_st (cs := cs) StW.next
/-- one standing lay as long as another one, bed by bed -/
def LeS (g : Gr) (s t : List Nat) : Prop := ∀ i, i < g.beds.length → gN s i ≤ gN t i
theorem may_mono {g : Gr} {s t c : List Nat} (l : LeS g s t) (wc : CaW g c) (m : mayB g s c = true) : mayB g t c = true := by
  unfold mayB
  rw [List.all_eq_true]
  intro b hb
  have h1 := mayB_at m hb
  have h2 := l b (wc.lt b hb)
  exact decide_eq_true (by omega)
theorem next_mono {g : Gr} {s t c : List Nat} (l : LeS g s t) : LeS g (nextB g s c) (nextB g t c) := by
  intro i hi
  have := l i hi
  rw [nextB_at hi, nextB_at hi]
  split <;> omega
theorem goes_mono {g : Gr} : ∀ {cs : List (List Nat)} {s t : List Nat}, LeS g s t → (∀ c ∈ cs, CaW g c) → goesB g s cs = true → goesB g t cs = true
  | [], _, _, _, _, _ => rfl
  | c :: cs, s, t, l, wc, h => by
    rw [goesB, Bool.and_eq_true] at h ⊢
    exact ⟨may_mono l (wc c List.mem_cons_self) h.1, goes_mono (next_mono l) (fun z hz => wc z (List.mem_cons_of_mem _ hz)) h.2⟩
def fullS (g : Gr) : List Nat := g.beds.map Bed.most
theorem full_at {g : Gr} {i : Nat} (h : i < g.beds.length) : gN (fullS g) i = (bedAt g.beds i).most := by
  unfold gN fullS bedAt
  simp [h]
theorem full_st {g : Gr} : StW g (fullS g) := ⟨by unfold fullS; simp, fun i hi => by rw [full_at hi]; exact Nat.le_refl _⟩
theorem le_full {g : Gr} {s : List Nat} (w : StW g s) : LeS g s (fullS g) := fun i hi => by rw [full_at hi]; exact w.le i hi
theorem st_ext {g : Gr} {s t : List Nat} (ws : s.length = g.beds.length) (wt : t.length = g.beds.length) (h : ∀ i, i < g.beds.length → gN s i = gN t i) : s = t := by
  refine List.ext_getElem (by omega) fun i h1 h2 => ?_
  have := h i (by omega)
  rw [gN_get h1, gN_get h2] at this
  exact this
theorem goes_nil {g : Gr} : ∀ {n : Nat} {s : List Nat}, goesB g s (List.replicate n []) = true
  | 0, _ => rfl
  | n + 1, s => by rw [List.replicate_succ, goesB, mayB_nil, goes_nil]; rfl
theorem end_nil_at {g : Gr} : ∀ {n : Nat} {s : List Nat}, StW g s → ∀ i, i < g.beds.length → gN (endB g s (List.replicate n [])) i = min (gN s i + n) (bedAt g.beds i).most
  | 0, s, w, i, hi => by have := w.le i hi; show gN s i = _; omega
  | n + 1, s, w, i, hi => by
    rw [List.replicate_succ, endB, end_nil_at StW.next i hi, nextB_at hi]
    simp
    omega
theorem end_nil {g : Gr} (wg : g.wf) {s : List Nat} (w : StW g s) : endB g s (List.replicate 6 []) = fullS g := by
  refine st_ext (end_st w).len full_st.len fun i hi => ?_
  rw [end_nil_at w i hi, full_at hi]
  have := (wg.b _ (bedAt_mem hi)).most_le
  omega
theorem ca_nil {g : Gr} : CaW g [] := ⟨by simp, by simp, rfl⟩
/-! counted here -/
theorem enmD_map {α : Type} {f : α → D} : ∀ {xs : List α} {i : Nat}, enmD i (xs.map f) = (xs.zipIdx i).map fun p => .tup [.int (p.2 : Nat), f p.1]
  | [], _ => rfl
  | x :: xs, i => congrArg (_ :: ·) (enmD_map (xs := xs) (i := i + 1))
def lainF (c ln : List Nat) : List Nat := ln.zipIdx.map fun p => if p.2 ∈ c then 0 else p.1 + 1
theorem lainF_len {c ln : List Nat} : (lainF c ln).length = ln.length := by unfold lainF; simp
theorem lainF_at {c ln : List Nat} {i : Nat} (h : i < ln.length) : gN (lainF c ln) i = if i ∈ c then 0 else gN ln i + 1 := by
  rw [gN_get (by rw [lainF_len]; exact h), gN_get h]
  unfold lainF
  simp
theorem lN_at {xs : List Nat} {n : Nat} {h : Hs} (l : n < xs.length) : ixR (.lst (xs.map fun n : Nat => .int n)) (.int n) h = .ok (.int (gN xs n : Nat)) h := by
  rw [ixL_map l, gN_get l]
theorem six : dMul (.tup [.tup []]) (.int 6) = some (tC (List.replicate 6 [])) := rfl
end Tv
end

section
set_option autoImplicit false
set_option maxHeartbeats 1000000
/-! law_k12: catches gone through. -/
namespace Tv
open PySem
/-- a thing asked with -/
def Q12 (d : D) : Prop := Fit (10 ^ 19 + 90) 60 6 d
def tupT (t : D × D × D) : D := .tup [t.1, t.2.1, t.2.2]
def QT (t : D × D × D) : Prop := Q12 t.1 ∧ Q12 t.2.1 ∧ Q12 t.2.2
theorem q_gr {g : Gr} (w : g.wf) : Q12 g.enc := (fit_gr (B := 10 ^ 19 + 90) (by omega) w).mono (Nat.le_refl _) (by omega) (by omega)
theorem q_st {g : Gr} (w : g.wf) {s : List Nat} (ws : StW g s) : Q12 (tN s) := (fit_st w ws (B := 10 ^ 19 + 90) (by omega)).mono (Nat.le_refl _) (by omega) (by omega)
theorem q_ca {g : Gr} (w : g.wf) {s : List Nat} (ws : CaW g s) : Q12 (tN s) := (fit_ca w ws (B := 10 ^ 19 + 90) (by omega)).mono (Nat.le_refl _) (by omega) (by omega)
theorem set3 {a b c z : D} {j : Nat} (l : j < 3) (qa : Q12 a) (qb : Q12 b) (qc : Q12 c) (qz : Q12 z) : ∃ a' b' c', setL [a, b, c] (j : Int) z = some [a', b', c'] ∧ Q12 a' ∧ Q12 b' ∧ Q12 c' := by
  rcases (by omega : j = 0 ∨ j = 1 ∨ j = 2) with rfl | rfl | rfl
  · exact ⟨z, b, c, rfl, qz, qb, qc⟩
  · exact ⟨a, z, c, rfl, qa, qz, qc⟩
  · exact ⟨a, b, z, rfl, qa, qb, qz⟩
theorem cat_last {g : Gr} (w : g.wf) {h : Hs} : ∃ c, CaW g c ∧ ixR (.lst ((catG g).map tN)) (.int (-1)) h = .ok (tN c) h := by
  have p : 0 < (catG g).length := List.length_pos_of_mem nil_catG
  have l : (catG g).length - 1 < ((catG g).map tN).length := by rw [List.length_map]; omega
  refine ⟨(catG g)[(catG g).length - 1]'(by omega), catG_ok w (List.getElem_mem _), ?_⟩
  have e : L2.ixN ((catG g).map tN).length (-1) = some ((catG g).length - 1) := by
    unfold L2.ixN
    rw [if_neg (by omega), if_pos (by rw [List.length_map]; omega), List.length_map]
    congr 1
    omega
  rw [ixR_lst]
  show R.of (L2.atI _ _) h = _
  unfold L2.atI
  rw [e, Option.bind_some, List.getElem?_eq_getElem l, List.getElem_map]
  rfl
theorem Q12.keep {d : D} (q : Q12 d) : d.keep = true := keep_pl (Fit.pl q)
theorem tN_itp : ∀ {xs : List Nat}, (tN xs).itp = true := by
  intro xs
  unfold tN
  rw [D.itp, itps_all, List.all_map, List.all_eq_true]
  exact fun _ _ => rfl
theorem eqv_strs : ∀ {ms : List Str}, PyData.eqvAll (D.pys (ms.map .str)) (D.pys (ms.map .str)) = true
  | [] => rfl
  | m :: ms => by
    rw [List.map_cons, D.pys, PyData.eqvAll, eqv_strs, D.py, PyData.eqv]
    simp
theorem plain_strs : ∀ {ms : List Str}, PyData.plainAll (D.pys (ms.map .str)) = true ∧ PyData.depthAll (D.pys (ms.map .str)) = 0 ∧ D.pls (ms.map .str) = true
  | [] => ⟨rfl, rfl, rfl⟩
  | m :: ms => by
    obtain ⟨a, b, c⟩ := plain_strs (ms := ms)
    refine ⟨?_, ?_, ?_⟩
    · rw [List.map_cons, D.pys, PyData.plainAll, a]; rfl
    · rw [List.map_cons, D.pys, PyData.depthAll, b]; rfl
    · rw [List.map_cons, D.pls, c]; rfl
theorem dEq_strs {ms : List Str} : dEq (.bor (ms.map .str)) (.lst (ms.map .str)) = some true := by
  obtain ⟨a, b, c⟩ := plain_strs (ms := ms)
  have s1 : (D.bor (ms.map .str)).sound = true := by
    unfold D.sound
    rw [D.rd, c, D.py, PyData.plain, a, PyData.depth, b]; rfl
  have s2 : (D.lst (ms.map .str)).sound = true := by
    unfold D.sound
    rw [D.rd, D.pl, c, D.py, PyData.plain, a, PyData.depth, b]
    · rfl
    · intro xs h; cases h
    · intro xs h; cases h
  unfold dEq
  rw [s1, s2, D.py, D.py, PyData.eqv, eqv_strs]; rfl
theorem dEq_str {x : Str} : dEq (.str x) (.str x) = some true := by
  show some (PyData.eqv (.str x) (.str x)) = _
  rw [PyData.eqv]; simp
end Tv
end

section
set_option autoImplicit false
set_option maxHeartbeats 1000000
/-! law_k11: grounds, standings, catches known. -/
namespace Tv
open PySem
def Q11 (d : D) : Prop := Fit (10 ^ 19 + 90) 200 12 d
theorem Q11.keep {d : D} (q : Q11 d) : d.keep = true := keep_pl (Fit.pl q)
theorem Q11.shows {d : D} (q : Q11 d) : d.shows = true := Fit.shows q (by decide) (by omega) (by omega)
theorem q11 {B w p : Nat} {d : D} (f : Fit B w p d) (h1 : B ≤ 10 ^ 19 + 90) (h2 : w ≤ 200) (h3 : p ≤ 12) : Q11 d := f.mono h1 h2 h3
mutual
theorem itp_nats : ∀ {xs : List Nat}, (tN xs).itp = true := fun {xs} => tN_itp
end
theorem bed_itp {b : Bed} : b.enc.itp = true := by
  unfold Bed.enc
  rw [D.itp, D.itps, D.itps, D.itps, tN_itp]; rfl
theorem gr_itp {g : Gr} : g.enc.itp = true := by
  have e : (bedsD g.beds).itp = true := by
    unfold bedsD
    rw [D.itp, itps_all, List.all_map, List.all_eq_true]
    exact fun _ _ => bed_itp
  unfold Gr.enc
  rw [D.itp, D.itps, D.itps, D.itps, e]; rfl
section
variable {k i : Nat} {v0 v1 v2 v3 v4 v5 v6 v7 v8 v9 v10 v11 v12 v13 v14 : Sl}
theorem dEq_bb {a b : Bool} : dEq (.bl a) (.bl b) = some (a == b) := by cases a <;> cases b <;> rfl
theorem num_ne {n : Nat} (h : n ≤ 120) : dEq (.str (PyData.shown (D.int n).py)) (.str sG) = some false := by
  have e : ∀ n : Nat, n < 121 → (PyData.eqv (.str (Str.ofString (toString (n : Int)))) (.str sG)) = false := by decide +kernel
  show some (PyData.eqv (.str (PyData.shown (D.int n).py)) (.str sG)) = _
  rw [D.py, PyData.shown, e n (by omega)]
theorem sG_eq : (D.str ⟨#[33, 32, 103, 114, 111, 117, 110, 100, 115]⟩ : D) = .str sG := rfl
end
/-! standings, catches of them -/
end Tv
end

section
set_option autoImplicit false
set_option maxHeartbeats 2000000
/-! law_k11: the law itself. -/
namespace Tv
open PySem
theorem fl_rep {B w p : Nat} {xs : List D} (f : FitL B w p xs) : ∀ {n : Nat}, FitL B (n * w) p (List.replicate n xs).flatten
  | 0 => fl_nil.mono (Nat.le_refl _) (Nat.zero_le _) (Nat.zero_le _)
  | n + 1 => by
    rw [List.replicate_succ, List.flatten_cons]
    exact (fl_app f (fl_rep f (n := n))).mono (Nat.le_refl _) (by rw [Nat.succ_mul]; omega) (by omega)
theorem dMul_tup {xs : List D} {n : Nat} (e : xs ≠ []) (h1 : 2 ≤ n) (h2 : n ≤ 1000) (l : xs.length ≤ 1000) : dMul (.tup xs) (.int n) = some (.tup (List.replicate n xs).flatten) := by
  show (if _ then _ else _) = _
  have e2 : xs.isEmpty = false := by cases xs <;> first | rfl | exact absurd rfl e
  rw [if_pos ⟨e2, by omega, by omega, l⟩]
  rfl
theorem putT_gr {i j : Nat} {g : Gr} {e : Ev} : putT (.t [i, j]) g.enc e = some ((e.put i (.v (bedsD g.beds))).put j (.v (.int g.boats))) := rfl
theorem list_gr {g : Gr} : dBi .list [g.enc] = some (.lst [bedsD g.beds, .int g.boats]) := rfl
theorem list_bd {bs : List Bed} : dBi .list [bedsD bs] = some (.lst (bs.map Bed.enc)) := rfl
theorem rev_tN {xs : List Nat} : dRev (tN xs) = some (tN xs.reverse) := by
  unfold tN
  rw [dRev_tup, List.map_reverse]
/-- the things that are grounds or not -/
def L11 (g : Gr) (X5 X4 : List D) : List D := [g.enc, .lst [bedsD g.beds, .int g.boats], .tup [bedsD g.beds, .int 3], .tup [bedsD g.beds, .int 0], .tup [.tup [], .int 1], .tup [.tup X5, .int g.boats], .tup [bedsD g.beds, .int g.boats, .int 0],
  .tup [.tup X4, .int 2], .tup [.tup [.tup [.int 3, .tup [.int 1, .int 2, .int 3]], .tup [.int 3, .tup [.int 1, .int 2, .int 3]], .tup [.int 3, .tup [.int 1, .int 2, .int 3]]], .int 1],
  .tup [.tup [.tup [.int 2, .tup [.int 1, .int 2, .int 3]], .tup [.int 2, .tup [.int 1, .int 2, .int 3]], .tup [.int 2, .tup [.int 1, .int 2, .int 3]]], .int 1], .tup [.lst (g.beds.map Bed.enc), .int 1]]
theorem L11_ok {g : Gr} {X5 X4 : List D} (w : g.wf) (f5 : FitL 99 120 2 X5) (f4 : FitL 99 120 2 X4) : ∀ d ∈ L11 g X5 X4, Q11 d := by
  have l4 := w.l4; have b2 := w.b2
  have fb : FitL 99 24 2 (g.beds.map Bed.enc) := (fl_beds (B := 99) (by omega) w.b).mono (Nat.le_refl _) (by omega) (Nat.le_refl _)
  have fd : Fit 99 24 3 (bedsD g.beds) := fit_tup fb
  have fi : ∀ n : Nat, n ≤ 99 → Fit 99 0 0 (.int (n : Int)) := fun n h => fit_int (by omega)
  have fg : Fit 99 0 0 (.int (g.boats : Int)) := fi _ (by omega)
  have tq : ∀ {xs : List D} {w p : Nat}, FitL 99 w p xs → w ≤ 200 → p ≤ 11 → Q11 (.tup xs) := fun f h1 h2 => q11 (fit_tup f) (by omega) h1 (by omega)
  intro d hd
  unfold L11 at hd
  simp only [List.mem_cons, List.not_mem_nil, or_false] at hd
  rcases hd with rfl | rfl | rfl | rfl | rfl | rfl | rfl | rfl | rfl | rfl | rfl
  · exact q11 (fit_gr (B := 99) (by omega) w) (by omega) (by omega) (by omega)
  · exact q11 (fit_lst (fl_cons fd (fl_cons fg fl_nil))) (by omega) (by omega) (by omega)
  · exact tq (fl_cons fd (fl_cons (fi 3 (by omega)) fl_nil)) (by omega) (by omega)
  · exact tq (fl_cons fd (fl_cons (fi 0 (by omega)) fl_nil)) (by omega) (by omega)
  · exact tq (fl_cons (fit_tup fl_nil) (fl_cons (fi 1 (by omega)) fl_nil)) (by omega) (by omega)
  · exact tq (fl_cons (fit_tup f5) (fl_cons fg fl_nil)) (by omega) (by omega)
  · exact tq (fl_cons fd (fl_cons fg (fl_cons (fi 0 (by omega)) fl_nil))) (by omega) (by omega)
  · exact tq (fl_cons (fit_tup f4) (fl_cons (fi 2 (by omega)) fl_nil)) (by omega) (by omega)
  · exact fit_of (by decide +kernel)
  · exact fit_of (by decide +kernel)
  · exact tq (fl_cons (fit_lst fb) (fl_cons (fi 1 (by omega)) fl_nil)) (by omega) (by omega)
section
variable {k i : Nat} {v0 v1 v2 v3 v4 v5 v6 v7 v8 v9 v10 v11 v12 v13 v14 : Sl}
end
end Tv
end

section
set_option autoImplicit false
set_option maxHeartbeats 2000000
/-! law_k32: sheets looked at. -/
namespace Tv
open PySem
def Q32 (d : D) : Prop := Fit (10 ^ 19 + 90) 5000 9 d
theorem Q32.keep {d : D} (q : Q32 d) : d.keep = true := keep_pl (Fit.pl q)
theorem Q32.shows {d : D} (q : Q32 d) : d.shows = true := Fit.shows q (by decide) (by omega) (by omega)
theorem q32 {B w p : Nat} {d : D} (f : Fit B w p d) (h1 : B ≤ 10 ^ 19 + 90) (h2 : w ≤ 5000) (h3 : p ≤ 9) : Q32 d := f.mono h1 h2 h3
theorem sIx_m1 (n d : Nat) : HT.sIx n d (some (-1)) = n - 1 := by
  show (if (-1 : Int) < 0 then ((-1 : Int) + (n : Int)).toNat else min (-1 : Int).toNat n) = _
  rw [if_pos (by omega)]; omega
theorem dSl_fm1 {xs : List D} : dSl (.tup xs) (some (-1)) none = some (.tup (xs.drop (xs.length - 1))) := by
  show some (D.tup (cutD xs (some (-1)) none)) = _
  unfold cutD
  rw [sIx_m1, HT.sIx_none, List.take_of_length_le (by rw [List.length_drop]; omega)]
theorem dSl_tm1 {xs : List D} : dSl (.tup xs) none (some (-1)) = some (.tup (xs.take (xs.length - 1))) := by
  show some (D.tup (cutD xs none (some (-1)))) = _
  unfold cutD
  rw [sIx_m1, HT.sIx_none, List.drop_zero, Nat.sub_zero]
theorem ix_m1 {xs : List D} (h : 0 < xs.length) : dIx (.tup xs) (.int (-1)) = some (xs[xs.length - 1]'(by omega)) := by
  show L2.atI xs (-1) = _
  have e : L2.ixN xs.length (-1) = some (xs.length - 1) := by
    unfold L2.ixN
    rw [if_neg (by omega), if_pos (by omega)]
    congr 1; omega
  unfold L2.atI
  rw [e, Option.bind_some, List.getElem?_eq_getElem (by omega)]
/-- a sheet as it is told -/
structure ShW (M : List (List Mv)) (S : List (List Nat)) (n : Nat) : Prop where
  len : S.length = n + 1
  n8 : n ≤ 4
  ok : ∀ r ∈ S, r.length = M.length ∧ ∀ x ∈ r, x ≤ 2000
  m1 : 1 ≤ M.length
  m2 : M.length ≤ 120
  fl : FitL 2000 1100 1 (S.map tN)
section
variable {k i : Nat} {v0 v1 v2 v3 v4 v5 v6 v7 v8 v9 v10 v11 v12 v13 v14 v15 v16 : Sl}
theorem sN_eq : (D.str ⟨#[33, 32, 110, 117, 109, 98, 101, 114]⟩ : D) = .str sN := rfl
end
end Tv
end

section
set_option autoImplicit false
set_option maxHeartbeats 2000000
/-! law_k32: the law itself. -/
namespace Tv
open PySem
theorem movG_pos {g : Gr} (w : g.wf) : 1 ≤ (movG g).length := by
  unfold movG
  rw [List.length_map]
  exact List.length_pos_of_mem (allG_mem (full_st (g := g)))
theorem shN_w {g : Gr} (w : g.wf) {n : Nat} (hn : n ≤ 4) : ShW (movG g) (shN (movG g) n) n := by
  have mw := movG_w w
  refine ⟨shN_len, hn, shN_ok mw (by omega), movG_pos w, mw.len, ?_⟩
  have := fl_sheet mw (shN_ok mw (n := n) (by omega))
  rw [shN_len] at this
  exact this.mono (Nat.le_refl _) (by omega) (Nat.le_refl _)
section
variable {k i : Nat} {v0 v1 v2 v3 v4 v5 v6 v7 v8 v9 v10 v11 v12 v13 v14 v15 v16 : Sl}
end
end Tv
end

section
set_option autoImplicit false
set_option maxHeartbeats 1000000
/-! The most that years sell, a course that does. -/
namespace Tv
open PySem
theorem eqv_tN {a b : List Nat} : PyData.eqv (tN a).py (tN b).py = (a == b) := by
  have e : ∀ zs : List Nat, (tN zs).py = .tuple ((zs.map fun n : Nat => (n : Int)).map .int) := fun zs => congrArg PyData.tuple py_ints
  rw [e, e, PyData.eqv, eqvAll_ints, nat_list_eq]
theorem find_num {num : List Nat → Nat} {s : List Nat} : ∀ {L : List (List Nat)} {n : Nat}, (∀ j (h : j < L.length), num (L[j]'h) = n + j) → s ∈ L → ∃ i, (L.map tN).findIdx? (fun z => PyData.eqv z.py (tN s).py) = some i ∧ n + i = num s
  | [], _, _, h => by cases h
  | x :: L, n, hn, h => by
    rw [List.map_cons, List.findIdx?_cons, eqv_tN]
    by_cases e : x = s
    · rw [e, beq_self_eq_true]
      have := hn 0 (by simp)
      rw [List.getElem_cons_zero, e] at this
      exact ⟨0, rfl, this.symm⟩
    · rw [beq_eq_false_iff_ne.mpr e]
      obtain ⟨i, h1, h2⟩ := find_num (num := num) (s := s) (L := L) (n := n + 1) (fun j hj => by
        have := hn (j + 1) (by simpa using hj)
        rw [List.getElem_cons_succ] at this
        omega) (by
        rcases List.mem_cons.mp h with z | z
        · exact absurd z.symm e
        · exact z)
      refine ⟨i + 1, ?_, by omega⟩
      rw [h1]; rfl
theorem sound_ltN {L : List (List Nat)} : (D.lst (L.map tN)).sound = true := by
  have h1 : D.pls (L.map tN) = true := by rw [D.pls_all, List.all_map, List.all_eq_true]; exact fun _ _ => pl_tN
  have h2 : PyData.plainAll (D.pys (L.map tN)) = true := itps_plain (by rw [itps_all, List.all_map, List.all_eq_true]; exact fun _ _ => tNi)
  have h3 : ∀ L : List (List Nat), PyData.depthAll (D.pys (L.map tN)) ≤ 1 := fun L => by
    induction L with
    | nil => exact Nat.zero_le _
    | cons x L ih =>
      rw [List.map_cons, D.pys, PyData.depthAll]
      have e : (tN x).py = .tuple ((x.map fun n : Nat => (n : Int)).map .int) := congrArg PyData.tuple py_ints
      rw [e, PyData.depth, depthAll_ints]
      omega
  unfold D.sound
  have e : (D.lst (L.map tN)).py = .list (D.pys (L.map tN)) := rfl
  have r : (D.lst (L.map tN)).rd = true := h1
  rw [r, e, PyData.plain, h2, PyData.depth, decide_eq_true (by have := h3 L; omega)]
  rfl
theorem dIndex_all {g : Gr} {s : List Nat} (w : StW g s) : dBi .index [.lst ((allG g).map tN), tN s] = some (.int (numG g s : Nat)) := by
  show dIndex (.lst ((allG g).map tN)) (tN s) = _
  unfold dIndex
  obtain ⟨i, h1, h2⟩ := find_num (num := numG g) (s := s) (L := allG g) (n := 0) (fun j hj => by rw [allG_at hj, Nat.zero_add]) (allG_mem w)
  rw [Nat.zero_add] at h2
  show (if (D.lst ((allG g).map tN)).sound && (tN s).sound then _ else none) = _
  rw [sound_ltN, sound_tN, h1, h2]
  rfl
theorem mxN_mem {xs : List Nat} (h : xs ≠ []) : mxN xs ∈ xs := by
  have key : ∀ (xs : List Nat) (a : Nat), xs.foldl max a = a ∨ xs.foldl max a ∈ xs := fun xs => by
    induction xs with
    | nil => exact fun a => .inl rfl
    | cons x xs ih =>
      intro a
      rw [List.foldl_cons]
      rcases ih (max a x) with e | e
      · rw [e]
        by_cases z : a ≤ x
        · rw [Nat.max_eq_right z]; exact .inr List.mem_cons_self
        · rw [Nat.max_eq_left (by omega)]; exact .inl rfl
      · exact .inr (List.mem_cons_of_mem _ e)
  cases xs with
  | nil => exact absurd rfl h
  | cons x xs =>
    rcases key xs x with e | e
    · show xs.foldl max x ∈ _
      rw [e]; exact List.mem_cons_self
    · exact List.mem_cons_of_mem _ e
theorem movS_at {g : Gr} {s : List Nat} (w : StW g s) : (movG g)[numG g s]? = some (rowM g s) := by
  have l : numG g s < (allG g).length := by rw [allG_len]; exact numG_lt w
  obtain ⟨j, hj⟩ := List.mem_iff_getElem?.mp (allG_mem w)
  have lj : j < (allG g).length := (List.getElem?_eq_some_iff.mp hj).1
  have e := allG_at lj
  have e2 : (allG g)[j]'lj = s := (List.getElem?_eq_some_iff.mp hj).2
  rw [e2] at e
  unfold movG
  rw [List.getElem?_map, e, hj]
  rfl
theorem rowS_at {M : List (List Mv)} {last : List Nat} {i : Nat} {r : List Mv} (h : M[i]? = some r) : gN (rowS M last) i = mxN (r.map fun m => m.s + gN last m.l) := by
  unfold gN rowS
  rw [List.getD_eq_getElem?_getD, List.getElem?_map, h]
  rfl
theorem movD_at {M : List (List Mv)} {n : Nat} {r : List Mv} {h : Hs} (e : M[n]? = some r) : ixR (movD M) (.int n) h = .ok (rowD r) h := by
  obtain ⟨l, e⟩ := List.getElem?_eq_some_iff.mp e
  show R.of (L2.atI _ _) h = _
  rw [atI_nat (by simpa using l), List.getElem_map, e]
  rfl
theorem shN_at {M : List (List Mv)} {n j : Nat} {h : Hs} (l : j ≤ n) : ixR (tS (shN M n)) (.int j) h = .ok (tN (rowN M j)) h := by
  show R.of (L2.atI _ _) h = _
  unfold shN
  rw [atI_nat (by simp; omega)]
  simp
section
variable {k : Nat} {h : Hs}
theorem r_l_is_course {g : Gr} (w : g.wf) {d : D} (p : d.pl = true) : runF G (k + 4) n_l_is_course [g.enc, d] h = .ok (.bl (isCo g d)) h := by
  rw [run_eq (fn := f_l_is_course) rfl]
  cases d with
  | tup xs =>
    rw [D.pl] at p
    by_cases e : xs.length ≤ 150
    · have q : ∀ a ∈ xs, oneC (runF G (k + 3)) (.n 2) (.c (.bl true)) x_l_is_course_0 a [.v g.enc, .v (.tup xs), .u] h = .ok (some (.bl (isCa g a))) h := fun a ha => by
        have pa := pls_at p a ha
        simp [x_l_is_course_0, keep_pl pa, hand_pl pa, r_l_is_catch w pa]
      simp [f_l_is_course, compB_each q, show (xs.length : Int) ≤ 150 by omega, show xs.length ≤ LIM by unfold LIM; omega, isCo, e, dIsi]
    · simp [f_l_is_course, show ¬ (xs.length : Int) ≤ 150 by omega, isCo, e, dIsi]
  | _ => first | (cases p; done) | simp [f_l_is_course, isCo, dIsi]
def oM : Option Mv → D
  | none => .non
  | some m => .tup [tN m.c, .int m.l]
end
theorem sound_e {s : List Nat} : (D.tup [tN s, .non]).sound = true := itp_sound (B := (s.foldl max 0)) (w := s.length + 2) (p := 2) (by
    show D.itps [tN s, .non] = true
    rw [itps_all]
    simp [tNi]
    rfl) ((fit_tup (fl_cons (fit_tN fun x hx => by
    have : ∀ (s : List Nat) (a : Nat), (∀ x ∈ s, x ≤ s.foldl max a) ∧ a ≤ s.foldl max a := fun s => by
      induction s with
      | nil => exact fun a => ⟨by simp, Nat.le_refl _⟩
      | cons y s ih =>
        intro a
        obtain ⟨i1, i2⟩ := ih (max a y)
        refine ⟨fun x hx => ?_, ?_⟩
        · rcases List.mem_cons.mp hx with rfl | hx
          · exact Nat.le_trans (Nat.le_max_right _ _) i2
          · exact i1 x hx
        · exact Nat.le_trans (Nat.le_max_left _ _) i2
    exact (this s 0).1 x hx) (fl_cons fit_non fl_nil))).mono (Nat.le_refl _) (by omega) (by omega)) (by omega)
theorem dEq_e {s : List Nat} : dEq (.tup [tN s, .non]) (.tup [tN s, .non]) = some true := by
  show (if (D.tup [tN s, .non]).sound && (D.tup [tN s, .non]).sound then some _ else none) = _
  rw [sound_e]
  have e : (D.tup [tN s, .non]).py = .tuple [(tN s).py, .none] := rfl
  rw [e, PyData.eqv, PyData.eqvAll, PyData.eqvAll, PyData.eqvAll, eqv_tN, beq_self_eq_true]
  rfl
end Tv
end

section
set_option autoImplicit false
set_option maxHeartbeats 1000000
/-! Walks: the greatest mean, heights. -/
namespace Tv
open PySem
/-! ### walks -/
/-- a walk of so many moves that sells so much -/
inductive Wk (M : List (List Mv)) : Nat → Nat → Nat → Nat → Prop where
  | z (u : Nat) : Wk M u 0 0 u
  | s {u n a v : Nat} {r : List Mv} {m : Mv} : Wk M u n a v → M[v]? = some r → m ∈ r → Wk M u (n + 1) (a + m.s) m.l
theorem Wk.app {M : List (List Mv)} {u n a v : Nat} (p : Wk M u n a v) : ∀ {k b w : Nat}, Wk M v k b w → Wk M u (n + k) (a + b) w := by
  intro k b w q
  induction q with
  | z => exact p
  | s q h1 h2 ih => exact Nat.add_assoc a _ _ ▸ ih.s h1 h2
theorem Wk.rep {M : List (List Mv)} {u n a : Nat} (p : Wk M u n a u) : ∀ j : Nat, Wk M u (j * n) (j * a) u
  | 0 => by rw [Nat.zero_mul, Nat.zero_mul]; exact .z u
  | j + 1 => by rw [Nat.succ_mul, Nat.succ_mul]; exact (Wk.rep p j).app p
/-- no function from so many and one to so many keeps all apart -/
theorem pigeon : ∀ (n : Nat) (f : Nat → Nat), (∀ i, i ≤ n → f i < n) → ∃ i j, i < j ∧ j ≤ n ∧ f i = f j := by
  intro n
  induction n with
  | zero => intro f h; exact absurd (h 0 (Nat.le_refl _)) (Nat.not_lt_zero _)
  | succ n ih =>
    intro f h
    by_cases e : ∃ i, i ≤ n ∧ f i = f (n + 1)
    · obtain ⟨i, hi, e⟩ := e
      exact ⟨i, n + 1, by omega, Nat.le_refl _, e⟩
    · have ne : ∀ i, i ≤ n → f i ≠ f (n + 1) := fun i hi q => e ⟨i, hi, q⟩
      obtain ⟨i, j, h1, h2, h3⟩ := ih (fun i => if f (n + 1) < f i then f i - 1 else f i) (fun i hi => by
        have a := h i (by omega)
        have b := h (n + 1) (by omega)
        have c := ne i hi
        show (if f (n + 1) < f i then f i - 1 else f i) < n
        by_cases q : f (n + 1) < f i
        · rw [if_pos q]; omega
        · rw [if_neg q]; omega)
      refine ⟨i, j, h1, by omega, ?_⟩
      have c1 := ne i (by omega)
      have c2 := ne j (by omega)
      have h3 : (if f (n + 1) < f i then f i - 1 else f i) = (if f (n + 1) < f j then f j - 1 else f j) := h3
      split at h3 <;> split at h3 <;> omega
/-! ### rows of the most walked -/
abbrev Rw := List (Option Nat)
def upR (R : Rw) (p : Nat × Nat) : Rw := match R[p.1]? with
  | some (some y) => if y < p.2 then R.set p.1 (some p.2) else R
  | _ => R.set p.1 (some p.2)
def stpR (M : List (List Mv)) (P : Rw) : List (Nat × Nat) := (M.zip P).flatMap fun q => match q.2 with
  | none => []
  | some a => q.1.map fun m => (m.l, a + m.s)
def nxR (M : List (List Mv)) (P : Rw) : Rw := (stpR M P).foldl upR (List.replicate M.length none)
theorem upR_len {R : Rw} {p : Nat × Nat} : (upR R p).length = R.length := by
  unfold upR; split <;> (try split) <;> simp
theorem foldU_len : ∀ {U : List (Nat × Nat)} {R : Rw}, (U.foldl upR R).length = R.length
  | [], _ => rfl
  | p :: U, R => by rw [List.foldl_cons, foldU_len, upR_len]
theorem nxR_len {M : List (List Mv)} {P : Rw} : (nxR M P).length = M.length := by unfold nxR; rw [foldU_len, List.length_replicate]
theorem upR_ge {R : Rw} {p : Nat × Nat} {v y : Nat} (h : R[v]? = some (some y)) : ∃ y', y ≤ y' ∧ (upR R p)[v]? = some (some y') := by
  unfold upR
  by_cases e : p.1 = v
  · subst e
    rw [h]
    show ∃ y', _ ∧ (if y < p.2 then R.set p.1 (some p.2) else R)[p.1]? = _
    have l : p.1 < R.length := by rw [List.getElem?_eq_some_iff] at h; exact h.1
    split
    · exact ⟨p.2, by omega, by rw [List.getElem?_set_self l]⟩
    · exact ⟨y, Nat.le_refl _, h⟩
  · refine ⟨y, Nat.le_refl _, ?_⟩
    split <;> (try split) <;> first | exact h | (rw [List.getElem?_set_ne e]; exact h)
theorem upR_in {R : Rw} {p : Nat × Nat} (l : p.1 < R.length) : ∃ y', p.2 ≤ y' ∧ (upR R p)[p.1]? = some (some y') := by
  unfold upR
  split
  · rename_i y h
    split
    · exact ⟨p.2, Nat.le_refl _, by rw [List.getElem?_set_self l]⟩
    · exact ⟨y, by omega, h⟩
  · exact ⟨p.2, Nat.le_refl _, by rw [List.getElem?_set_self l]⟩
theorem upR_of {R : Rw} {p : Nat × Nat} {v y : Nat} (h : (upR R p)[v]? = some (some y)) : R[v]? = some (some y) ∨ p = (v, y) := by
  have key : (R.set p.1 (some p.2))[v]? = some (some y) → R[v]? = some (some y) ∨ p = (v, y) := fun h => by
    by_cases e : p.1 = v
    · subst e
      by_cases l : p.1 < R.length
      · rw [List.getElem?_set_self l] at h
        cases h
        exact .inr rfl
      · rw [List.getElem?_eq_none (by simpa using l)] at h; cases h
    · rw [List.getElem?_set_ne e] at h; exact .inl h
  unfold upR at h
  split at h
  · split at h
    · exact key h
    · exact .inl h
  · exact key h
theorem foldU_ge : ∀ {U : List (Nat × Nat)} {R : Rw} {v y : Nat}, R[v]? = some (some y) → ∃ y', y ≤ y' ∧ (U.foldl upR R)[v]? = some (some y')
  | [], _, _, y, h => ⟨y, Nat.le_refl _, h⟩
  | p :: U, R, v, y, h => by
    obtain ⟨y1, h1, e1⟩ := upR_ge (p := p) h
    obtain ⟨y2, h2, e2⟩ := foldU_ge (U := U) e1
    exact ⟨y2, by omega, e2⟩
theorem foldU_in : ∀ {U : List (Nat × Nat)} {R : Rw} {p : Nat × Nat}, p ∈ U → p.1 < R.length → ∃ y', p.2 ≤ y' ∧ (U.foldl upR R)[p.1]? = some (some y')
  | q :: U, R, p, h, l => by
    rcases List.mem_cons.mp h with rfl | h
    · obtain ⟨y1, h1, e1⟩ := upR_in (R := R) l
      obtain ⟨y2, h2, e2⟩ := foldU_ge (U := U) e1
      exact ⟨y2, by omega, e2⟩
    · exact foldU_in (R := upR R q) h (by rw [upR_len]; exact l)
theorem foldU_of : ∀ {U : List (Nat × Nat)} {R : Rw} {v y : Nat}, (U.foldl upR R)[v]? = some (some y) → R[v]? = some (some y) ∨ (v, y) ∈ U
  | [], _, _, _, h => .inl h
  | p :: U, R, v, y, h => by
    rcases foldU_of (U := U) h with h | h
    · rcases upR_of h with h | h
      · exact .inl h
      · exact .inr (h ▸ List.mem_cons_self)
    · exact .inr (List.mem_cons_of_mem _ h)
theorem stpR_mem {M : List (List Mv)} {P : Rw} {p : Nat × Nat} : p ∈ stpR M P ↔ ∃ (u : Nat) (r : List Mv) (a : Nat) (m : Mv), M[u]? = some r ∧ P[u]? = some (some a) ∧ m ∈ r ∧ p = (m.l, a + m.s) := by
  unfold stpR
  rw [List.mem_flatMap]
  constructor
  · rintro ⟨⟨r, x⟩, hq, hp⟩
    obtain ⟨u, hu⟩ := List.mem_iff_getElem?.mp hq
    have e1 : M[u]? = some r ∧ P[u]? = some x := by
      rw [List.getElem?_zip_eq_some] at hu
      exact hu
    cases x with
    | none => cases hp
    | some a =>
      obtain ⟨m, hm, rfl⟩ := List.mem_map.mp hp
      exact ⟨u, r, a, m, e1.1, e1.2, hm, rfl⟩
  · rintro ⟨u, r, a, m, h1, h2, hm, rfl⟩
    refine ⟨(r, some a), List.mem_iff_getElem?.mpr ⟨u, ?_⟩, List.mem_map.mpr ⟨m, hm, rfl⟩⟩
    rw [List.getElem?_zip_eq_some]
    exact ⟨h1, h2⟩
theorem nxR_ge {M : List (List Mv)} {P : Rw} {u a : Nat} {r : List Mv} {m : Mv} (h1 : M[u]? = some r) (h2 : P[u]? = some (some a)) (hm : m ∈ r) (l : m.l < M.length) : ∃ y, a + m.s ≤ y ∧ (nxR M P)[m.l]? = some (some y) :=
  foldU_in (p := (m.l, a + m.s)) (stpR_mem.mpr ⟨u, r, a, m, h1, h2, hm, rfl⟩) (by rw [List.length_replicate]; exact l)
theorem nxR_of {M : List (List Mv)} {P : Rw} {v y : Nat} (h : (nxR M P)[v]? = some (some y)) : ∃ (u : Nat) (r : List Mv) (a : Nat) (m : Mv), M[u]? = some r ∧ P[u]? = some (some a) ∧ m ∈ r ∧ v = m.l ∧ y = a + m.s := by
  rcases foldU_of h with h | h
  · rw [List.getElem?_replicate] at h
    split at h <;> cases h
  · obtain ⟨u, r, a, m, h1, h2, hm, e⟩ := stpR_mem.mp h
    cases e
    exact ⟨u, r, a, m, h1, h2, hm, rfl, rfl⟩
/-- the rows: from the last one on -/
def wkR (M : List (List Mv)) : Nat → Rw
  | 0 => List.replicate (M.length - 1) none ++ [some 0]
  | n + 1 => nxR M (wkR M n)
def at0 (R : Rw) (v : Nat) : Option Nat := (R[v]?).join
/-! ### the rows tell of all walks -/
theorem wkR_len {M : List (List Mv)} (h : 0 < M.length) : ∀ {n : Nat}, (wkR M n).length = M.length
  | 0 => by unfold wkR; simp; omega
  | n + 1 => by unfold wkR; exact nxR_len
/-- what keeps the means: each end's most is borne by an earlier row -/
def Krp (M : List (List Mv)) (t b : Int) : Prop := ∀ v y : Nat, (wkR M M.length)[v]? = some (some y) → ∃ k x : Nat, k < M.length ∧ (wkR M k)[v]? = some (some x) ∧ b * y - t * M.length ≤ b * x - t * k
theorem wk_bound {M : List (List Mv)} {t b : Int} (hb : 0 ≤ b) (hM : 0 < M.length) (hl : ∀ r ∈ M, ∀ m ∈ r, m.l < M.length) (K : Krp M t b) {s T S v : Nat} (w : Wk M s T S v) (es : s = M.length - 1) :
    ∃ k x : Nat, k < M.length ∧ (wkR M k)[v]? = some (some x) ∧ b * S - t * T ≤ b * x - t * k := by
  induction w with
  | z =>
    refine ⟨0, 0, hM, ?_, by simp⟩
    unfold wkR
    subst es
    rw [List.getElem?_append_right (by simp)]
    simp
  | @s n a v r m w h1 h2 ih =>
    obtain ⟨k, x, hk, hx, q⟩ := ih
    obtain ⟨y, hy, e⟩ := nxR_ge h1 hx h2 (hl r (List.mem_of_getElem? h1) m h2)
    have q2 : b * ((a + m.s : Nat) : Int) - t * ((n + 1 : Nat) : Int) ≤ b * (y : Int) - t * ((k + 1 : Nat) : Int) := by
      have h3 : b * ((x + m.s : Nat) : Int) ≤ b * (y : Int) := Int.mul_le_mul_of_nonneg_left (by omega) hb
      have e1 : b * ((a + m.s : Nat) : Int) = b * a + b * m.s := by rw [Int.natCast_add, Int.mul_add]
      have e2 : b * ((x + m.s : Nat) : Int) = b * x + b * m.s := by rw [Int.natCast_add, Int.mul_add]
      have e3 : t * ((n + 1 : Nat) : Int) = t * n + t := by rw [Int.natCast_add, Int.mul_add]; simp
      have e4 : t * ((k + 1 : Nat) : Int) = t * k + t := by rw [Int.natCast_add, Int.mul_add]; simp
      omega
    by_cases z : k + 1 < M.length
    · exact ⟨k + 1, y, z, e, q2⟩
    · have z : k + 1 = M.length := by omega
      have e : (wkR M M.length)[m.l]? = some (some y) := by rw [← z]; exact e
      obtain ⟨k2, x2, h3, h4, h5⟩ := K m.l y e
      rw [z] at q2
      exact ⟨k2, x2, h3, h4, by omega⟩
theorem wkR_le {M : List (List Mv)} (hs : ∀ r ∈ M, ∀ m ∈ r, m.s ≤ 198) : ∀ {n v y : Nat}, (wkR M n)[v]? = some (some y) → y ≤ 198 * n
  | 0, v, y, h => by
    unfold wkR at h
    have := List.mem_of_getElem? h
    rw [List.mem_append] at this
    rcases this with h | h
    · have := (List.mem_replicate.mp h).2; cases this
    · have := List.mem_singleton.mp h; cases this; omega
  | n + 1, v, y, h => by
    obtain ⟨u, r, a, m, h1, h2, h3, _, rfl⟩ := nxR_of (by unfold wkR at h; exact h)
    have := wkR_le hs h2
    have := hs r (List.mem_of_getElem? h1) m h3
    omega
/-- no way round from a standing that the last one leads to sells above the mean -/
theorem no_above {M : List (List Mv)} {t b : Int} (ht : 0 ≤ t) (hb : 0 ≤ b) (hM : 0 < M.length) (hl : ∀ r ∈ M, ∀ m ∈ r, m.l < M.length) (hs : ∀ r ∈ M, ∀ m ∈ r, m.s ≤ 198) (K : Krp M t b) {u n a p q : Nat}
    (w : Wk M (M.length - 1) p q u) (c : Wk M u n a u) : b * a ≤ t * n := by
  refine Int.not_lt.mp fun h => ?_
  have key : ∀ j : Nat, (j : Int) ≤ b * (198 * M.length : Nat) + t * p := fun j => by
    obtain ⟨k, x, h1, h2, h3⟩ := wk_bound hb hM hl K (w.app (c.rep j)) rfl
    have hx := wkR_le hs h2
    have e1 : b * ((q + j * a : Nat) : Int) = b * q + j * (b * a) := by rw [Int.natCast_add, Int.mul_add, Int.natCast_mul, Int.mul_left_comm]
    have e2 : t * ((p + j * n : Nat) : Int) = t * p + j * (t * n) := by rw [Int.natCast_add, Int.mul_add, Int.natCast_mul, Int.mul_left_comm]
    have h4 : b * (x : Int) ≤ b * ((198 * M.length : Nat) : Int) := Int.mul_le_mul_of_nonneg_left (by omega) hb
    have h5 : 0 ≤ t * (k : Int) := Int.mul_nonneg ht (by omega)
    have h6 : 0 ≤ b * (q : Int) := Int.mul_nonneg hb (by omega)
    have h7 : (j : Int) * 1 ≤ j * (b * a - t * n) := Int.mul_le_mul_of_nonneg_left (by omega) (by omega)
    rw [Int.mul_sub] at h7
    omega
  have := key (b * (198 * M.length : Nat) + t * p + 1).toNat
  omega
/-! ### heights -/
theorem maxL_ge : ∀ {xs : List Int} {m : Int}, m ≤ maxL m xs
  | [], m => Int.le_refl m
  | x :: xs, m => by
    have := maxL_ge (xs := xs) (m := if m < x then x else m)
    rw [maxL]
    split at this <;> split <;> omega
theorem maxL_mem : ∀ {xs : List Int} {m x : Int}, x ∈ xs → x ≤ maxL m xs
  | y :: xs, m, x, h => by
    rw [maxL]
    rcases List.mem_cons.mp h with rfl | h
    · have := maxL_ge (xs := xs) (m := if m < x then x else m)
      split at this <;> split <;> omega
    · exact maxL_mem h
theorem maxL_of : ∀ {xs : List Int} {m : Int}, maxL m xs = m ∨ maxL m xs ∈ xs
  | [], m => .inl rfl
  | x :: xs, m => by
    rw [maxL]
    split
    · rcases maxL_of (xs := xs) (m := x) with h | h
      · rw [h]; exact .inr List.mem_cons_self
      · exact .inr (List.mem_cons_of_mem _ h)
    · rcases maxL_of (xs := xs) (m := m) with h | h
      · exact .inl h
      · exact .inr (List.mem_cons_of_mem _ h)
def hgR (t b : Nat) (H : List Nat) (r : List Mv) : Nat := (maxL 0 (r.map fun m => (b : Int) * m.s - t + gN H m.l)).toNat
def hgN (M : List (List Mv)) (t b : Nat) : Nat → List Nat
  | 0 => M.map fun _ => 0
  | n + 1 => M.map (hgR t b (hgN M t b n))
theorem hgN_len {M : List (List Mv)} {t b : Nat} : ∀ {n : Nat}, (hgN M t b n).length = M.length
  | 0 => by unfold hgN; simp
  | n + 1 => by unfold hgN; simp
theorem gN_some {xs : List Nat} {v x : Nat} (h : xs[v]? = some x) : gN xs v = x := by unfold gN; rw [List.getD_eq_getElem?_getD, h]; rfl
theorem hgN_at {M : List (List Mv)} {t b n v : Nat} {r : List Mv} (h : M[v]? = some r) : gN (hgN M t b (n + 1)) v = hgR t b (hgN M t b n) r := gN_some (by rw [hgN, List.getElem?_map, h]; rfl)
theorem hgN_out {M : List (List Mv)} {t b n v : Nat} (h : M[v]? = none) : gN (hgN M t b n) v = 0 := by
  unfold gN
  rw [List.getD_eq_getElem?_getD, List.getElem?_eq_none (by rw [hgN_len]; exact List.getElem?_eq_none_iff.mp h)]; rfl
theorem hgR_ge {t b : Nat} {H : List Nat} {r : List Mv} {m : Mv} (h : m ∈ r) : (b : Int) * m.s - t + gN H m.l ≤ (hgR t b H r : Nat) := by
  unfold hgR
  have h1 : (b : Int) * m.s - t + gN H m.l ≤ maxL 0 (r.map fun m => (b : Int) * m.s - t + gN H m.l) := maxL_mem (List.mem_map.mpr ⟨m, h, rfl⟩)
  have h2 := maxL_ge (xs := r.map fun m => (b : Int) * m.s - t + gN H m.l) (m := 0)
  omega
theorem hgR_of {t b : Nat} {H : List Nat} {r : List Mv} : hgR t b H r = 0 ∨ ∃ m ∈ r, (hgR t b H r : Int) = (b : Int) * m.s - t + gN H m.l := by
  unfold hgR
  rcases maxL_of (xs := r.map fun m => (b : Int) * m.s - t + gN H m.l) (m := 0) with h | h
  · left; rw [h]; rfl
  · right
    obtain ⟨m, hm, e⟩ := List.mem_map.mp h
    have h2 := maxL_ge (xs := r.map fun m => (b : Int) * m.s - t + gN H m.l) (m := 0)
    exact ⟨m, hm, by omega⟩
theorem hgR_mono {t b : Nat} {H K : List Nat} {r : List Mv} (h : ∀ v, gN H v ≤ gN K v) : hgR t b H r ≤ hgR t b K r := by
  rcases hgR_of (t := t) (b := b) (H := H) (r := r) with e | ⟨m, hm, e⟩
  · omega
  · have := hgR_ge (t := t) (b := b) (H := K) hm
    have := h m.l
    omega
theorem hgN_mono {M : List (List Mv)} {t b : Nat} : ∀ {n : Nat} (v : Nat), gN (hgN M t b n) v ≤ gN (hgN M t b (n + 1)) v := by
  intro n
  induction n with
  | zero =>
    intro v
    have : gN (hgN M t b 0) v = 0 := by
      unfold gN hgN
      rw [List.getD_eq_getElem?_getD, List.getElem?_map]
      cases M[v]? <;> rfl
    omega
  | succ n ih =>
    intro v
    cases e : M[v]? with
    | none => rw [hgN_out e]; omega
    | some r => rw [hgN_at e, hgN_at e]; exact hgR_mono ih
theorem hgN_mono' {M : List (List Mv)} {t b v n : Nat} : ∀ {k : Nat}, gN (hgN M t b n) v ≤ gN (hgN M t b (n + k)) v
  | 0 => Nat.le_refl _
  | k + 1 => Nat.le_trans hgN_mono' (hgN_mono v)
/-- where the heights still rise, a chain of moves rises -/
theorem hg_chain {M : List (List Mv)} {t b : Nat} : ∀ {T v : Nat}, gN (hgN M t b T) v < gN (hgN M t b (T + 1)) v → ∃ f : Nat → Nat, f 0 = v ∧ (∀ i, i ≤ T → f i < M.length ∧ gN (hgN M t b (T - i)) (f i) < gN (hgN M t b (T - i + 1)) (f i)) ∧
    ∀ i, i < T → ∃ r m, M[f i]? = some r ∧ m ∈ r ∧ f (i + 1) = m.l ∧ (gN (hgN M t b (T - i + 1)) (f i) : Int) = (b : Int) * m.s - t + gN (hgN M t b (T - i)) (f (i + 1)) := by
  intro T
  induction T with
  | zero =>
    intro v h
    refine ⟨fun _ => v, rfl, fun i hi => ?_, fun i hi => by omega⟩
    obtain rfl : i = 0 := by omega
    refine ⟨?_, h⟩
    refine Nat.not_le.mp fun q => ?_
    rw [hgN_out (n := 0 + 1) (List.getElem?_eq_none q)] at h
    omega
  | succ T ih =>
    intro v h
    cases e : M[v]? with
    | none => rw [hgN_out e, hgN_out e] at h; omega
    | some r =>
      have hv : v < M.length := (List.getElem?_eq_some_iff.mp e).1
      have h0 := h
      rw [hgN_at e, hgN_at e] at h
      rcases hgR_of (t := t) (b := b) (H := hgN M t b (T + 1)) (r := r) with z | ⟨m, hm, z⟩
      · omega
      · have h3 := hgR_ge (t := t) (b := b) (H := hgN M t b T) hm
        obtain ⟨f, f0, f1, f2⟩ := ih (v := m.l) (by omega)
        refine ⟨fun i => match i with
          | 0 => v
          | i + 1 => f i, rfl, fun i hi => ?_, fun i hi => ?_⟩
        · cases i with
          | zero => exact ⟨hv, h0⟩
          | succ i => rw [show T + 1 - (i + 1) = T - i by omega]; exact f1 i (by omega)
        · cases i with
          | zero =>
            refine ⟨r, m, e, hm, f0, ?_⟩
            show (gN (hgN M t b (T + 1 + 1)) v : Int) = _
            rw [hgN_at e, z]
            show _ = (b : Int) * m.s - t + gN (hgN M t b (T + 1)) (f 0)
            rw [f0]
          | succ i => rw [show T + 1 - (i + 1) = T - i by omega]; exact f2 i (by omega)
theorem hg_walk {M : List (List Mv)} {t b T : Nat} {f : Nat → Nat} (f2 : ∀ i, i < T → ∃ r m, M[f i]? = some r ∧ m ∈ r ∧ f (i + 1) = m.l ∧ (gN (hgN M t b (T - i + 1)) (f i) : Int) = (b : Int) * m.s - t + gN (hgN M t b (T - i)) (f (i + 1)))
    {i : Nat} : ∀ {d : Nat}, i + d ≤ T → ∃ a, Wk M (f i) d a (f (i + d)) ∧ (gN (hgN M t b (T - i + 1)) (f i) : Int) = (b : Int) * a - t * d + gN (hgN M t b (T - (i + d) + 1)) (f (i + d))
  | 0, _ => ⟨0, .z _, by simp⟩
  | d + 1, h => by
    obtain ⟨a, w, e⟩ := hg_walk f2 (i := i) (d := d) (by omega)
    obtain ⟨r, m, h1, h2, h3, h4⟩ := f2 (i + d) (by omega)
    refine ⟨a + m.s, ?_, ?_⟩
    · have := w.s h1 h2
      rw [← h3] at this
      exact this
    · have e1 : T - (i + (d + 1)) + 1 = T - (i + d) := by omega
      rw [e, h4, e1, show i + (d + 1) = i + d + 1 by omega]
      have e2 : (b : Int) * ((a + m.s : Nat) : Int) = b * a + b * m.s := by rw [Int.natCast_add, Int.mul_add]
      have e3 : (t : Int) * ((d + 1 : Nat) : Int) = t * d + t := by rw [Int.natCast_add, Int.mul_add]; simp
      omega
/-- where no way round sells above the mean, the heights stand at last -/
theorem hg_stand {M : List (List Mv)} {t b : Nat} (na : ∀ u n a : Nat, 0 < n → Wk M u n a u → (b : Int) * a ≤ t * n) (v : Nat) : gN (hgN M t b (M.length + 1)) v ≤ gN (hgN M t b M.length) v := by
  refine Nat.not_lt.mp fun h => ?_
  obtain ⟨f, _, f1, f2⟩ := hg_chain h
  obtain ⟨i, j, h1, h2, h3⟩ := pigeon M.length f fun i hi => (f1 i hi).1
  obtain ⟨d, rfl⟩ : ∃ d, j = i + d := ⟨j - i, by omega⟩
  obtain ⟨a, w, e⟩ := hg_walk f2 (i := i) (d := d) h2
  rw [← h3] at w e
  have q := na _ _ _ (by omega) w
  have r := (f1 i (by omega)).2
  have m := hgN_mono' (M := M) (t := t) (b := b) (v := f i) (n := M.length - (i + d) + 1) (k := d - 1)
  rw [show M.length - (i + d) + 1 + (d - 1) = M.length - i by omega] at m
  omega
/-! ### the mean -/
abbrev Am := Int × Int
def lsA (p q : Am) : Bool := decide (p.1 * q.2 < q.1 * p.2)
/-- the least amount of an end, by the years so far -/
def leA (n y : Nat) : List (Option Nat) → Nat → Option Am → Option Am
  | [], _, acc => acc
  | none :: xs, k, acc => leA n y xs (k + 1) acc
  | some x :: xs, k, acc => leA n y xs (k + 1) (match acc with
    | none => some ((y : Int) - x, (n : Int) - k)
    | some q => if lsA ((y : Int) - x, (n : Int) - k) q then some ((y : Int) - x, (n : Int) - k) else some q)
theorem leA_of {n y : Nat} : ∀ {xs : List (Option Nat)} {k : Nat} {acc : Option Am} {q : Am}, leA n y xs k acc = some q → acc = some q ∨ ∃ i x, xs[i]? = some (some x) ∧ q = ((y : Int) - (x : Nat), (n : Int) - ((k + i : Nat) : Int))
  | [], k, acc, q, h => .inl h
  | none :: xs, k, acc, q, h => by
    rcases leA_of (xs := xs) h with h | ⟨i, x, e, h⟩
    · exact .inl h
    · exact .inr ⟨i + 1, x, e, by rw [h]; congr 2; omega⟩
  | some x :: xs, k, acc, q, h => by
    rcases leA_of (xs := xs) h with h | ⟨i, x, e, h⟩
    · cases acc with
      | none => cases h; exact .inr ⟨0, x, rfl, rfl⟩
      | some p =>
        have h : (if lsA ((y : Int) - x, (n : Int) - k) p then some ((y : Int) - x, (n : Int) - k) else some p) = some q := h
        split at h
        · cases h; exact .inr ⟨0, x, rfl, rfl⟩
        · exact .inl h
    · exact .inr ⟨i + 1, x, e, by rw [h]; congr 2; omega⟩
theorem leA_some {n y : Nat} : ∀ {xs : List (Option Nat)} {k : Nat} {acc : Option Am}, (acc.isSome = true ∨ ∃ (i : Nat) (x : Nat), xs[i]? = some (some x)) → (leA n y xs k acc).isSome = true
  | [], k, acc, h => by
    rcases h with h | ⟨i, x, h⟩
    · exact h
    · simp at h
  | none :: xs, k, acc, h => by
    refine leA_some (xs := xs) (k := k + 1) ?_
    rcases h with h | ⟨i, x, h⟩
    · exact .inl h
    · cases i with
      | zero => cases h
      | succ i => exact .inr ⟨i, x, h⟩
  | some x :: xs, k, acc, h => by
    refine leA_some (xs := xs) (k := k + 1) (.inl ?_)
    cases acc with
    | none => rfl
    | some q => show (if _ then _ else _ : Option Am).isSome = true; split <;> rfl
/-- the column of an end -/
def colR (M : List (List Mv)) (e : Nat) : List (Option Nat) := (List.range M.length).map fun k => ((wkR M k)[e]?).join
def upA (best : Am) : Option Am → Am
  | none => best
  | some q => if lsA best q then q else best
def enA (M : List (List Mv)) (e : Nat) : Option Am := match ((wkR M M.length)[e]?).join with
  | none => none
  | some y => leA M.length y (colR M e) 0 none
def beA (M : List (List Mv)) (best : Am) (e : Nat) : Am := upA best (enA M e)
def meA (M : List (List Mv)) : Am := (List.range M.length).foldl (beA M) (0, 1)
/-- an amount with no number below nought, small -/
structure AmW (p : Am) : Prop where
  t : 0 ≤ p.1
  b : 1 ≤ p.2
  t2 : p.1 ≤ 30000
  b2 : p.2 ≤ 120
theorem ls_trans {p q r : Am} (hp : 1 ≤ p.2) (hq : 1 ≤ q.2) (hr : 1 ≤ r.2) (h1 : lsA q p = false) (h2 : lsA q r = true) : lsA r p = false := by
  unfold lsA at *
  rw [decide_eq_false_iff_not] at *
  rw [decide_eq_true_iff] at h2
  intro h3
  -- q.1 * r.2 < r.1 * q.2, r.1 * p.2 < p.1 * r.2, so q.1 * p.2 < p.1 * q.2
  apply h1
  have a1 : q.1 * r.2 * p.2 < r.1 * q.2 * p.2 := Int.mul_lt_mul_of_pos_right h2 (by omega)
  have a2 : r.1 * p.2 * q.2 < p.1 * r.2 * q.2 := Int.mul_lt_mul_of_pos_right h3 (by omega)
  have a3 : q.1 * p.2 * r.2 < p.1 * q.2 * r.2 := by
    have e1 : q.1 * p.2 * r.2 = q.1 * r.2 * p.2 := Int.mul_right_comm _ _ _
    have e2 : p.1 * q.2 * r.2 = p.1 * r.2 * q.2 := Int.mul_right_comm _ _ _
    have e3 : r.1 * q.2 * p.2 = r.1 * p.2 * q.2 := Int.mul_right_comm _ _ _
    omega
  exact Int.lt_of_mul_lt_mul_right a3 (by omega)
theorem ls_irrefl {p : Am} : lsA p p = false := by unfold lsA; rw [decide_eq_false_iff_not]; omega
/-- by now no end so far is above -/
def Kept (M : List (List Mv)) (p : Am) (e : Nat) : Prop := ∀ y : Nat, (wkR M M.length)[e]? = some (some y) → ∃ k x : Nat, k < M.length ∧ (wkR M k)[e]? = some (some x) ∧ ((y : Int) - x) * p.2 ≤ p.1 * ((M.length : Int) - k)
/-- an end that the last row reaches, an earlier one does, too -/
def Rch (M : List (List Mv)) : Prop := ∀ e y : Nat, (wkR M M.length)[e]? = some (some y) → ∃ k x : Nat, k < M.length ∧ (wkR M k)[e]? = some (some x)
theorem colR_at {M : List (List Mv)} {e i : Nat} {x : Nat} : (colR M e)[i]? = some (some x) ↔ i < M.length ∧ (wkR M i)[e]? = some (some x) := by
  unfold colR
  rw [List.getElem?_map]
  by_cases h : i < M.length
  · rw [List.getElem?_range h]
    show some ((wkR M i)[e]?).join = _ ↔ _
    cases q : (wkR M i)[e]? with
    | none => simp [h]
    | some z => cases z <;> simp [h]
  · rw [List.getElem?_eq_none (by simpa using h)]
    constructor
    · intro z; cases z
    · intro z; exact absurd z.1 h
theorem enA_of {M : List (List Mv)} {e : Nat} {q : Am} (h : enA M e = some q) : ∃ y i x : Nat, (wkR M M.length)[e]? = some (some y) ∧ i < M.length ∧ (wkR M i)[e]? = some (some x) ∧ q = ((y : Int) - x, (M.length : Int) - i) := by
  unfold enA at h
  cases z : (wkR M M.length)[e]? with
  | none => rw [z] at h; cases h
  | some o =>
    rw [z] at h
    cases o with
    | none => cases h
    | some y =>
      rcases leA_of (show leA M.length y (colR M e) 0 none = some q from h) with h | ⟨i, x, h, e2⟩
      · cases h
      · have h := colR_at.mp h
        rw [Nat.zero_add] at e2
        exact ⟨y, i, x, rfl, h.1, h.2, e2⟩
theorem enA_some {M : List (List Mv)} {e y k x : Nat} (hy : (wkR M M.length)[e]? = some (some y)) (hk : k < M.length) (hx : (wkR M k)[e]? = some (some x)) : ∃ q, enA M e = some q := by
  have : (enA M e).isSome = true := by
    unfold enA
    rw [hy]
    exact leA_some (.inr ⟨k, x, colR_at.mpr ⟨hk, hx⟩⟩)
  exact Option.isSome_iff_exists.mp this
theorem beA_keeps {M : List (List Mv)} (hl : M.length ≤ 120) (hs : ∀ r ∈ M, ∀ m ∈ r, m.s ≤ 198) {p : Am} (w : AmW p) (e : Nat) : AmW (beA M p e) ∧ ((beA M p e) = p ∨ lsA p (beA M p e) = true) := by
  unfold beA
  cases z : enA M e with
  | none => exact ⟨w, .inl rfl⟩
  | some q =>
    show AmW (if lsA p q then q else p) ∧ ((if lsA p q then q else p) = p ∨ lsA p (if lsA p q then q else p) = true)
    cases c : lsA p q with
    | false => exact ⟨w, .inl rfl⟩
    | true =>
      refine ⟨?_, .inr c⟩
      obtain ⟨y, i, x, hy, hi, hx, rfl⟩ := enA_of z
      have b1 := wkR_le hs hy
      have b3 := w.t
      have b4 := w.b
      unfold lsA at c
      rw [decide_eq_true_iff] at c
      have pos : 0 < (y : Int) - x := by
        refine Int.not_le.mp fun q => ?_
        have a1 : ((y : Int) - x) * p.2 ≤ 0 := Int.mul_nonpos_of_nonpos_of_nonneg q (by omega)
        have a2 : 0 ≤ p.1 * ((M.length : Int) - i) := Int.mul_nonneg b3 (by omega)
        have c : p.1 * ((M.length : Int) - i) < ((y : Int) - x) * p.2 := c
        omega
      exact ⟨Int.le_of_lt pos, by show 1 ≤ (M.length : Int) - i; omega, by show (y : Int) - x ≤ 30000; omega, by show (M.length : Int) - i ≤ 120; omega⟩
theorem beA_kept {M : List (List Mv)} (R : Rch M) {p : Am} (e : Nat) (wp : 1 ≤ p.2) : Kept M (beA M p e) e := by
  intro y hy
  obtain ⟨k, x, hk, hx⟩ := R e y hy
  obtain ⟨q, z⟩ := enA_some hy hk hx
  obtain ⟨y2, i, x2, hy2, hi, hx2, rfl⟩ := enA_of z
  rw [hy] at hy2
  cases hy2
  refine ⟨i, x2, hi, hx2, ?_⟩
  unfold beA
  rw [z]
  show ((y : Int) - x2) * (if lsA p _ then _ else p : Am).2 ≤ (if lsA p _ then _ else p : Am).1 * _
  split
  · exact Int.le_refl _
  · rename_i c
    unfold lsA at c
    rw [decide_eq_true_iff] at c
    exact Int.not_lt.mp c
theorem kept_up {M : List (List Mv)} {p q : Am} {e : Nat} (wp : AmW p) (wq : AmW q) (h : q = p ∨ lsA p q = true) (k : Kept M p e) : Kept M q e := by
  rcases h with rfl | h
  · exact k
  · intro y hy
    obtain ⟨i, x, h1, h2, h3⟩ := k y hy
    refine ⟨i, x, h1, h2, ?_⟩
    have c := ls_trans (p := ((y : Int) - x, (M.length : Int) - i)) (q := p) (r := q) (by show 1 ≤ (M.length : Int) - i; omega) wp.b wq.b (by unfold lsA; rw [decide_eq_false_iff_not]; exact Int.not_lt.mpr h3) h
    unfold lsA at c
    rw [decide_eq_false_iff_not] at c
    exact Int.not_lt.mp c
theorem foldA_kept {M : List (List Mv)} (R : Rch M) (hl : M.length ≤ 120) (hs : ∀ r ∈ M, ∀ m ∈ r, m.s ≤ 198) : ∀ {es : List Nat} {p : Am} {old : List Nat}, AmW p → (∀ e ∈ old, Kept M p e) → AmW (es.foldl (beA M) p) ∧ (∀ e ∈ old, Kept M (es.foldl (beA M) p) e) ∧ ∀ e ∈ es, Kept M (es.foldl (beA M) p) e
  | [], p, old, w, k => ⟨w, k, by simp⟩
  | e :: es, p, old, w, k => by
    obtain ⟨w2, q⟩ := beA_keeps hl hs w e
    have := foldA_kept R hl hs (es := es) (p := beA M p e) (old := e :: old) w2 (fun d hd => by
      rcases List.mem_cons.mp hd with rfl | hd
      · exact beA_kept R d w.b
      · exact kept_up w w2 q (k d hd))
    rw [List.foldl_cons]
    refine ⟨this.1, fun d hd => this.2.1 d (List.mem_cons_of_mem _ hd), fun d hd => ?_⟩
    rcases List.mem_cons.mp hd with rfl | hd
    · exact this.2.1 d List.mem_cons_self
    · exact this.2.2 d hd
theorem meA_w {M : List (List Mv)} (R : Rch M) (hl : M.length ≤ 120) (hs : ∀ r ∈ M, ∀ m ∈ r, m.s ≤ 198) : AmW (meA M) ∧ ∀ e, Kept M (meA M) e := by
  have := foldA_kept R hl hs (es := List.range M.length) (p := (0, 1)) (old := []) ⟨by show (0 : Int) ≤ 0; omega, by show (1 : Int) ≤ 1; omega, by show (0 : Int) ≤ 30000; omega, by show (1 : Int) ≤ 120; omega⟩ (by simp)
  refine ⟨this.1, fun e y hy => ?_⟩
  have l : e < M.length := by
    have h0 : 0 < M.length := by
      refine Nat.pos_of_ne_zero fun z => ?_
      obtain ⟨k, x, hk, _⟩ := R e y hy
      omega
    have := (List.getElem?_eq_some_iff.mp hy).1
    rw [wkR_len h0] at this
    exact this
  exact this.2.2 e (List.mem_range.mpr l) y hy
/-- the amount in least terms -/
def amN (p : Am) : Nat × Nat := (p.1.toNat / Nat.gcd p.1.toNat p.2.toNat, p.2.toNat / Nat.gcd p.1.toNat p.2.toNat)
theorem amN_krp {M : List (List Mv)} {p : Am} (w : AmW p) (K : ∀ e, Kept M p e) : Krp M (amN p).1 (amN p).2 := by
  intro v y hy
  obtain ⟨k, x, h1, h2, h3⟩ := K v y hy
  refine ⟨k, x, h1, h2, ?_⟩
  have hp := w.t
  have hb := w.b
  have g0 : 0 < Nat.gcd p.1.toNat p.2.toNat := Nat.gcd_pos_of_pos_right _ (by omega)
  have e1 : (amN p).1 * Nat.gcd p.1.toNat p.2.toNat = p.1.toNat := Nat.div_mul_cancel (Nat.gcd_dvd_left _ _)
  have e2 : (amN p).2 * Nat.gcd p.1.toNat p.2.toNat = p.2.toNat := Nat.div_mul_cancel (Nat.gcd_dvd_right _ _)
  generalize Nat.gcd p.1.toNat p.2.toNat = g at *
  generalize (amN p).1 = t at *
  generalize (amN p).2 = b at *
  have f1 : p.1 = (t : Int) * g := by rw [← Int.natCast_mul, e1]; omega
  have f2 : p.2 = (b : Int) * g := by rw [← Int.natCast_mul, e2]; omega
  rw [f1, f2] at h3
  have h4 : ((b : Int) * ((y : Int) - x)) * g ≤ ((t : Int) * ((M.length : Int) - k)) * g := by
    have a1 : ((y : Int) - x) * ((b : Int) * g) = ((b : Int) * ((y : Int) - x)) * g := by rw [Int.mul_comm, Int.mul_right_comm]
    have a2 : (t : Int) * g * ((M.length : Int) - k) = ((t : Int) * ((M.length : Int) - k)) * g := Int.mul_right_comm _ _ _
    omega
  have h5 := Int.le_of_mul_le_mul_right h4 (by omega)
  rw [Int.mul_sub, Int.mul_sub] at h5
  omega
/-! ### what the last row reaches, an earlier one does -/
def cnt (R : Rw) : Nat := R.countP Option.isSome
theorem cnt_le : ∀ {A B : Rw}, A.length = B.length → (∀ v : Nat, ((A[v]?).join : Option Nat).isSome = true → (B[v]?).join.isSome = true) → cnt A ≤ cnt B ∧ (cnt A = cnt B → ∀ v : Nat, (B[v]?).join.isSome = true → (A[v]?).join.isSome = true)
  | [], [], _, _ => ⟨Nat.le_refl _, fun _ v h => by simpa using h⟩
  | a :: A, b :: B, l, h => by
    obtain ⟨h1, h2⟩ := cnt_le (A := A) (B := B) (by simpa using l) fun v hv => by simpa using h (v + 1) (by simpa using hv)
    have h0 := h 0
    unfold cnt at *
    rw [List.countP_cons, List.countP_cons]
    cases a with
    | none =>
      cases b with
      | none =>
        refine ⟨by simpa using h1, fun e v hv => ?_⟩
        cases v with
        | zero => simpa using hv
        | succ v => simpa using h2 (by simpa using e) v (by simpa using hv)
      | some y =>
        have : ((none : Option Nat).isSome = true) = False := by simp
        refine ⟨by simp; omega, fun e v hv => ?_⟩
        simp at e
        omega
    | some x =>
      cases b with
      | none => simp at h0
      | some y =>
        refine ⟨by simpa using h1, fun e v hv => ?_⟩
        cases v with
        | zero => rfl
        | succ v => simpa using h2 (by simpa using e) v (by simpa using hv)
theorem join_some {R : Rw} {v : Nat} : (R[v]?).join.isSome = true ↔ ∃ x, R[v]? = some (some x) := by
  cases q : R[v]? with
  | none => simp
  | some o => cases o <;> simp
section
variable {M : List (List Mv)} (hM : 0 < M.length) (hl : ∀ r ∈ M, ∀ m ∈ r, m.l < M.length) (lp : ∃ r m, M[M.length - 1]? = some r ∧ m ∈ r ∧ m.l = M.length - 1)
include hM hl lp
theorem rch_up : ∀ {n v : Nat}, ((wkR M n)[v]?).join.isSome = true → ((wkR M (n + 1))[v]?).join.isSome = true := by
  intro n
  induction n with
  | zero =>
    intro v h
    obtain ⟨x, h⟩ := join_some.mp h
    obtain ⟨r, m, h1, h2, h3⟩ := lp
    have e0 : (wkR M 0)[M.length - 1]? = some (some 0) := by
      unfold wkR
      rw [List.getElem?_append_right (by simp)]
      simp
    have ev : v = M.length - 1 := by
      unfold wkR at h
      by_cases z : v < M.length - 1
      · rw [List.getElem?_append_left (by simpa using z), List.getElem?_replicate] at h
        split at h <;> cases h
      · rw [List.getElem?_append_right (by simpa using z)] at h
        have := (List.getElem?_eq_some_iff.mp h).1
        simp at this
        omega
    obtain ⟨y, _, e⟩ := nxR_ge h1 e0 h2 (hl r (List.mem_of_getElem? h1) m h2)
    rw [ev, ← h3]
    exact join_some.mpr ⟨y, e⟩
  | succ n ih =>
    intro v h
    obtain ⟨y, h⟩ := join_some.mp h
    obtain ⟨u, r, a, m, h1, h2, h3, rfl, _⟩ := nxR_of (show (nxR M (wkR M n))[v]? = some (some y) from h)
    obtain ⟨b, h4⟩ := join_some.mp (ih (join_some.mpr ⟨a, h2⟩))
    obtain ⟨z, _, e⟩ := nxR_ge h1 h4 h3 (hl r (List.mem_of_getElem? h1) m h3)
    exact join_some.mpr ⟨z, e⟩
theorem rch_cnt : ∀ {n : Nat}, (∀ v : Nat, ((wkR M (n + 1))[v]?).join.isSome = true → ((wkR M n)[v]?).join.isSome = true) ∨ n + 1 ≤ cnt (wkR M n) := by
  intro n
  induction n with
  | zero =>
    right
    unfold cnt wkR
    rw [List.countP_append]
    simp
  | succ n ih =>
    rcases ih with h | h
    · left
      intro v hv
      obtain ⟨y, hv⟩ := join_some.mp hv
      obtain ⟨u, r, a, m, h1, h2, h3, rfl, _⟩ := nxR_of (show (nxR M (wkR M (n + 1)))[v]? = some (some y) from hv)
      obtain ⟨b, h4⟩ := join_some.mp (h u (join_some.mpr ⟨a, h2⟩))
      obtain ⟨z, _, e⟩ := nxR_ge h1 h4 h3 (hl r (List.mem_of_getElem? h1) m h3)
      exact join_some.mpr ⟨z, e⟩
    · obtain ⟨c1, c2⟩ := cnt_le (A := wkR M n) (B := wkR M (n + 1)) (by rw [wkR_len hM, wkR_len hM]) (fun v hv => rch_up hM hl lp hv)
      by_cases e : cnt (wkR M n) = cnt (wkR M (n + 1))
      · have c3 := c2 e
        left
        intro v hv
        obtain ⟨y, hv⟩ := join_some.mp hv
        obtain ⟨u, r, a, m, h1, h2, h3, rfl, _⟩ := nxR_of (show (nxR M (wkR M (n + 1)))[v]? = some (some y) from hv)
        obtain ⟨b, h4⟩ := join_some.mp (c3 u (join_some.mpr ⟨a, h2⟩))
        obtain ⟨z, _, e⟩ := nxR_ge h1 h4 h3 (hl r (List.mem_of_getElem? h1) m h3)
        exact join_some.mpr ⟨z, e⟩
      · right; omega
theorem rch : Rch M := by
  intro e y hy
  obtain ⟨n, hn⟩ : ∃ n, M.length = n + 1 := ⟨M.length - 1, by omega⟩
  have hy2 : ((wkR M (n + 1))[e]?).join.isSome = true := join_some.mpr ⟨y, by rw [← hn]; exact hy⟩
  have : ((wkR M n)[e]?).join.isSome = true := by
    rcases rch_cnt hM hl lp (n := n) with h | h
    · exact h e hy2
    · have l : (wkR M n).length = n + 1 := by rw [wkR_len hM, hn]
      have c : cnt (wkR M n) = (wkR M n).length := Nat.le_antisymm (List.countP_le_length) (by omega)
      unfold cnt at c
      rw [List.countP_eq_length] at c
      have le : e < (wkR M n).length := by
        have := (List.getElem?_eq_some_iff.mp hy).1
        rw [wkR_len hM] at this
        omega
      have := c _ (List.getElem_mem le)
      rw [List.getElem?_eq_getElem le]
      exact this
  obtain ⟨x, hx⟩ := join_some.mp this
  exact ⟨n, x, by omega, hx⟩
end

end Tv
end

section
set_option autoImplicit false
set_option maxHeartbeats 1000000
/-! Every way round can be gone from the standing of all mosts. -/
namespace Tv
open PySem
/-! ### the last standing -/
theorem numF_full {bs : List Bed} : ∀ {f : Nat}, numF f (bs.zip (bs.map Bed.most)) + 1 = bs.foldl (fun a b => a * (b.most + 1)) (f + 1) := by
  induction bs with
  | nil => intro f; rfl
  | cons b bs ih =>
    intro f
    have := ih (f := f * (b.most + 1) + b.most)
    rw [List.map_cons, List.zip_cons_cons, List.foldl_cons]
    show numF (f * (b.most + 1) + b.most) _ + 1 = _
    rw [this, show f * (b.most + 1) + b.most + 1 = (f + 1) * (b.most + 1) by rw [Nat.add_mul]; omega]
theorem movG_len {g : Gr} : (movG g).length = manyB g.beds := by unfold movG; rw [List.length_map, allG_len]
theorem num_full {g : Gr} : numG g (fullS g) = (movG g).length - 1 := by
  have : numG g (fullS g) + 1 = manyB g.beds := numF_full
  rw [movG_len]; omega
theorem movG_at {g : Gr} {s : List Nat} (w : StW g s) : (movG g)[numG g s]? = some (rowM g s) := by
  have l : numG g s < (allG g).length := by rw [allG_len]; exact numG_lt w
  obtain ⟨j, hj⟩ := List.mem_iff_getElem?.mp (allG_mem w)
  have lj : j < (allG g).length := (List.getElem?_eq_some_iff.mp hj).1
  have e := allG_at lj
  have e2 : (allG g)[j]'lj = s := (List.getElem?_eq_some_iff.mp hj).2
  rw [e2] at e
  unfold movG
  rw [List.getElem?_map, e, hj]
  rfl
theorem movG_of {g : Gr} {u : Nat} {r : List Mv} (h : (movG g)[u]? = some r) : ∃ s, StW g s ∧ numG g s = u ∧ r = rowM g s := by
  unfold movG at h
  rw [List.getElem?_map] at h
  cases q : (allG g)[u]? with
  | none => rw [q] at h; cases h
  | some s =>
    rw [q] at h
    cases h
    have l := (List.getElem?_eq_some_iff.mp q).1
    have e2 : (allG g)[u]'l = s := (List.getElem?_eq_some_iff.mp q).2
    exact ⟨s, allG_st (List.mem_of_getElem? q), by rw [← e2]; exact allG_at l, rfl⟩
theorem rowM_mem {g : Gr} {s : List Nat} {m : Mv} : m ∈ rowM g s ↔ ∃ c, c ∈ catG g ∧ mayB g s c = true ∧ m = ⟨c, soldB g s c, numG g (nextB g s c)⟩ := by
  unfold rowM
  rw [List.mem_map]
  constructor
  · rintro ⟨c, hc, rfl⟩
    rw [List.mem_filter] at hc
    exact ⟨c, hc.1, hc.2, rfl⟩
  · rintro ⟨c, h1, h2, rfl⟩
    exact ⟨c, by rw [List.mem_filter]; exact ⟨h1, h2⟩, rfl⟩
theorem num_inj {g : Gr} {s t : List Nat} (ws : StW g s) (wt : StW g t) (h : numG g s = numG g t) : s = t := by
  obtain ⟨i, hi⟩ := List.mem_iff_getElem?.mp (allG_mem ws)
  obtain ⟨j, hj⟩ := List.mem_iff_getElem?.mp (allG_mem wt)
  obtain ⟨li, ei⟩ := List.getElem?_eq_some_iff.mp hi
  obtain ⟨lj, ej⟩ := List.getElem?_eq_some_iff.mp hj
  have a := allG_at li
  have b := allG_at lj
  rw [ei] at a
  rw [ej] at b
  have : i = j := by omega
  subst this
  rw [← ei, ← ej]
theorem Wk.cons {M : List (List Mv)} {u n a v : Nat} {r : List Mv} {m : Mv} (h1 : M[u]? = some r) (h2 : m ∈ r) (q : Wk M m.l n a v) : Wk M u (n + 1) (m.s + a) v := by
  have := Wk.app (Wk.s (.z u) h1 h2) q
  rw [Nat.zero_add, Nat.zero_add, Nat.add_comm] at this
  exact this
/-- a course gone through is a walk -/
theorem wk_of {g : Gr} : ∀ {cs : List (List Nat)} {s : List Nat}, StW g s → (∀ c ∈ cs, c ∈ catG g) → goesB g s cs = true → Wk (movG g) (numG g s) cs.length (salesB g s cs).sum (numG g (endB g s cs))
  | [], s, _, _, _ => .z _
  | c :: cs, s, w, hc, h => by
    rw [goesB, Bool.and_eq_true] at h
    have := wk_of (cs := cs) (s := nextB g s c) StW.next (fun z hz => hc z (List.mem_cons_of_mem _ hz)) h.2
    exact Wk.cons (movG_at w) (m := ⟨c, soldB g s c, numG g (nextB g s c)⟩) (rowM_mem.mpr ⟨c, hc c List.mem_cons_self, h.1, rfl⟩) this
/-- a walk is a course gone through -/
theorem of_wk {g : Gr} {u n a v : Nat} (p : Wk (movG g) u n a v) {s : List Nat} (w : StW g s) (e : numG g s = u) : ∃ cs, cs.length = n ∧ (∀ c ∈ cs, c ∈ catG g) ∧ goesB g s cs = true ∧ numG g (endB g s cs) = v ∧ (salesB g s cs).sum = a := by
  induction p with
  | z => exact ⟨[], rfl, by simp, rfl, e, rfl⟩
  | s p h1 h2 ih =>
    obtain ⟨cs, l, hc, hg, he, hs⟩ := ih
    obtain ⟨t, wt, et, rfl⟩ := movG_of h1
    obtain ⟨c, c1, c2, rfl⟩ := rowM_mem.mp h2
    have q : endB g s cs = t := num_inj (end_st w) wt (by rw [he, et])
    refine ⟨cs ++ [c], by simp [l], fun z hz => ?_, ?_, ?_, ?_⟩
    · rcases List.mem_append.mp hz with hz | hz
      · exact hc z hz
      · rw [List.mem_singleton.mp hz]; exact c1
    · rw [goes_app, hg, q, goesB, c2]; rfl
    · rw [end_app, q]; rfl
    · rw [sales_app, List.sum_append, hs, q]; simp [salesB]
/-- from the standing of all mosts the same course leads to where it comes round -/
theorem mimic_at {g : Gr} {i : Nat} (hi : i < g.beds.length) {s0 : Nat} : ∀ {cs : List (List Nat)} {s z : List Nat} {k : Nat}, (gN z i = gN s i ∨ (gN z i = (bedAt g.beds i).most ∧ gN s i = min (s0 + k) (bedAt g.beds i).most)) →
    gN (endB g z cs) i = gN (endB g s cs) i ∨ (gN (endB g z cs) i = (bedAt g.beds i).most ∧ gN (endB g s cs) i = min (s0 + (k + cs.length)) (bedAt g.beds i).most)
  | [], s, z, k, h => h
  | c :: cs, s, z, k, h => by
    have := mimic_at hi (s0 := s0) (cs := cs) (s := nextB g s c) (z := nextB g z c) (k := k + 1) (by
      rw [nextB_at hi, nextB_at hi]
      by_cases q : i ∈ c
      · rw [if_pos q, if_pos q]; exact .inl rfl
      · rw [if_neg q, if_neg q]; omega)
    rw [List.length_cons, show k + (cs.length + 1) = k + 1 + cs.length by omega]
    exact this
theorem mimic {g : Gr} {cs : List (List Nat)} {s : List Nat} (w : StW g s) (hn : 0 < cs.length) (h : endB g s cs = s) : endB g (fullS g) cs = s := by
  refine st_ext (end_st full_st).len w.len fun i hi => ?_
  have l := w.le i hi
  rcases mimic_at hi (s0 := gN s i) (cs := cs) (s := s) (z := fullS g) (k := 0) (.inr ⟨full_at hi, by omega⟩) with q | ⟨q1, q2⟩
  · rw [q, h]
  · rw [h] at q2; omega
theorem movG_lt {g : Gr} (w : g.wf) : ∀ r ∈ movG g, ∀ m ∈ r, m.l < (movG g).length := (movG_w w).lt
theorem loop_last {g : Gr} : ∃ r m, (movG g)[(movG g).length - 1]? = some r ∧ m ∈ r ∧ m.l = (movG g).length - 1 := by
  have e : nextB g (fullS g) [] = fullS g := st_ext StW.next.len full_st.len fun i hi => by
    rw [nextB_at hi, full_at hi]; simp
  refine ⟨rowM g (fullS g), ⟨[], soldB g (fullS g) [], numG g (nextB g (fullS g) [])⟩, ?_, rowM_mem.mpr ⟨[], nil_catG, mayB_nil, rfl⟩, ?_⟩
  · rw [← num_full]; exact movG_at full_st
  · show numG g _ = _
    rw [e, num_full]
theorem rchG {g : Gr} (w : g.wf) : Rch (movG g) := rch (movG_pos w) (movG_lt w) loop_last
/-- the greatest mean as the program reckons it -/
def mnG (g : Gr) : Nat × Nat := amN (meA (movG g))
theorem meA_ok {g : Gr} (w : g.wf) : AmW (meA (movG g)) ∧ ∀ e, Kept (movG g) (meA (movG g)) e := meA_w (rchG w) (movG_w w).len (movG_w w).s
theorem amN_w {p : Am} (w : AmW p) : (amN p).1 ≤ 30000 ∧ 1 ≤ (amN p).2 ∧ (amN p).2 ≤ 120 := by
  have h1 := w.t; have h2 := w.b; have h3 := w.t2; have h4 := w.b2
  unfold amN
  have g0 : 0 < Nat.gcd p.1.toNat p.2.toNat := Nat.gcd_pos_of_pos_right _ (by omega)
  have d2 : Nat.gcd p.1.toNat p.2.toNat ≤ p.2.toNat := Nat.le_of_dvd (by omega) (Nat.gcd_dvd_right _ _)
  have a1 : p.1.toNat / Nat.gcd p.1.toNat p.2.toNat ≤ p.1.toNat := Nat.div_le_self _ _
  have a2 : p.2.toNat / Nat.gcd p.1.toNat p.2.toNat ≤ p.2.toNat := Nat.div_le_self _ _
  have a3 : 0 < p.2.toNat / Nat.gcd p.1.toNat p.2.toNat := Nat.div_pos d2 g0
  refine ⟨?_, ?_, ?_⟩ <;> omega
theorem mnG_w {g : Gr} (w : g.wf) : (mnG g).1 ≤ 30000 ∧ 1 ≤ (mnG g).2 ∧ (mnG g).2 ≤ 120 := amN_w (meA_ok w).1
/-- no way round sells above the mean -/
theorem round_le {g : Gr} (w : g.wf) {u n a : Nat} (hn : 0 < n) (c : Wk (movG g) u n a u) : ((mnG g).2 : Int) * a ≤ (mnG g).1 * n := by
  have lu : ∃ r, (movG g)[u]? = some r := by
    have : u < (movG g).length := by
      cases c with
      | z => omega
      | s p h1 h2 => exact movG_lt w _ (List.mem_of_getElem? h1) _ h2
    exact ⟨_, List.getElem?_eq_getElem this⟩
  obtain ⟨r, hr⟩ := lu
  obtain ⟨s, ws, es, _⟩ := movG_of hr
  obtain ⟨cs, l, hc, hg, he, _⟩ := of_wk c ws es
  have h1 : endB g s cs = s := num_inj (end_st ws) ws (by rw [he, es])
  have h2 := mimic ws (by omega) h1
  have h3 := wk_of full_st hc (goes_mono (le_full ws) (fun z hz => catG_ok w (hc z hz)) hg)
  rw [h2, es, num_full] at h3
  have ok := meA_ok w
  exact no_above (by omega) (by omega) (movG_pos w) (movG_lt w) (movG_w w).s (amN_krp ok.1 ok.2) h3 c
def hgG (g : Gr) : List Nat := hgN (movG g) (mnG g).1 (mnG g).2 (movG g).length
/-- the heights bear every move -/
theorem hgG_bear {g : Gr} (w : g.wf) {v : Nat} {r : List Mv} {m : Mv} (h : (movG g)[v]? = some r) (hm : m ∈ r) : ((mnG g).2 : Int) * m.s + gN (hgG g) m.l ≤ (mnG g).1 + gN (hgG g) v := by
  have h1 := hg_stand (M := movG g) (t := (mnG g).1) (b := (mnG g).2) (fun u n a hn c => round_le w hn c) v
  rw [hgN_at h] at h1
  have h2 := hgR_ge (t := (mnG g).1) (b := (mnG g).2) (H := hgN (movG g) (mnG g).1 (mnG g).2 (movG g).length) hm
  unfold hgG
  omega
theorem hg_le {M : List (List Mv)} {t b : Nat} (hs : ∀ r ∈ M, ∀ m ∈ r, m.s ≤ 198) (hb : b ≤ 120) : ∀ {n v : Nat}, gN (hgN M t b n) v ≤ 23760 * n
  | 0, v => by
    have : gN (hgN M t b 0) v = 0 := by
      unfold gN hgN
      rw [List.getD_eq_getElem?_getD, List.getElem?_map]
      cases M[v]? <;> rfl
    omega
  | n + 1, v => by
    cases e : M[v]? with
    | none => rw [hgN_out e]; omega
    | some r =>
      rw [hgN_at e]
      rcases hgR_of (t := t) (b := b) (H := hgN M t b n) (r := r) with z | ⟨m, hm, z⟩
      · omega
      · have h1 := hs r (List.mem_of_getElem? e) m hm
        have h2 := hg_le hs hb (t := t) (n := n) (v := m.l)
        have h3 : (b : Int) * m.s ≤ 120 * 198 := Int.mul_le_mul (by omega) (by omega) (by omega) (by omega)
        omega
end Tv
end

section
set_option autoImplicit false
set_option maxHeartbeats 1000000
/-! The walks, the mean and the heights as the program makes them. -/
namespace Tv
open PySem
def oR (R : Rw) : List D := R.map oD
def rwsD (M : List (List Mv)) (n : Nat) : List D := (List.range (n + 1)).map fun k => .lst (oR (wkR M k))
theorem rep_list {x : D} {n : Nat} : (List.replicate n [x]).flatten = List.replicate n x := by
  induction n with
  | zero => rfl
  | succ n ih => rw [List.replicate_succ, List.flatten_cons, ih]; rfl
theorem dMul_ls {x : D} {n : Nat} (hn : n ≤ 1000) : dMul (.lst [x]) (.int n) = some (.lst (List.replicate n x)) := by
  show (if _ then _ else _) = _
  rw [if_pos ⟨by omega, by omega, by simp⟩]
  congr 2
  rw [show ((n : Int)).toNat = n by omega, rep_list]
section
variable {k : Nat} {h : Hs}
theorem oR_keep {R : Rw} : ∀ x ∈ oR R, x.keep = true := fun x hx => by
  unfold oR at hx
  obtain ⟨o, _, rfl⟩ := List.mem_map.mp hx
  cases o <;> rfl
theorem oD_at {R : Rw} {n : Nat} {o : Option Nat} (e : R[n]? = some o) : L2.atI (oR R) (n : Int) = some (oD o) := by
  obtain ⟨l, e⟩ := List.getElem?_eq_some_iff.mp e
  unfold oR
  rw [atI_nat (by simpa using l), List.getElem_map, e]
theorem oR_bor {R : Rw} {n : Nat} {o : Option Nat} (e : R[n]? = some o) : ixR (.bor (oR R)) (.int n) h = .ok (oD o) h := by
  rw [ixR_bor]; show Tv.R.of (L2.atI _ _) h = _; rw [oD_at e]; rfl
theorem oR_lst {R : Rw} {n : Nat} {o : Option Nat} (e : R[n]? = some o) : ixR (.lst (oR R)) (.int n) h = .ok (oD o) h := by
  rw [ixR_lst]; show Tv.R.of (L2.atI _ _) h = _; rw [oD_at e]; rfl
theorem rws_at {M : List (List Mv)} {n j : Nat} (l : j ≤ n) : ixR (.lst (rwsD M n)) (.int j) h = .ok (.lst (oR (wkR M j))) h := by
  rw [ixR_lst]; show R.of (L2.atI _ _) h = _
  unfold rwsD
  rw [atI_nat (by simp; omega)]
  simp
theorem bor_lastD {L : List D} {x : D} : ixR (.bor (L ++ [x])) (.int (-1)) h = .ok x h := by
  rw [ixR_bor]
  show R.of (L2.atI _ _) h = _
  have e : L2.ixN (L ++ [x]).length (-1) = some L.length := by
    unfold L2.ixN
    rw [if_neg (by omega), if_pos (by simp; omega)]
    congr 1
    simp
    omega
  unfold L2.atI
  rw [e]
  simp
theorem rws_snoc {M : List (List Mv)} {n : Nat} : rwsD M (n + 1) = rwsD M n ++ [.lst (oR (nxR M (wkR M n)))] := by
  unfold rwsD
  rw [List.range_succ, List.map_append]
  rfl
theorem rws_last {M : List (List Mv)} {n : Nat} : ∃ L, rwsD M n = L ++ [.lst (oR (wkR M n))] ∧ L.length = n := by
  unfold rwsD
  rw [List.range_succ, List.map_append]
  exact ⟨_, rfl, by simp⟩
theorem mov_at {M : List (List Mv)} {n : Nat} {r : List Mv} (e : M[n]? = some r) : ixR (movD M) (.int n) h = .ok (rowD r) h := by
  obtain ⟨l, e⟩ := List.getElem?_eq_some_iff.mp e
  show R.of (L2.atI _ _) h = _
  rw [atI_nat (by simpa using l), List.getElem_map, e]
  rfl
theorem set_o {R : Rw} {n y : Nat} (l : n < R.length) : setL (oR R) (n : Int) (.int (y : Nat)) = some (oR (R.set n (some y))) := by
  unfold setL oR
  rw [show L2.ixN (R.map oD).length (n : Int) = some n by simp [L2.ixN, l]]
  show some _ = some _
  congr 1
  rw [List.map_set]
  rfl
def stO (q : List Mv × Option Nat) : List (Nat × Nat) := match q.2 with
  | none => []
  | some a => q.1.map fun m => (m.l, a + m.s)
theorem stp_eq {M : List (List Mv)} {P : Rw} : stpR M P = (M.zip P).flatMap stO := rfl
end
end Tv
end

section
set_option autoImplicit false
set_option maxHeartbeats 1000000
/-! The mean, the heights. -/
namespace Tv
open PySem
def amD (p : Am) : D := .tup [.int p.1, .int p.2]
def oA : Option Am → D
  | none => .non
  | some p => amD p
section
variable {k : Nat} {h : Hs}
@[simp] theorem amD_keep {p : Am} : (amD p).keep = true := rfl
@[simp] theorem amD_hand {p : Am} : (amD p).hand = amD p := rfl
@[simp] theorem amD_0 {p : Am} {h : Hs} : ixR (amD p) (.int 0) h = .ok (.int p.1) h := rfl
@[simp] theorem amD_1 {p : Am} {h : Hs} : ixR (amD p) (.int 1) h = .ok (.int p.2) h := rfl
@[simp] theorem amD_n {p : Am} : dIsN (amD p) = false := rfl
@[simp] theorem oA_keep {p : Option Am} : (oA p).keep = true := by cases p <;> rfl
theorem leA_bd {n y : Nat} {o : Option Nat} {j : Nat} {acc : Option Am} (hn : n ≤ 120) (hj : j < n) (ha : ∀ q, acc = some q → 0 ≤ q.2 ∧ q.2 ≤ 200) : ∀ q, leA n y [o] j acc = some q → 0 ≤ q.2 ∧ q.2 ≤ 200 := fun q h => by
  rcases leA_of h with h | ⟨i, x, h5, rfl⟩
  · exact ha q h
  · cases i with
    | zero => show 0 ≤ (n : Int) - ((j + 0 : Nat) : Int) ∧ (n : Int) - ((j + 0 : Nat) : Int) ≤ 200; omega
    | succ i => simp at h5
theorem leA_cons {n y : Nat} {o : Option Nat} {xs : List (Option Nat)} {j : Nat} {acc : Option Am} : leA n y (o :: xs) j acc = leA n y xs (j + 1) (leA n y [o] j acc) := by
  cases o <;> rfl
theorem oD_isN {o : Option Nat} : dIsN (oD o) = o.isNone := by cases o <;> rfl
def mnD (p : Nat × Nat) : D := .tup [.int p.1, .int p.2]
end
end Tv
end

section
set_option autoImplicit false
set_option maxHeartbeats 1000000
/-! Heights, scales, looks at scales. -/
namespace Tv
open PySem
section
variable {k : Nat} {h : Hs}
theorem dMax_0 {xs : List Int} : dBi .max1 [.lst (.int 0 :: xs.map .int)] = some (.int (maxL 0 xs)) := by
  show dMaxL (.int 0 :: xs.map .int) = _
  unfold dMaxL
  have : allI (.int 0 :: xs.map .int) = some (0 :: xs) := by
    have : ∀ ys : List Int, allI (ys.map .int) = some ys := fun ys => by
      induction ys with
      | nil => rfl
      | cons y ys ih => rw [List.map_cons, allI, ih]; rfl
    rw [allI, this]; rfl
  rw [this]
/-- the scale told -/
def scG (g : Gr) : D := .tup [.int (mnG g).1, .int (mnG g).2, tN (hgG g)]
/-! ### looks at scales -/
def okS (t b : Int) (H : List Nat) (i : Nat) (m : Mv) : Bool := !decide (t + gN H i < b * m.s + gN H m.l)
def bearS (t b : Int) (H : List Nat) : Nat → List (List Mv) → Bool
  | _, [] => true
  | i, r :: M => r.all (okS t b H i) && bearS t b H (i + 1) M
def isSc (M : List (List Mv)) : D → Bool
  | .tup [.int t, .int b, z] => decide (1 ≤ b) && isRw M.length z && bearS t b (toNs z) 0 M
  | _ => false
theorem isSc_3 {M : List (List Mv)} {x y z : D} : isSc M (.tup [x, y, z]) = (isW x && isW y && isSc M (.tup [x, y, z])) := by
  cases x <;> first | rfl | (cases y <;> rfl)
theorem len3 {α : Type} {xs : List α} (h : xs.length = 3) : ∃ x y z, xs = [x, y, z] := by
  match xs, h with
  | [x, y, z], _ => exact ⟨x, y, z, rfl⟩
theorem isSc_len {M : List (List Mv)} {xs : List D} (h : xs.length ≠ 3) : isSc M (.tup xs) = false := by
  match xs, h with
  | [], _ => rfl
  | [x], _ => cases x <;> rfl
  | [x, y], _ => cases x <;> cases y <;> rfl
  | [x, y, z], h => exact absurd rfl h
  | x :: y :: z :: u :: r, _ => cases x <;> cases y <;> rfl
end
end Tv
end

section
set_option autoImplicit false
set_option maxHeartbeats 1000000
/-! The law's look at scales; the told scale is one. -/
namespace Tv
open PySem
section
variable {k : Nat} {h : Hs}
theorem bearS_of {M : List (List Mv)} {t b : Int} {H : List Nat} : ∀ {rs : List (List Mv)} {i : Nat}, (∀ j r m, rs[j]? = some r → m ∈ r → b * m.s + gN H m.l ≤ t + gN H (i + j)) → bearS t b H i rs = true
  | [], _, _ => rfl
  | r :: rs, i, h => by
    rw [bearS, Bool.and_eq_true]
    refine ⟨?_, bearS_of (M := M) fun j r2 m hr hm => ?_⟩
    · rw [List.all_eq_true]
      intro m hm
      have := h 0 r m rfl hm
      unfold okS
      rw [decide_eq_false (by rw [Nat.add_zero] at this; omega)]; rfl
    · have := h (j + 1) r2 m hr hm
      rw [show i + (j + 1) = i + 1 + j by omega] at this
      exact this
theorem toNs_tN {xs : List Nat} : toNs (tN xs) = xs := by
  show (xs.map fun n : Nat => D.int n).map toN = xs
  rw [List.map_map]
  have : (toN ∘ fun n : Nat => D.int n) = id := funext fun n => toN_int
  rw [this, List.map_id]
theorem isRw_tN {xs : List Nat} : isRw xs.length (tN xs) = true := by
  show (decide ((xs.map fun n : Nat => D.int n).length = xs.length) && (xs.map fun n : Nat => D.int n).all isN0) = true
  rw [Bool.and_eq_true, List.all_eq_true]
  refine ⟨decide_eq_true (by simp), fun d hd => ?_⟩
  obtain ⟨n, _, rfl⟩ := List.mem_map.mp hd
  show decide (0 ≤ (n : Int)) = true
  exact decide_eq_true (by omega)
theorem hgG_len {g : Gr} : (hgG g).length = (movG g).length := hgN_len
theorem scG_ok {g : Gr} (w : g.wf) : isSc (movG g) (scG g) = true := by
  show (decide (1 ≤ ((mnG g).2 : Int)) && isRw (movG g).length (tN (hgG g)) && bearS (mnG g).1 (mnG g).2 (toNs (tN (hgG g))) 0 (movG g)) = true
  rw [← hgG_len, isRw_tN, toNs_tN, decide_eq_true (by have := (mnG_w w).2.1; omega)]
  refine bearS_of (M := movG g) fun j r m hr hm => ?_
  rw [Nat.zero_add]
  exact hgG_bear w hr hm
theorem hgG_le {g : Gr} (w : g.wf) : ∀ x ∈ hgG g, x ≤ 3000000 := fun x hx => by
  obtain ⟨v, hv⟩ := List.mem_iff_getElem?.mp hx
  have e := gN_some hv
  have := hg_le (t := (mnG g).1) (movG_w w).s (mnG_w w).2.2 (n := (movG g).length) (v := v)
  have l := (movG_w w).len
  rw [← e]
  unfold hgG
  omega
end
end Tv
end

section
set_option autoImplicit false
set_option maxHeartbeats 1000000
/-! The greatest mean is some round's. -/
namespace Tv
open PySem
/-! ### rows and walks -/
theorem wkR_walk {M : List (List Mv)} : ∀ {n v y : Nat}, (wkR M n)[v]? = some (some y) → Wk M (M.length - 1) n y v
  | 0, v, y, h => by
    unfold wkR at h
    by_cases z : v < M.length - 1
    · rw [List.getElem?_append_left (by simpa using z), List.getElem?_replicate] at h
      split at h <;> cases h
    · rw [List.getElem?_append_right (by simpa using z)] at h
      have l := (List.getElem?_eq_some_iff.mp h).1
      simp at l
      have e : v = M.length - 1 := by omega
      subst e
      simp at h
      subst h
      exact .z _
  | n + 1, v, y, h => by
    obtain ⟨u, r, a, m, h1, h2, h3, rfl, rfl⟩ := nxR_of (show (nxR M (wkR M n))[v]? = some (some y) from h)
    exact (wkR_walk h2).s h1 h3
theorem walk_wkR {M : List (List Mv)} (hM : 0 < M.length) (hl : ∀ r ∈ M, ∀ m ∈ r, m.l < M.length) {s n a v : Nat} (w : Wk M s n a v) (es : s = M.length - 1) : ∃ x : Nat, a ≤ x ∧ (wkR M n)[v]? = some (some x) := by
  induction w with
  | z =>
    refine ⟨0, Nat.le_refl _, ?_⟩
    unfold wkR
    subst es
    rw [List.getElem?_append_right (by simp)]
    simp
  | @s n a v r m w h1 h2 ih =>
    obtain ⟨x, hx, e⟩ := ih
    obtain ⟨y, hy, e2⟩ := nxR_ge h1 e h2 (hl r (List.mem_of_getElem? h1) m h2)
    exact ⟨y, by omega, e2⟩
/-- a walk's standings, one by one -/
theorem wk_seq {M : List (List Mv)} {u n a v : Nat} (p : Wk M u n a v) : ∃ f w : Nat → Nat, f 0 = u ∧ f n = v ∧ w 0 = 0 ∧ w n = a ∧ ∀ i d, i + d ≤ n → w i ≤ w (i + d) ∧ Wk M (f i) d (w (i + d) - w i) (f (i + d)) := by
  induction p with
  | z => exact ⟨fun _ => u, fun _ => 0, rfl, rfl, rfl, rfl, fun i d h => by
      obtain ⟨rfl, rfl⟩ : i = 0 ∧ d = 0 := by omega
      exact ⟨Nat.le_refl _, .z _⟩⟩
  | @s n a v r m p h1 h2 ih =>
    obtain ⟨f, w, f0, fn, w0, wn, hf⟩ := ih
    refine ⟨fun i => if i = n + 1 then m.l else f i, fun i => if i = n + 1 then a + m.s else w i, by simp [f0], by simp, by simp [w0], by simp, fun i d h => ?_⟩
    by_cases e : i + d = n + 1
    · cases d with
      | zero =>
        have ei : i = n + 1 := by omega
        subst ei
        simp
        exact .z _
      | succ d =>
        have l1 : i ≠ n + 1 := by omega
        obtain ⟨q1, q2⟩ := hf i d (by omega)
        have en : i + d = n := by omega
        rw [en, wn] at q1
        rw [en, wn, fn] at q2
        have := q2.s h1 h2
        simp only [e, l1, if_true, if_false]
        refine ⟨by omega, ?_⟩
        rw [show a + m.s - w i = a - w i + m.s by omega]
        exact this
    · have l1 : i ≠ n + 1 := by omega
      simp only [e, l1, if_false]
      exact hf i d (by omega)
theorem wk_last {M : List (List Mv)} (hl : ∀ r ∈ M, ∀ m ∈ r, m.l < M.length) {u n a v : Nat} (p : Wk M u n a v) (hu : u < M.length) : v < M.length := by
  cases p with
  | z => exact hu
  | s p h1 h2 => exact hl _ (List.mem_of_getElem? h1) _ h2
/-- a walk of as many years as there are standings comes round somewhere -/
theorem wk_round {M : List (List Mv)} (hl : ∀ r ∈ M, ∀ m ∈ r, m.l < M.length) {u a v : Nat} (p : Wk M u M.length a v) (hu : u < M.length) :
    ∃ x L W k b, 0 < L ∧ k + L = M.length ∧ b + W = a ∧ Wk M x L W x ∧ Wk M u k b v := by
  obtain ⟨f, w, f0, fn, w0, wn, hf⟩ := wk_seq p
  obtain ⟨i, j, h1, h2, h3⟩ := pigeon M.length f fun i hi => by
    have q := (hf 0 i (by omega)).2
    rw [Nat.zero_add, f0] at q
    exact wk_last hl q hu
  obtain ⟨d, rfl⟩ : ∃ d, j = i + d := ⟨j - i, by omega⟩
  obtain ⟨q1, q2⟩ := hf i d h2
  obtain ⟨p1, p2⟩ := hf 0 i (by omega)
  obtain ⟨r1, r2⟩ := hf (i + d) (M.length - (i + d)) (by omega)
  rw [← h3] at q2
  rw [Nat.zero_add, w0, f0, Nat.sub_zero] at p2
  rw [show i + d + (M.length - (i + d)) = M.length by omega, wn, fn, ← h3] at r2
  rw [show i + d + (M.length - (i + d)) = M.length by omega, wn] at r1
  refine ⟨f i, d, w (i + d) - w i, i + (M.length - (i + d)), w i + (a - w (i + d)), by omega, by omega, by omega, q2, p2.app r2⟩
/-! ### the least amount of an end is least -/
theorem ls_le {p q r : Am} (hp : 1 ≤ p.2) (hq : 1 ≤ q.2) (hr : 1 ≤ r.2) (h1 : lsA p q = false) (h2 : lsA q r = false) : lsA p r = false := by
  cases h : lsA p r with
  | false => rfl
  | true =>
    have := ls_trans (p := q) (q := p) (r := r) hq hp hr h1 h
    unfold lsA at *
    rw [decide_eq_false_iff_not] at *
    rw [decide_eq_true_iff] at h
    exfalso
    apply h1
    -- q ≤ p ≤ .. : p < r, r ≤ q give p < q
    have a1 : p.1 * r.2 * q.2 < r.1 * p.2 * q.2 := Int.mul_lt_mul_of_pos_right h (by omega)
    have a2 : r.1 * q.2 * p.2 ≤ q.1 * r.2 * p.2 := Int.mul_le_mul_of_nonneg_right (by omega) (by omega)
    have a3 : p.1 * q.2 * r.2 < q.1 * p.2 * r.2 := by
      have e1 : p.1 * q.2 * r.2 = p.1 * r.2 * q.2 := Int.mul_right_comm _ _ _
      have e2 : q.1 * p.2 * r.2 = q.1 * r.2 * p.2 := Int.mul_right_comm _ _ _
      have e3 : r.1 * q.2 * p.2 = r.1 * p.2 * q.2 := Int.mul_right_comm _ _ _
      omega
    exact Int.lt_of_mul_lt_mul_right a3 (by omega)
theorem leA_min {n y : Nat} : ∀ {xs : List (Option Nat)} {k : Nat} {acc : Option Am} {q : Am}, k + xs.length ≤ n → (∀ a, acc = some a → 1 ≤ a.2) → leA n y xs k acc = some q → 1 ≤ q.2 ∧ (∀ (i x : Nat), xs[i]? = some (some x) → lsA ((y : Int) - x, (n : Int) - ((k + i : Nat) : Int)) q = false) ∧ ∀ a, acc = some a → lsA a q = false
  | [], k, acc, q, l, ha, h => by
    have h : acc = some q := h
    refine ⟨ha q h, by simp, fun a e => ?_⟩
    rw [h] at e
    cases e
    exact ls_irrefl
  | none :: xs, k, acc, q, l, ha, h => by
    rw [List.length_cons] at l
    obtain ⟨h1, h2, h3⟩ := leA_min (xs := xs) (k := k + 1) (by omega) ha h
    refine ⟨h1, fun i x e => ?_, h3⟩
    cases i with
    | zero => cases e
    | succ i =>
      have := h2 i x e
      rw [show k + (i + 1) = k + 1 + i by omega]
      exact this
  | some x0 :: xs, k, acc, q, l, ha, h => by
    rw [List.length_cons] at l
    have hd : 1 ≤ ((y : Int) - (x0 : Int), (n : Int) - (k : Int)).2 := by show 1 ≤ (n : Int) - k; omega
    have rest : ∀ {acc' : Option Am}, leA n y xs (k + 1) acc' = some q → (∀ a, acc' = some a → 1 ≤ a.2) → 1 ≤ q.2 ∧ (∀ (i x : Nat), i ≠ 0 → (some x0 :: xs)[i]? = some (some x) → lsA ((y : Int) - x, (n : Int) - ((k + i : Nat) : Int)) q = false) ∧ ∀ a, acc' = some a → lsA a q = false := fun {acc'} h' ha' => by
      obtain ⟨h1, h2, h3⟩ := leA_min (xs := xs) (k := k + 1) (by omega) ha' h'
      refine ⟨h1, fun i x ne e => ?_, h3⟩
      cases i with
      | zero => exact absurd rfl ne
      | succ i =>
        have := h2 i x e
        rw [show k + (i + 1) = k + 1 + i by omega]
        exact this
    cases acc with
    | none =>
      obtain ⟨h1, h2, h3⟩ := rest (acc' := some ((y : Int) - x0, (n : Int) - k)) h (fun a e => by cases e; exact hd)
      refine ⟨h1, fun i x e => ?_, fun a e => by cases e⟩
      by_cases z : i = 0
      · subst z
        cases e
        exact h3 _ rfl
      · exact h2 i x z e
    | some a0 =>
      have d0 := ha a0 rfl
      have h : leA n y xs (k + 1) (if lsA ((y : Int) - x0, (n : Int) - k) a0 then some ((y : Int) - x0, (n : Int) - k) else some a0) = some q := h
      cases c : lsA ((y : Int) - x0, (n : Int) - k) a0 with
      | true =>
        rw [c, if_pos rfl] at h
        obtain ⟨h1, h2, h3⟩ := rest h (fun a e => by cases e; exact hd)
        have h4 := h3 _ rfl
        refine ⟨h1, fun i x e => ?_, fun a e => ?_⟩
        · by_cases z : i = 0
          · subst z
            cases e
            exact h4
          · exact h2 i x z e
        · cases e
          -- here < a0, q ≤ here
          have c2 : lsA a0 ((y : Int) - x0, (n : Int) - k) = false := by
            unfold lsA at *
            rw [decide_eq_true_iff] at c
            rw [decide_eq_false_iff_not]
            omega
          exact ls_le d0 hd h1 c2 h4
      | false =>
        rw [c, if_neg (by simp)] at h
        obtain ⟨h1, h2, h3⟩ := rest h (fun a e => by cases e; exact d0)
        have h4 := h3 _ rfl
        refine ⟨h1, fun i x e => ?_, fun a e => by cases e; exact h4⟩
        by_cases z : i = 0
        · subst z
          cases e
          exact ls_le hd d0 h1 c h4
        · exact h2 i x z e
theorem meA_from {M : List (List Mv)} : ∀ {es : List Nat} {p : Am}, es.foldl (beA M) p = p ∨ ∃ e ∈ es, enA M e = some (es.foldl (beA M) p)
  | [], p => .inl rfl
  | e :: es, p => by
    rw [List.foldl_cons]
    rcases meA_from (es := es) (p := beA M p e) with h | ⟨d, hd, h⟩
    · rw [h]
      unfold beA
      cases q : enA M e with
      | none => exact .inl rfl
      | some a =>
        show (if lsA p a then a else p) = p ∨ ∃ d ∈ e :: es, enA M d = some (if lsA p a then a else p)
        split
        · exact .inr ⟨e, List.mem_cons_self, q⟩
        · exact .inl rfl
    · exact .inr ⟨d, List.mem_cons_of_mem _ hd, h⟩
/-- some round sells the mean -/
theorem round_at {M : List (List Mv)} (hM : 0 < M.length) (hl : ∀ r ∈ M, ∀ m ∈ r, m.l < M.length) (R : Rch M) (e0 : meA M ≠ (0, 1)) : ∃ u L W : Nat, 0 < L ∧ Wk M u L W u ∧ (meA M).1 * L ≤ (meA M).2 * W := by
  rcases meA_from (M := M) (es := List.range M.length) (p := (0, 1)) with h | ⟨e, he, h⟩
  · exact absurd h e0
  · have h : enA M e = some (meA M) := h
    obtain ⟨y, i, x, hy, hi, hx, eq⟩ := enA_of h
    have hq : leA M.length y (colR M e) 0 none = some (meA M) := by
      unfold enA at h
      rw [hy] at h
      exact h
    obtain ⟨h1, h2, _⟩ := leA_min (by unfold colR; simp) (by simp) hq
    obtain ⟨u, L, W, k, b, l1, l2, l3, c1, c2⟩ := wk_round hl (wkR_walk hy) (by omega)
    obtain ⟨x2, hx2, ex2⟩ := walk_wkR hM hl c2 rfl
    have h4 := h2 k x2 (colR_at.mpr ⟨by omega, ex2⟩)
    rw [Nat.zero_add] at h4
    unfold lsA at h4
    rw [decide_eq_false_iff_not] at h4
    have h4 : ¬ ((y : Int) - x2) * (meA M).2 < (meA M).1 * ((M.length : Int) - k) := h4
    refine ⟨u, L, W, l1, c1, ?_⟩
    have e2 : (M.length : Int) - k = L := by omega
    rw [e2] at h4
    have h5 : ((y : Int) - x2) * (meA M).2 ≤ (W : Int) * (meA M).2 := Int.mul_le_mul_of_nonneg_right (by omega) (by omega)
    rw [Int.mul_comm (meA M).2]
    omega
/-! ### moves that use up the height -/
def tgB (t b : Nat) (H : List Nat) (i : Nat) (m : Mv) : Bool := decide ((b : Int) * m.s - t + gN H m.l = gN H i)
def tgM (t b : Nat) (H : List Nat) (M : List (List Mv)) : List (List Mv) := M.zipIdx.map fun p => p.1.filter (tgB t b H p.2)
theorem tgM_at {t b : Nat} {H : List Nat} {M : List (List Mv)} {v : Nat} : (tgM t b H M)[v]? = (M[v]?).map fun r => r.filter (tgB t b H v) := by
  unfold tgM
  rw [List.getElem?_map, List.getElem?_zipIdx]
  cases M[v]? <;> simp
theorem wk_slack {M : List (List Mv)} {t b : Nat} {H : List Nat} (hb : ∀ (v : Nat) (r : List Mv) (m : Mv), M[v]? = some r → m ∈ r → (b : Int) * m.s + gN H m.l ≤ t + gN H v) {u n a v : Nat} (p : Wk M u n a v) : (b : Int) * a + gN H v ≤ t * n + gN H u ∧ ((b : Int) * a + gN H v = t * n + gN H u → Wk (tgM t b H M) u n a v) := by
  induction p with
  | z => exact ⟨by simp, fun _ => .z _⟩
  | @s n a v r m p h1 h2 ih =>
    have s1 := hb v r m h1 h2
    have e1 : (b : Int) * ((a + m.s : Nat) : Int) = b * a + b * m.s := by rw [Int.natCast_add, Int.mul_add]
    have e2 : (t : Int) * ((n + 1 : Nat) : Int) = t * n + t := by rw [Int.natCast_add, Int.mul_add]; simp
    obtain ⟨i1, i2⟩ := ih
    refine ⟨by omega, fun h => ?_⟩
    have w1 := i2 (by omega)
    refine w1.s (r := r.filter (tgB t b H v)) (by rw [tgM_at, h1]; rfl) ?_
    rw [List.mem_filter]
    exact ⟨h2, decide_eq_true (by omega)⟩
theorem wk_tight {M : List (List Mv)} {t b : Nat} {H : List Nat} {u n a v : Nat} (p : Wk (tgM t b H M) u n a v) : Wk M u n a v ∧ (b : Int) * a + gN H v = t * n + gN H u := by
  induction p with
  | z => exact ⟨.z _, by simp⟩
  | @s n a v r m p h1 h2 ih =>
    rw [tgM_at] at h1
    cases q : M[v]? with
    | none => rw [q] at h1; cases h1
    | some r0 =>
      rw [q] at h1
      cases h1
      rw [List.mem_filter] at h2
      have h3 := of_decide_eq_true (show decide _ = true from h2.2)
      have e1 : (b : Int) * ((a + m.s : Nat) : Int) = b * a + b * m.s := by rw [Int.natCast_add, Int.mul_add]
      have e2 : (t : Int) * ((n + 1 : Nat) : Int) = t * n + t := by rw [Int.natCast_add, Int.mul_add]; simp
      exact ⟨ih.1.s q h2.1, by have := ih.2; omega⟩
/-- the moves that use up their heights, by the told scale -/
def tiG (g : Gr) : List (List Mv) := tgM (mnG g).1 (mnG g).2 (hgG g) (movG g)
theorem tiG_round {g : Gr} (w : g.wf) : ∃ u L W : Nat, 0 < L ∧ Wk (tiG g) u L W u := by
  have key : ∃ u L W : Nat, 0 < L ∧ Wk (movG g) u L W u ∧ ((mnG g).1 : Int) * L ≤ (mnG g).2 * W := by
    by_cases z : meA (movG g) = (0, 1)
    · obtain ⟨r, m, h1, h2, h3⟩ := loop_last (g := g)
      have e : mnG g = (0, 1) := by unfold mnG; rw [z]; rfl
      have p := Wk.s (.z ((movG g).length - 1)) h1 h2
      rw [h3] at p
      refine ⟨_, _, _, by omega, p, ?_⟩
      rw [e]
      show ((0 : Nat) : Int) * _ ≤ ((1 : Nat) : Int) * _
      omega
    · obtain ⟨u, L, W, h1, h2, h3⟩ := round_at (movG_pos w) (movG_lt w) (rchG w) z
      refine ⟨u, L, W, h1, h2, ?_⟩
      have ok := (meA_ok w).1
      have hp := ok.t
      have hb := ok.b
      have g0 : 0 < Nat.gcd (meA (movG g)).1.toNat (meA (movG g)).2.toNat := Nat.gcd_pos_of_pos_right _ (by omega)
      have e1 : (mnG g).1 * Nat.gcd (meA (movG g)).1.toNat (meA (movG g)).2.toNat = (meA (movG g)).1.toNat := Nat.div_mul_cancel (Nat.gcd_dvd_left _ _)
      have e2 : (mnG g).2 * Nat.gcd (meA (movG g)).1.toNat (meA (movG g)).2.toNat = (meA (movG g)).2.toNat := Nat.div_mul_cancel (Nat.gcd_dvd_right _ _)
      generalize Nat.gcd (meA (movG g)).1.toNat (meA (movG g)).2.toNat = d at *
      generalize (mnG g).1 = t at *
      generalize (mnG g).2 = b at *
      have f1 : (meA (movG g)).1 = (t : Int) * d := by rw [← Int.natCast_mul, e1]; omega
      have f2 : (meA (movG g)).2 = (b : Int) * d := by rw [← Int.natCast_mul, e2]; omega
      rw [f1, f2, Int.mul_right_comm, Int.mul_right_comm (b : Int)] at h3
      exact Int.le_of_mul_le_mul_right h3 (by omega)
  obtain ⟨u, L, W, h1, h2, h3⟩ := key
  have h4 := round_le w h1 h2
  refine ⟨u, L, W, h1, ?_⟩
  exact (wk_slack (H := hgG g) (fun v r m hr hm => hgG_bear w hr hm) h2).2 (by omega)
end Tv
end

section
set_option autoImplicit false
set_option maxHeartbeats 1000000
/-! Rounds. -/
namespace Tv
open PySem
section
variable {k : Nat} {h : Hs}
/-! ### tight moves -/
/-! ### walks with their courses -/
inductive Cw (M : List (List Mv)) (u : Nat) : List (List Nat) → Nat → Nat → Prop where
  | z : Cw M u [] 0 u
  | s {cs : List (List Nat)} {a v : Nat} {r : List Mv} {m : Mv} : Cw M u cs a v → M[v]? = some r → m ∈ r → Cw M u (cs ++ [m.c]) (a + m.s) m.l
theorem Cw.wk {M : List (List Mv)} {u a v : Nat} {cs : List (List Nat)} (p : Cw M u cs a v) : Wk M u cs.length a v := by
  induction p with
  | z => exact .z _
  | s p h1 h2 ih => rw [List.length_append, List.length_singleton]; exact ih.s h1 h2
/-! ### what was met -/
theorem kEq_ii {i j : Int} : kEq (.int i) (.int j) = (i == j) := rfl
def kvT (P : List Nat) : Kvs := P.map fun v : Nat => (D.int v, D.bl true)
theorem kvT_get {P : List Nat} {v : Nat} : (kGet (kvT P) (.int v)).isSome = decide (v ∈ P) := by
  induction P with
  | nil => rw [decide_eq_false (by simp)]; rfl
  | cons x P ih =>
    unfold kvT kGet at *
    rw [List.map_cons, List.find?_cons, kEq_ii]
    by_cases e : x = v
    · subst e; simp
    · have e2 : ((x : Int) == (v : Int)) = false := by rw [beq_eq_false_iff_ne]; omega
      rw [e2]
      simp only [ih]
      simp [Ne.symm e]
theorem kvT_put {P : List Nat} {v : Nat} (h : v ∉ P) : kPut (.int v) (.bl true) (kvT P) = kvT (P ++ [v]) := by
  have : ((kvT P).any fun p => kEq p.1 (.int v)) = false := by
    rw [List.any_eq_false]
    intro x hx
    obtain ⟨y, hy, rfl⟩ := List.mem_map.mp hx
    show ¬ kEq (.int y) (.int v) = true
    rw [kEq_ii]
    intro z
    have z : (y : Int) = v := eq_of_beq z
    have : y = v := by omega
    exact h (this ▸ hy)
  unfold kPut
  rw [this, if_neg (by simp)]
  unfold kvT
  rw [List.map_append]; rfl
theorem nd_le {n : Nat} {P : List Nat} (nd : P.Nodup) (h : ∀ v ∈ P, v < n) : P.length ≤ n := by
  refine Nat.not_lt.mp fun l => ?_
  obtain ⟨i, j, h1, h2, h3⟩ := pigeon n (fun i => P.getD i 0) fun i hi => by
    have li : i < P.length := by omega
    show P.getD i 0 < n
    rw [List.getD_eq_getElem?_getD, List.getElem?_eq_getElem li]
    exact h _ (List.getElem_mem li)
  have li : i < P.length := by omega
  have lj : j < P.length := by omega
  have h3 : P.getD i 0 = P.getD j 0 := h3
  rw [List.getD_eq_getElem?_getD, List.getD_eq_getElem?_getD, List.getElem?_eq_getElem li, List.getElem?_eq_getElem lj] at h3
  have h3 : P[i]'li = P[j]'lj := h3
  exact (List.pairwise_iff_getElem.mp nd) i j li lj h1 h3
/-! ### the way round -/
abbrev Itm := Nat × List (List Nat)
def itD (q : Itm) : D := .tup [.int q.1, tC q.2]
theorem dep_cs : ∀ L : List (List Nat), PyData.depthAll (D.pys (L.map tN)) ≤ 1
  | [] => Nat.zero_le _
  | x :: L => by
    rw [List.map_cons, D.pys, PyData.depthAll]
    have e : (tN x).py = .tuple ((x.map fun n : Nat => (n : Int)).map .int) := congrArg PyData.tuple py_ints
    have := dep_cs L
    rw [e, PyData.depth, depthAll_ints]
    omega
theorem itD_itp {q : Itm} : (itD q).itp = true := by
  show D.itps [.int q.1, tC q.2] = true
  have : D.itp (tC q.2) = true := by
    show D.itps (q.2.map tN) = true
    rw [itps_all, List.all_map, List.all_eq_true]
    exact fun _ _ => tNi
  rw [D.itps, D.itps, this]; rfl
theorem dep_itm : ∀ Q : List Itm, PyData.depthAll (D.pys (Q.map itD)) ≤ 3
  | [] => Nat.zero_le _
  | q :: Q => by
    rw [List.map_cons, D.pys, PyData.depthAll]
    have := dep_itm Q
    have h2 := dep_cs q.2
    have e : (itD q).py = .tuple [.int q.1, .tuple (D.pys (q.2.map tN))] := rfl
    rw [e, PyData.depth, PyData.depthAll, PyData.depthAll, PyData.depthAll, PyData.depth, PyData.depth]
    omega
theorem sound_itm {Q : List Itm} : (D.bor (Q.map itD)).sound = true := by
  have h2 : PyData.plainAll (D.pys (Q.map itD)) = true := itps_plain (by rw [itps_all, List.all_map, List.all_eq_true]; exact fun _ _ => itD_itp)
  have h1 : D.pls (Q.map itD) = true := by
    rw [D.pls_all, List.all_map, List.all_eq_true]
    intro q _
    show D.pls [.int q.1, tC q.2] = true
    rw [D.pls, D.pls, pl_tC]; rfl
  have h3 := dep_itm Q
  unfold D.sound
  have e : (D.bor (Q.map itD)).py = .list (D.pys (Q.map itD)) := rfl
  have r : (D.bor (Q.map itD)).rd = true := h1
  rw [r, e, PyData.plain, h2, PyData.depth, decide_eq_true (by omega)]
  rfl
theorem itm_ne {Q : List Itm} : dEq (.bor (Q.map itD)) (.lst []) = some Q.isEmpty := by
  show (if (D.bor (Q.map itD)).sound && (D.lst []).sound then some _ else none) = _
  rw [sound_itm]
  cases Q <;> rfl
structure Wr (T : List (List Mv)) (f : Nat) (Q : List Itm) (P : List Nat) : Prop where
  ok : ∀ q ∈ Q, q.2.length ≤ P.length ∧ ∃ a, Cw T f q.2 a q.1
  nd : P.Nodup
  lt : ∀ v ∈ P, v < T.length
  ql : Q.length ≤ P.length + 1
theorem kBl_nil {cl : Nat → List D → Hs → R D} {r : R Fl} : kBl cl .nil r = r := by
  cases r with
  | ok fl h => cases fl <;> simp
  | exc d h => rfl
  | bad => rfl
/-- all that was met is done or waits -/
structure Wc (T : List (List Mv)) (f : Nat) (Q : List Itm) (P dn : List Nat) : Prop where
  fst : f ∈ dn ∨ ∃ cs, (f, cs) ∈ Q
  met : ∀ v ∈ P, v ∈ dn ∨ ∃ cs, (v, cs) ∈ Q
  dn : ∀ v ∈ dn, ∀ (r : List Mv) (m : Mv), T[v]? = some r → m ∈ r → m.l ≠ f ∧ m.l ∈ P
end
end Tv
end

section
set_option autoImplicit false
set_option maxHeartbeats 1000000
/-! The best round; what a round sells. -/
namespace Tv
open PySem
section
variable {k : Nat} {h : Hs}
theorem tiG_len {g : Gr} : (tiG g).length = (movG g).length := by unfold tiG tgM; rw [List.length_map, List.length_zipIdx]
theorem tiG_of {g : Gr} {v : Nat} {r : List Mv} (e : (tiG g)[v]? = some r) : ∃ r0, (movG g)[v]? = some r0 ∧ (∀ m ∈ r, m ∈ r0) ∧ r.length ≤ r0.length := by
  unfold tiG at e
  rw [tgM_at] at e
  cases q : (movG g)[v]? with
  | none => rw [q] at e; cases e
  | some r0 =>
    rw [q] at e
    cases e
    exact ⟨r0, rfl, fun m hm => (List.mem_filter.mp hm).1, List.length_filter_le _ _⟩
theorem tiG_lt {g : Gr} (w : g.wf) : ∀ r ∈ tiG g, ∀ m ∈ r, m.l < (tiG g).length := fun r hr m hm => by
  obtain ⟨v, hv⟩ := List.mem_iff_getElem?.mp hr
  obtain ⟨r0, h1, h2, _⟩ := tiG_of hv
  rw [tiG_len]
  exact movG_lt w r0 (List.mem_of_getElem? h1) m (h2 m hm)
theorem tiG_rl {g : Gr} (w : g.wf) : ∀ r ∈ tiG g, r.length ≤ 20 := fun r hr => by
  obtain ⟨v, hv⟩ := List.mem_iff_getElem?.mp hr
  obtain ⟨r0, h1, _, h3⟩ := tiG_of hv
  have := (movG_w w).rl r0 (List.mem_of_getElem? h1)
  omega
/-- what a walk of tight moves is among the standings -/
theorem cw_goes {g : Gr} {s : List Nat} (ws : StW g s) {cs : List (List Nat)} {a v : Nat} (p : Cw (tiG g) (numG g s) cs a v) :
    (∀ c ∈ cs, c ∈ catG g) ∧ goesB g s cs = true ∧ numG g (endB g s cs) = v ∧ (salesB g s cs).sum = a := by
  induction p with
  | z => exact ⟨by simp, rfl, rfl, rfl⟩
  | @s cs a v r m p h1 h2 ih =>
    obtain ⟨i1, i2, i3, i4⟩ := ih
    obtain ⟨r0, q1, q2, _⟩ := tiG_of h1
    obtain ⟨t, wt, et, rfl⟩ := movG_of q1
    obtain ⟨c, hc, hm, rfl⟩ := rowM_mem.mp (q2 m h2)
    have e : endB g s cs = t := num_inj (end_st ws) wt (by rw [i3, et])
    refine ⟨fun x hx => ?_, ?_, ?_, ?_⟩
    · rcases List.mem_append.mp hx with hx | hx
      · exact i1 x hx
      · rw [List.mem_singleton.mp hx]; exact hc
    · rw [goes_app, i2, e, goesB, hm]; rfl
    · rw [end_app, e]; rfl
    · rw [sales_app, e, List.sum_append, i4, salesB, salesB, List.sum_cons]; rfl
/-- a round of the greatest mean -/
structure Rd (g : Gr) (s : List Nat) (cs : List (List Nat)) : Prop where
  st : StW g s
  ne : cs ≠ []
  len : cs.length ≤ 121
  ok : ∀ c ∈ cs, c ∈ catG g
  go : goesB g s cs = true
  rd : endB g s cs = s
  am : ((mnG g).2 : Int) * ((salesB g s cs).sum : Nat) = (mnG g).1 * cs.length
theorem rd_of {g : Gr} {s : List Nat} (ws : StW g s) {cs : List (List Nat)} {a : Nat} (ne : cs ≠ []) (l : cs.length ≤ 121) (p : Cw (tiG g) (numG g s) cs a (numG g s)) : Rd g s cs := by
  obtain ⟨h1, h2, h3, h4⟩ := cw_goes ws p
  refine ⟨ws, ne, l, h1, h2, num_inj (end_st ws) ws h3, ?_⟩
  have := (wk_tight (M := movG g) (t := (mnG g).1) (b := (mnG g).2) (H := hgG g) p.wk).2
  rw [h4]
  omega
/-! ### the law's look at a round -/
/-! ### the law's common measure -/
theorem mnG_gcd {g : Gr} (w : g.wf) : Nat.gcd (mnG g).2 (mnG g).1 = 1 := by
  have ok := (meA_ok w).1
  have hb := ok.b
  have g0 : 0 < Nat.gcd (meA (movG g)).1.toNat (meA (movG g)).2.toNat := Nat.gcd_pos_of_pos_right _ (by omega)
  rw [Nat.gcd_comm]
  show Nat.gcd (_ / _) (_ / _) = 1
  rw [Nat.gcd_div (Nat.gcd_dvd_left _ _) (Nat.gcd_dvd_right _ _), Nat.div_self g0]
end
end Tv
end

section
set_option autoImplicit false
set_option maxHeartbeats 1000000
/-! Looks at rounds; rounds drawn. -/
namespace Tv
open PySem
def csOf : D → List (List Nat)
  | .tup xs => xs.map toNs
  | _ => []
def isRdB (g : Gr) (s : List Nat) (cs : List (List Nat)) : Bool := (goneB g 0 s cs).2.2.isNone && ((goneB g 0 s cs).2.1 == s)
def isRd (g : Gr) : D → Bool
  | .tup [x, y] => isSt g x && (isCo g y && (!(csOf y).isEmpty && isRdB g (toNs x) (csOf y)))
  | _ => false
theorem isCo_of {g : Gr} (w : 1 ≤ g.beds.length) {d : D} (h : isCo g d = true) : d = tC (csOf d) ∧ (csOf d).length ≤ 150 ∧ ∀ c ∈ csOf d, CaW g c := by
  have e : d = tC (csOf d) := by
    cases d with
    | tup xs =>
      unfold isCo at h
      rw [Bool.and_eq_true, List.all_eq_true] at h
      show D.tup xs = .tup ((xs.map toNs).map tN)
      rw [List.map_map]
      congr 1
      have : ∀ ys : List D, (∀ y ∈ ys, isCa g y = true) → ys = ys.map (tN ∘ toNs) := fun ys => by
        induction ys with
        | nil => exact fun _ => rfl
        | cons y ys ih =>
          intro hy
          rw [List.map_cons, ← ih fun z hz => hy z (List.mem_cons_of_mem _ hz)]
          congr 1
          exact (isCa_of w (hy y List.mem_cons_self)).1
      exact this xs h.2
    | _ => cases h
  rw [e] at h
  exact ⟨e, (isCo_tC w).mp h⟩
theorem fit_tC {g : Gr} (w : g.wf) {cs : List (List Nat)} (wc : ∀ c ∈ cs, CaW g c) : Fit 4 (3 * cs.length) 2 (tC cs) := by
  have : ∀ cs : List (List Nat), (∀ c ∈ cs, CaW g c) → FitL 4 (3 * cs.length) 1 (cs.map tN) := fun cs => by
    induction cs with
    | nil => exact fun _ => fl_nil.mono (Nat.le_refl _) (Nat.zero_le _) (Nat.zero_le _)
    | cons c cs ih =>
      intro hc
      exact (fl_cons (fit_ca w (hc c List.mem_cons_self) (B := 4) (Nat.le_refl _)) (ih fun z hz => hc z (List.mem_cons_of_mem _ hz))).mono (Nat.le_refl _) (by rw [List.length_cons]; omega) (by omega)
  exact fit_tup (this cs wc)
theorem tC_itp {cs : List (List Nat)} : (tC cs).itp = true := by
  show D.itps (cs.map tN) = true
  rw [itps_all, List.all_map, List.all_eq_true]
  exact fun _ _ => tNi
theorem dEq_tC0 {g : Gr} (w : g.wf) {cs : List (List Nat)} (wc : ∀ c ∈ cs, CaW g c) : dEq (tC cs) (.tup []) = some cs.isEmpty := by
  have sb : (tC cs).sound = true := itp_sound tC_itp (fit_tC w wc) (by omega)
  have := dEq_tup0 (xs := cs.map tN) sb
  rw [List.isEmpty_map] at this
  exact this
theorem dEq_tt {a b : List Nat} : dEq (tN a) (tN b) = some (a == b) := by
  show (if (tN a).sound && (tN b).sound then some _ else none) = _
  rw [sound_tN, sound_tN, eqv_tN]; rfl
theorem dEq_eo {a s : List Nat} {o : Option Nat} : dEq (.tup [tN a, oD o]) (.tup [tN s, .non]) = some (o.isNone && (a == s)) := by
  have so : (D.tup [tN a, oD o]).sound = true := itp_sound (B := (a.foldl max 0) + (o.getD 0)) (w := a.length + 2) (p := 2) (by
    show D.itps [tN a, oD o] = true
    rw [itps_all]
    cases o <;> simp [tNi, oD] <;> rfl) ((fit_tup (fl_cons (fit_tN fun x hx => by
      have : ∀ (s : List Nat) (a : Nat), (∀ x ∈ s, x ≤ s.foldl max a) ∧ a ≤ s.foldl max a := fun s => by
        induction s with
        | nil => exact fun a => ⟨by simp, Nat.le_refl _⟩
        | cons y s ih =>
          intro a
          obtain ⟨i1, i2⟩ := ih (max a y)
          refine ⟨fun x hx => ?_, ?_⟩
          · rcases List.mem_cons.mp hx with rfl | hx
            · exact Nat.le_trans (Nat.le_max_right _ _) i2
            · exact i1 x hx
          · exact Nat.le_trans (Nat.le_max_left _ _) i2
      exact Nat.le_trans ((this a 0).1 x hx) (Nat.le_add_right _ _)) (fl_cons (show Fit _ 0 0 (oD o) from by
        cases o with
        | none => exact fit_non
        | some y => exact fit_int (by show y ≤ _; simp)) fl_nil))).mono (Nat.le_refl _) (by omega) (by omega)) (by omega)
  show (if (D.tup [tN a, oD o]).sound && (D.tup [tN s, .non]).sound then some _ else none) = _
  rw [so, sound_e]
  have e : (D.tup [tN s, .non]).py = .tuple [(tN s).py, .none] := rfl
  have e2 : (D.tup [tN a, oD o]).py = .tuple [(tN a).py, (oD o).py] := rfl
  rw [e, e2, PyData.eqv, PyData.eqvAll, PyData.eqvAll, PyData.eqvAll, eqv_tN]
  have : PyData.eqv (oD o).py .none = o.isNone := by cases o <;> rfl
  rw [this]
  cases (a == s) <;> cases o.isNone <;> rfl
section
variable {k : Nat} {h : Hs}
end
end Tv
end

section
set_option autoImplicit false
set_option maxHeartbeats 2000000
/-! What is said of a course, what is due. -/
namespace Tv
open PySem
def sK : Str := ⟨#[33, 32, 99, 111, 117, 114, 115, 101]⟩
def sB : Str := ⟨#[33, 32, 98, 114, 111, 107, 101, 110, 32]⟩
def sNo : Str := ⟨#[78, 111, 110, 101]⟩
theorem said4 {p : D} {h : Hs} : kSaid (.exc (.exc 4 p) h) = .ok (.str sK) h := by
  show (if wordFits (.exc 4 p) then R.ok (D.str (wordOf (.exc 4 p))) h else .bad) = _
  have e : wordOf (.exc 4 p) = sK := by
    have e : ("! " ++ "course" : Str) = sK := by decide +kernel
    exact e
  rw [e]; rfl
theorem fits16 : ∀ y < 151, wordFits (.exc 16 (.int (y : Nat))) = true := by
  have e : ((List.range 151).all fun y => wordFits (.exc 16 (.int (y : Nat)))) = true := by decide +kernel
  intro y hy
  rw [List.all_eq_true] at e
  exact e y (List.mem_range.mpr hy)
theorem said16 {y : Nat} {h : Hs} (hy : y < 151) : kSaid (.exc (.exc 16 (.int (y : Nat))) h) = .ok (.str (sB ++ PyData.shown (.int (y : Nat)))) h := by
  show (if wordFits (.exc 16 (.int (y : Nat))) then R.ok (D.str (wordOf (.exc 16 (.int (y : Nat))))) h else .bad) = _
  rw [if_pos (fits16 y hy)]
  have e : ("! broken " : Str) = sB := by decide +kernel
  show R.ok (D.str (("! broken " : Str) ++ PyData.shown (.int (y : Nat)))) h = _
  rw [e]
theorem add16 {y : Nat} (hy : y < 151) : dAdd (.str sB) (.str (PyData.shown (.int (y : Nat)))) = some (.str (sB ++ PyData.shown (.int (y : Nat)))) := by
  show ofLen _ _ = _
  have q := fits16 y hy
  unfold wordFits at q
  rw [Bool.or_eq_true, Bool.and_eq_true, Bool.and_eq_true, decide_eq_true_eq, decide_eq_true_eq] at q
  have l : (PyData.shown (.int (y : Nat))).length ≤ 1000 := by
    rcases q with ⟨_, q⟩ | ⟨_, q⟩
    · omega
    · exact of_decide_eq_true q
  unfold ofLen
  rw [if_pos]
  show (9 : Nat) + _ ≤ 16777216
  omega
theorem gone_lt {g : Gr} : ∀ {cs : List (List Nat)} {s : List Nat} {y n : Nat}, (goneB g y s cs).2.2 = some n → n < y + cs.length
  | [], _, _, _, h => by cases h
  | c :: cs, s, y, n, h => by
    rw [goneB] at h
    split at h
    · have := gone_lt (cs := cs) (y := y + 1) h
      rw [List.length_cons]; omega
    · cases h
      rw [List.length_cons]; omega
theorem gone_len {g : Gr} : ∀ {cs : List (List Nat)} {s : List Nat} {y : Nat}, (goneB g y s cs).1.length ≤ cs.length
  | [], _, _ => Nat.le_refl _
  | c :: cs, s, y => by
    rw [goneB]
    split
    · have := gone_len (g := g) (cs := cs) (s := nextB g s c) (y := y + 1)
      simp only [List.length_cons]; omega
    · simp
theorem gone_le {g : Gr} (w : g.wf) : ∀ {cs : List (List Nat)} {s : List Nat} {y : Nat}, (∀ c ∈ cs, CaW g c) → ∀ x ∈ (goneB g y s cs).1, x ≤ 198
  | [], _, _, _, x, hx => by cases hx
  | c :: cs, s, y, wc, x, hx => by
    rw [goneB] at hx
    split at hx
    · rcases List.mem_cons.mp hx with rfl | hx
      · exact sold_le w (wc c List.mem_cons_self)
      · exact gone_le w (fun d hd => wc d (List.mem_cons_of_mem _ hd)) x hx
    · cases hx
theorem gone_st {g : Gr} : ∀ {cs : List (List Nat)} {s : List Nat} {y : Nat}, StW g s → StW g (goneB g y s cs).2.1
  | [], _, _, ws => ws
  | c :: cs, s, y, ws => by
    rw [goneB]
    split
    · exact gone_st (cs := cs) StW.next
    · exact ws
theorem r_whole_way {k : Nat} {h : Hs} {g : Gr} (w : g.wf) {cs : List (List Nat)} {s : List Nat} (ws : StW g s) (wc : ∀ c ∈ cs, CaW g c) (l : cs.length ≤ 150) : runF G (k + 8) n_whole_way [g.enc, tN s, tC cs] h = match (goneB g 0 s cs).2.2 with
    | none => .ok (.tup [lN (goneB g 0 s cs).1, tN (goneB g 0 s cs).2.1]) h
    | some y => .exc (.exc 16 (.int (y : Nat))) h := by
  rw [run_eq (fn := f_whole_way) rfl]
  cases q : (goneB g 0 s cs).2.2 with
  | none => simp [f_whole_way, r_need_course w ws pl_tC, (isCo_tC w.l1).mpr ⟨l, wc⟩, r_gone_through w ws wc (by omega : cs.length ≤ 1000), goneD, q, oD]
  | some y => simp [f_whole_way, r_need_course w ws pl_tC, (isCo_tC w.l1).mpr ⟨l, wc⟩, r_gone_through w ws wc (by omega : cs.length ≤ 1000), goneD, q, oD]
section
variable {k : Nat} {h : Hs} {a b c : D}
theorem co_exc {x : D} (pa : a.pl = true) (pb : b.pl = true) (pc : c.pl = true) (e : runF G (k + 7) n_need_course [a, b, c] h = .exc x h) : runF G (k + 8) n_first_break [a, b, c] h = .exc x h ∧ runF G (k + 8) n_whole_way [a, b, c] h = .exc x h := by
  constructor
  · rw [run_eq (fn := f_first_break) rfl]
    simp [f_first_break, hand_pl pa, hand_pl pb, hand_pl pc, e]
  · rw [run_eq (fn := f_whole_way) rfl]
    simp [f_whole_way, hand_pl pa, hand_pl pb, hand_pl pc, e]
theorem way_exc {x : D} (pa : a.pl = true) (pb : b.pl = true) (pc : c.pl = true) (e : runF G (k + 8) n_whole_way [a, b, c] h = .exc x h) : runF G (k + 9) n_sales [a, b, c] h = .exc x h ∧ runF G (k + 9) n_end_of [a, b, c] h = .exc x h := by
  constructor
  · rw [run_eq (fn := f_sales) rfl]
    simp [f_sales, hand_pl pa, hand_pl pb, hand_pl pc, e]
  · rw [run_eq (fn := f_end_of) rfl]
    simp [f_end_of, hand_pl pa, hand_pl pb, hand_pl pc, e]
theorem nc_exc {x : D} (pa : a.pl = true) (pb : b.pl = true) (pc : c.pl = true) (e : runF G (k + 6) n_need_standing [a, b] h = .exc x h) : runF G (k + 7) n_need_course [a, b, c] h = .exc x h := by
  rw [run_eq (fn := f_need_course) rfl]
  simp [f_need_course, hand_pl pa, hand_pl pb, hand_pl pc, e]
structure SaidC (k : Nat) (h : Hs) (a b c : D) (m1 m2 m3 : Str) : Prop where
  fb : kSaid (runF G (k + 9) n_first_break [a, b, c] h) = .ok (.str m1) h
  sl : kSaid (runF G (k + 9) n_sales [a, b, c] h) = .ok (.str m2) h
  en : kSaid (runF G (k + 9) n_end_of [a, b, c] h) = .ok (.str m3) h
  du : runF G (k + 9) n_l_due_2 [a, b, c] h = .ok (.lst [.str m1, .str m2, .str m3]) h
theorem saidC_exc {x : D} {m : Str} (pa : a.pl = true) (pb : b.pl = true) (pc : c.pl = true) (e : ∀ k, runF G (k + 7) n_need_course [a, b, c] h = .exc x h) (s : kSaid (.exc x h) = .ok (.str m) h) (d : runF G (k + 9) n_l_due_2 [a, b, c] h = .ok (.lst [.str m, .str m, .str m]) h) : SaidC k h a b c m m m := by
  have e1 := co_exc pa pb pc (e k)
  have e2 := (co_exc pa pb pc (e (k + 1))).1
  have e3 := way_exc pa pb pc e1.2
  rw [show k + 1 + 8 = k + 9 by omega] at e2
  exact ⟨by rw [e2, s], by rw [e3.1, s], by rw [e3.2, s], d⟩
end
theorem r_dueC {k : Nat} {h : Hs} {a b c : D} (pa : a.pl = true) (pb : b.pl = true) (pc : c.pl = true) : ∃ m1 m2 m3, SaidC k h a b c m1 m2 m3 := by
  have ha := hand_pl pa; have hb := hand_pl pb; have hc := hand_pl pc
  cases g1 : isGr a with
  | false =>
    refine ⟨sG, sG, sG, saidC_exc pa pb pc (fun k => nc_exc pa pb pc (sd_exc pa pb (by rw [r_need_grounds pa, g1]; rfl))) said1 ?_⟩
    rw [run_eq (fn := f_l_due_2) rfl]
    simp [f_l_due_2, ha, hb, hc, r_l_is_grounds pa, g1, mul3]
    rfl
  | true =>
    obtain ⟨ea, w⟩ := isGr_of g1
    generalize toGr a = g at *
    subst ea
    cases g2 : isSt g b with
    | false =>
      refine ⟨sS, sS, sS, saidC_exc pa pb pc (fun k => nc_exc pa pb pc (by rw [r_need_standing w pb, g2]; rfl)) said2 ?_⟩
      rw [run_eq (fn := f_l_due_2) rfl]
      simp [f_l_due_2, ha, hb, hc, r_l_is_grounds pa, g1, r_l_is_standing w pb, g2, mul3]
      rfl
    | true =>
      obtain ⟨eb, ws⟩ := isSt_of g2
      generalize toNs b = s at *
      subst eb
      cases g3 : isCo g c with
      | false =>
        refine ⟨sK, sK, sK, saidC_exc pa pb pc (fun k => by rw [r_need_course w ws pc, g3]; rfl) said4 ?_⟩
        rw [run_eq (fn := f_l_due_2) rfl]
        simp [f_l_due_2, ha, hb, hc, r_l_is_grounds pa, g1, r_l_is_standing w pb, g2, r_l_is_course w pc, g3, mul3]
        rfl
      | true =>
        obtain ⟨ec, lc, wc⟩ := isCo_of w.l1 g3
        generalize csOf c = cs at *
        subst ec
        have e1 : runF G (k + 9) n_first_break [g.enc, tN s, tC cs] h = .ok (oD (goneB g 0 s cs).2.2) h := r_first_break (k := k + 1) w ws wc lc
        have e2 := r_whole_way (k := k) (h := h) w ws wc lc
        have eg : runF G (k + 8) n_l_gone [g.enc, tN s, tC cs] h = .ok (goneD (goneB g 0 s cs)) h := r_l_gone (k := k + 5) w ws wc (by omega)
        cases q : (goneB g 0 s cs).2.2 with
        | some y =>
          have ly : y < 151 := by have := gone_lt q; omega
          rw [q] at e2
          have e3 := way_exc pa pb pc e2
          have sy : (D.int (y : Nat)).shows = true := (fit_int (B := 151) (by omega)).shows (by decide) (by omega) (by omega)
          refine ⟨PyData.shown (.int (y : Nat)), sB ++ PyData.shown (.int (y : Nat)), sB ++ PyData.shown (.int (y : Nat)), ⟨?_, by rw [e3.1, said16 ly], by rw [e3.2, said16 ly], ?_⟩⟩
          · rw [e1, q]
            show kSaid (.ok (.int (y : Nat)) h) = _
            rw [kSaid_ok, if_pos sy]
            rfl
          · have rp : dBi .rep [.int (y : Nat)] = some (.str (PyData.shown (.int (y : Nat)))) := rep_of sy
            have a16 := add16 ly
            unfold sB at a16
            rw [run_eq (fn := f_l_due_2) rfl]
            have eo : goneD (goneB g 0 s cs) = .tup [lN (goneB g 0 s cs).1, tN (goneB g 0 s cs).2.1, .int (y : Nat)] := by unfold goneD; rw [q]; rfl
            rw [eo] at eg
            generalize lN (goneB g 0 s cs).1 = L at *
            generalize PyData.shown (.int (y : Nat)) = SY at *
            generalize ((y : Nat) : Int) = Y at *
            simp [f_l_due_2, ha, hb, hc, r_l_is_grounds pa, g1, r_l_is_standing w pb, g2, r_l_is_course w pc, g3, eg, rp, a16, dBin]
            try rfl
        | none =>
          rw [q] at e2
          have e3 : runF G (k + 9) n_sales [g.enc, tN s, tC cs] h = .ok (lN (goneB g 0 s cs).1) h := by
            rw [run_eq (fn := f_sales) rfl]
            simp [f_sales, e2]
          have e4 : runF G (k + 9) n_end_of [g.enc, tN s, tC cs] h = .ok (tN (goneB g 0 s cs).2.1) h := by
            rw [run_eq (fn := f_end_of) rfl]
            simp [f_end_of, e2]
          have ll := gone_len (g := g) (s := s) (cs := cs) (y := 0)
          have s1 : (lN (goneB g 0 s cs).1).shows = true := (fit_lst (fl_nat (B := 198) (gone_le w wc))).shows (by decide) (by omega) (by omega)
          have s2 : (tN (goneB g 0 s cs).2.1).shows = true := (fit_st w (gone_st (cs := cs) ws) (B := 5) (by omega)).shows (by decide) (by omega) (by omega)
          refine ⟨sNo, PyData.shown (lN (goneB g 0 s cs).1).py, PyData.shown (tN (goneB g 0 s cs).2.1).py, ⟨?_, by rw [e3, kSaid_ok, if_pos s1], by rw [e4, kSaid_ok, if_pos s2], ?_⟩⟩
          · rw [e1, q]
            have sn : (D.non).shows = true := (fit_non (B := 0)).shows (by decide) (by omega) (by omega)
            show kSaid (.ok .non h) = _
            rw [kSaid_ok, if_pos sn]
            have e : PyData.shown (D.non).py = sNo := by decide +kernel
            rw [e]
          · rw [run_eq (fn := f_l_due_2) rfl]
            have eo : goneD (goneB g 0 s cs) = .tup [lN (goneB g 0 s cs).1, tN (goneB g 0 s cs).2.1, .non] := by unfold goneD; rw [q]; rfl
            rw [eo] at eg
            have p1 := rep_of s1
            have p2 := rep_of s2
            have kl : (lN (goneB g 0 s cs).1).keep = true := rfl
            generalize lN (goneB g 0 s cs).1 = L at *
            simp [f_l_due_2, ha, hb, hc, r_l_is_grounds pa, g1, r_l_is_standing w pb, g2, r_l_is_course w pc, g3, eg, p1, p2, kl]
            rfl
end Tv
end

section
set_option autoImplicit false
set_option maxHeartbeats 2000000
/-! law_k21: courses break or sell. -/
namespace Tv
open PySem
/-- a thing asked with -/
def Q21 (d : D) : Prop := Fit (10 ^ 19 + 90) 2000 10 d
def QTC (t : D × D × D) : Prop := Q21 t.1 ∧ Q21 t.2.1 ∧ Q21 t.2.2
theorem Q21.keep {d : D} (q : Q21 d) : d.keep = true := keep_pl (Fit.pl q)
theorem c_gr {g : Gr} (w : g.wf) : Q21 g.enc := (fit_gr (B := 10 ^ 19 + 90) (by omega) w).mono (Nat.le_refl _) (by omega) (by omega)
theorem c_st {g : Gr} (w : g.wf) {s : List Nat} (ws : StW g s) : Q21 (tN s) := (fit_st w ws (B := 10 ^ 19 + 90) (by omega)).mono (Nat.le_refl _) (by omega) (by omega)
theorem c_co {g : Gr} (w : g.wf) {cs : List (List Nat)} (wc : ∀ c ∈ cs, CaW g c) (l : cs.length ≤ 200) : Q21 (tC cs) := (fit_tC w wc).mono (by omega) (by omega) (by omega)
theorem setC {a b c z : D} {j : Nat} (l : j < 3) (qa : Q21 a) (qb : Q21 b) (qc : Q21 c) (qz : Q21 z) : ∃ a' b' c', setL [a, b, c] (j : Int) z = some [a', b', c'] ∧ Q21 a' ∧ Q21 b' ∧ Q21 c' := by
  rcases (by omega : j = 0 ∨ j = 1 ∨ j = 2) with rfl | rfl | rfl
  · exact ⟨z, b, c, rfl, qz, qb, qc⟩
  · exact ⟨a, z, c, rfl, qa, qz, qc⟩
  · exact ⟨a, b, z, rfl, qa, qb, qz⟩
section
variable {k i : Nat} {v0 v1 v2 v3 v4 v5 v6 v7 v8 v9 v10 v11 v12 v13 v14 v15 v16 v17 v18 : Sl}
theorem s_k21_0 {h : Hs} {t : D × D × D} (qt : QTC t) :
    ∃ b13 b14 b15 b16 b17, inT (runF G (k + 9)) (.t [13, 14, 15]) b_law_k21_0 (tupT t) [v0, v1, v2, v3, v4, v5, v6, v7, v8, v9, v10, v11, v12, v13, v14, v15, v16, v17, v18] h = .ok (.nx [v0, v1, v2, v3, v4, v5, v6, v7, v8, v9, v10, v11, v12, b13, b14, b15, b16, b17, v18]) h := by
  obtain ⟨a, b, c⟩ := t
  obtain ⟨qa, qb, qc⟩ := qt
  dsimp only at qa qb qc
  obtain ⟨m1, m2, m3, e⟩ := r_dueC (k := k) (h := h) (Fit.pl qa) (Fit.pl qb) (Fit.pl qc)
  have fl : Fit (10 ^ 19 + 90) 7000 11 (.lst [a, b, c]) := (fit_lst (fl_cons qa (fl_cons qb (fl_cons qc fl_nil)))).mono (Nat.le_refl _) (by omega) (by omega)
  have er := rep_of (fl.shows (by decide) (by omega) (by omega))
  have d1 := dEq_strs (ms := [m1, m2, m3])
  simp only [List.map_cons, List.map_nil] at d1
  generalize PyData.shown (D.lst [a, b, c]).py = held at *
  refine ⟨.v a, .v b, .v c, .v (.str held), .o [.str m1, .str m2, .str m3], ?_⟩
  simp only [tupT, b_law_k21_0]
  simp [qa.keep, qb.keep, qc.keep, er, e.fb, e.sl, e.en, e.du, d1, dEq_str, show (2 : Nat) < LIM by decide, show (1 : Nat) < LIM by decide]
theorem l_k21_0 {h : Hs} {ts : List (D × D × D)} : ∀ {v13 v14 v15 v16 v17 : Sl}, (∀ t ∈ ts, QTC t) →
    ∃ b13 b14 b15 b16 b17, forB (runF G (k + 9)) (.t [13, 14, 15]) b_law_k21_0 (ts.map tupT) [v0, v1, v2, v3, v4, v5, v6, v7, v8, v9, v10, v11, v12, v13, v14, v15, v16, v17, v18] h = .ok (.nx [v0, v1, v2, v3, v4, v5, v6, v7, v8, v9, v10, v11, v12, b13, b14, b15, b16, b17, v18]) h := by
  induction ts with
  | nil => exact fun {v13 v14 v15 v16 v17} _ => ⟨_, _, _, _, _, by rw [List.map_nil, forB_nil]⟩
  | cons t ts ih =>
    intro v13 v14 v15 v16 v17 p
    obtain ⟨b13, b14, b15, b16, b17, e1⟩ := s_k21_0 (k := k) (h := h) (p t List.mem_cons_self) (v0 := v0) (v1 := v1) (v2 := v2) (v3 := v3) (v4 := v4) (v5 := v5) (v6 := v6) (v7 := v7) (v8 := v8) (v9 := v9) (v10 := v10) (v11 := v11) (v12 := v12) (v13 := v13) (v14 := v14) (v15 := v15) (v16 := v16) (v17 := v17) (v18 := v18)
    obtain ⟨c13, c14, c15, c16, c17, e2⟩ := ih (v13 := b13) (v14 := b14) (v15 := b15) (v16 := b16) (v17 := b17) fun z hz => p z (List.mem_cons_of_mem _ hz)
    refine ⟨c13, c14, c15, c16, c17, ?_⟩
    rw [List.map_cons, forB_cons, e1, kFor_nx, e2]
theorem tts_int {xs : List Nat} : D.tts (xs.map fun n : Nat => .int n) = true := by
  induction xs with
  | nil => rfl
  | cons x xs ih => rw [List.map_cons, D.tts, ih]; rfl
theorem tt_tN {xs : List Nat} : D.tt (tN xs) = true := tts_int
theorem tts_bed : ∀ {bs : List Bed}, D.tts (bs.map Bed.enc) = true
  | [] => rfl
  | b :: bs => by
    rw [List.map_cons, D.tts, tts_bed]
    show (D.tts [.int b.rest, tN b.ys] && true) = true
    show ((D.tt (.int b.rest) && (D.tt (tN b.ys) && true)) && true) = true
    rw [tt_tN]; rfl
theorem tt_tC : ∀ {cs : List (List Nat)}, D.tts (cs.map tN) = true
  | [] => rfl
  | c :: cs => by rw [List.map_cons, D.tts, tt_tC, tt_tN]; rfl
theorem tt_gr {g : Gr} : D.tt g.enc = true := by
  show (D.tts (g.beds.map Bed.enc) && (D.tt (.int g.boats) && true)) = true
  rw [tts_bed]; rfl
theorem fClf_eq {F : List D → Hs → R D} {ds xs : List D} {h : Hs} (h1 : D.tts ds = true) (e : F ds [] = .ok (.lst xs) []) (h2 : D.tts xs = true) : fClf F ds h = .ok (.lst xs) h := by
  unfold fClf
  rw [if_pos h1, e]
  dsimp only
  rw [if_pos h2]
theorem told_same {xs : List D} : dSl (.bor (xs ++ [.int 9])) none (some (-1)) = some (.lst xs) := by
  show some (D.lst (cutD (xs ++ [.int 9]) none (some (-1)))) = _
  congr 2
  have h1 : HT.sIx (xs ++ [D.int 9]).length (xs ++ [D.int 9]).length (some (-1)) = xs.length := by
    have := dSl_tm1 (xs := xs ++ [D.int 9])
    unfold HT.sIx
    simp
    omega
  unfold cutD
  rw [h1]
  have h0 : HT.sIx (xs ++ [D.int 9]).length 0 none = 0 := rfl
  rw [h0]
  simp
theorem s_k21_1 {h : Hs} {x : D} (kx : x.keep = true) (q : BoxAt h i) :
    ∃ b4 b5 b6 b7 b8 b9 b10 b11 b12 b13 b14 b15 b16 b17 b18 h', inT (runF G (k + 9)) (.n 3) b_law_k21_1 x [v0, v1, .v (.ref i), v3, v4, v5, v6, v7, v8, v9, v10, v11, v12, v13, v14, v15, v16, v17, v18] h = .ok (.nx [v0, v1, .v (.ref i), .v x, b4, b5, b6, b7, b8, b9, b10, b11, b12, b13, b14, b15, b16, b17, b18]) h' ∧ BoxAt h' i := by
  obtain ⟨g, h1, e1, w, q1⟩ := r_l_grounds (k := k + 6) q
  obtain ⟨s, h2, e2, ws, q2⟩ := r_l_standing (k := k + 7) w q1
  obtain ⟨j0, h3, e3, l3, q3⟩ := r_take (k := k + 8) (M := 4) (m := 4) rfl q2 (by omega) (by omega)
  obtain ⟨d, ed, n, ln, rfl⟩ := ix_any (h := h3) (P := fun d => ∃ n : Nat, n ≤ 40 ∧ d = .int n) (xs := [.int 0, .int 1, .int 6, .int 40]) (j := j0) (by simpa using l3) (fun x hx => by
    simp only [List.mem_cons, List.not_mem_nil, or_false] at hx
    rcases hx with rfl | rfl | rfl | rfl
    · exact ⟨0, by omega, rfl⟩
    · exact ⟨1, by omega, rfl⟩
    · exact ⟨6, by omega, rfl⟩
    · exact ⟨40, by omega, rfl⟩)
  obtain ⟨cs, h4, e4, lc, wc, gc, q4⟩ := r_l_course (k := k + 5) w ws q3 (n := n) (by omega)
  obtain ⟨at_, h5, e5, l5, q5⟩ := r_take (k := k + 8) (M := (n : Int) + 1) (m := n + 1) (by omega) q4 (by omega) (by omega)
  have lcat := catG_len w
  have pcat : 0 < (catG g).length := List.length_pos_of_mem nil_catG
  obtain ⟨j1, h6, e6, l6, q6⟩ := r_take (k := k + 8) (M := ((catG g).length : Nat)) (m := (catG g).length) rfl q5 pcat (by omega)
  have e6 : runF G (k + 9) n_l_take [.ref i, .int ((catG g).length : Nat)] h5 = .ok (.int (j1 : Nat)) h6 := e6
  have el : dLen (.lst ((catG g).map tN)) = some (.int ((catG g).length : Nat)) := by
    show some (D.int (((catG g).map tN).length : Nat)) = _
    rw [List.length_map]
  have wj := catG_ok w (List.getElem_mem l6)
  have ej : ∀ {h}, ixR (.lst ((catG g).map tN)) (.int (j1 : Nat)) h = .ok (tN ((catG g)[j1]'l6)) h := fun {h} => by
    rw [ixR_lst, ixL j1 rfl (by rw [List.length_map]; exact l6), List.getElem_map]; rfl
  generalize (catG g)[j1]'l6 = ct at wj ej
  have wt : ∀ c ∈ cs.take at_ ++ [ct] ++ cs.drop at_, CaW g c := fun c hc => by
    rcases List.mem_append.mp hc with hc | hc
    · rcases List.mem_append.mp hc with hc | hc
      · exact wc c (List.mem_of_mem_take hc)
      · rw [List.mem_singleton.mp hc]; exact wj
    · exact wc c (List.mem_of_mem_drop hc)
  have lt : (cs.take at_ ++ [ct] ++ cs.drop at_).length ≤ 100 := by simp; omega
  have s1 : dSl (tC cs) none (some (at_ : Int)) = some (tC (cs.take at_)) := by
    unfold tC; rw [dSl_to, List.map_take]
  have s2 : dSl (tC cs) (some (at_ : Int)) none = some (tC (cs.drop at_)) := by
    unfold tC; rw [dSl_from, List.map_drop]
  have a1 : dAdd (tC (cs.take at_)) (.tup [tN ct]) = some (tC (cs.take at_ ++ [ct])) := by
    have := dAdd_tt (xs := (cs.take at_).map tN) (ys := [tN ct]) (by simp; unfold LIM; omega)
    show dAdd (.tup _) _ = some (.tup ((cs.take at_ ++ [ct]).map tN))
    rw [List.map_append]
    exact this
  have a2 : dAdd (tC (cs.take at_ ++ [ct])) (tC (cs.drop at_)) = some (tC (cs.take at_ ++ [ct] ++ cs.drop at_)) := by
    have := dAdd_tt (xs := (cs.take at_ ++ [ct]).map tN) (ys := (cs.drop at_).map tN) (by simp; unfold LIM; omega)
    show dAdd (.tup _) (.tup _) = some (.tup ((cs.take at_ ++ [ct] ++ cs.drop at_).map tN))
    rw [List.map_append (l₁ := cs.take at_ ++ [ct])]
    exact this
  generalize hT : cs.take at_ ++ [ct] ++ cs.drop at_ = ts at *
  have rv : dRev (tC cs) = some (tC cs.reverse) := by
    show some (D.tup (cs.map tN).reverse) = some (.tup (cs.reverse.map tN))
    rw [List.map_reverse]
  have m0 : ∀ m : Nat, 1 ≤ m → m ≤ 1000 → dMul (.tup [.tup []]) (.int (m : Nat)) = some (tC (List.replicate m [])) := fun m h1 h2 => by
    show (if ([D.tup []] : List D).isEmpty = false ∧ 1 ≤ (m : Int) ∧ (m : Int) ≤ 1000 ∧ ([D.tup []] : List D).length ≤ 1000 then some (D.tup (List.replicate (m : Int).toNat [D.tup []]).flatten) else _) = _
    rw [if_pos ⟨rfl, by omega, by omega, by simp⟩]
    have : (List.replicate ((m : Int)).toNat [D.tup []]).flatten = (List.replicate m ([] : List Nat)).map tN := by
      rw [Int.toNat_natCast, List.map_replicate]
      have e : tN [] = D.tup [] := rfl
      rw [e]
      clear h1 h2
      induction m with
      | zero => rfl
      | succ m ih => rw [List.replicate_succ, List.flatten_cons, ih, List.replicate_succ]; rfl
    rw [this]
    rfl
  have m1 : dMul (.tup [.tup []]) (.int 150) = some (tC (List.replicate 150 [])) := m0 150 (by omega) (by omega)
  have m2 : dMul (.tup [.tup []]) (.int 151) = some (tC (List.replicate 151 [])) := m0 151 (by omega) (by omega)
  have wn : ∀ m, ∀ c ∈ List.replicate m ([] : List Nat), CaW g c := fun m c hc => by
    rw [List.eq_of_mem_replicate hc]; exact catG_ok w nil_catG
  obtain ⟨o1, h7, e7, f7, q7⟩ := r_l_odd (k := k + 7) q6
  obtain ⟨sp, h8, e8, f8, q8⟩ := r_l_spoil (k := k + 5) (by omega) f7 2 q7 ((fit_tC w wt).mono (show 4 ≤ 10 ^ 19 by omega) (Nat.le_refl _) (Nat.le_refl _)) tC_itp (by omega) (by omega)
  have e8 : runF G (k + 9) n_l_spoil [.ref i, tC ts, o1] h7 = .ok sp h8 := e8
  have gsp : Q21 sp := f8.mono (by omega) (by omega) (by omega)
  obtain ⟨o2, h9, e9, f9, q9⟩ := r_l_odd (k := k + 7) q8
  obtain ⟨j2, h10, e10, l10, q10⟩ := r_take (k := k + 8) (M := 3) (m := 3) rfl q9 (by omega) (by omega)
  have g2 : Q21 o2 := f9.mono (by omega) (by omega) (by omega)
  obtain ⟨x1, y1, z1, t1, qx1, qy1, qz1⟩ := setC l10 (c_gr w) (c_st w ws) (c_co w wc (by omega)) g2
  obtain ⟨o3, h11, e11, f11, q11⟩ := r_l_odd (k := k + 7) q10
  obtain ⟨j3, h12, e12, l12, q12⟩ := r_take (k := k + 8) (M := 3) (m := 3) rfl q11 (by omega) (by omega)
  have g3 : Q21 o3 := f11.mono (by omega) (by omega) (by omega)
  obtain ⟨x2, y2, z2, t2, qx2, qy2, qz2⟩ := setC l12 qx1 qy1 qz1 g3
  have qls : Q21 (.lst [.tup []]) := (fit_of (B := 10 ^ 19 + 90) (w := 2000) (p := 10) (by decide +kernel))
  have all : ∀ t ∈ [(g.enc, tN s, tC cs), (g.enc, tN s, tC ts), (g.enc, tN s, tC cs.reverse), (g.enc, tN s, tC (List.replicate 150 [])), (g.enc, tN s, tC (List.replicate 151 [])), (g.enc, tN s, .lst [.tup []]), (g.enc, tN s, sp), (x2, y2, z2)], QTC t := fun t ht => by
    simp only [List.mem_cons, List.not_mem_nil, or_false] at ht
    rcases ht with rfl | rfl | rfl | rfl | rfl | rfl | rfl | rfl
    · exact ⟨c_gr w, c_st w ws, c_co w wc (by omega)⟩
    · exact ⟨c_gr w, c_st w ws, c_co w wt (by omega)⟩
    · exact ⟨c_gr w, c_st w ws, c_co w (fun c hc => wc c (List.mem_reverse.mp hc)) (by rw [List.length_reverse]; omega)⟩
    · exact ⟨c_gr w, c_st w ws, c_co w (wn 150) (by simp)⟩
    · exact ⟨c_gr w, c_st w ws, c_co w (wn 151) (by simp)⟩
    · exact ⟨c_gr w, c_st w ws, qls⟩
    · exact ⟨c_gr w, c_st w ws, gsp⟩
    · exact ⟨qx2, qy2, qz2⟩
  have nb : (goneB g 0 s cs).2.2 = none := by rw [gone_of gc]
  have sl : ∀ {h}, runF G (k + 9) n_sales [g.enc, tN s, tC cs] h = .ok (lN (goneB g 0 s cs).1) h := fun {h} => by
    have e2 := r_whole_way (k := k) (h := h) w ws wc (by omega)
    rw [nb] at e2
    rw [run_eq (fn := f_sales) rfl]
    simp [f_sales, e2]
  have ll := gone_len (g := g) (s := s) (cs := cs) (y := 0)
  have eq1 : dEq (lN (goneB g 0 s cs).1) (lN (goneB g 0 s cs).1) = some true := by
    have pl : PyData.plain (lN (goneB g 0 s cs).1).py = true := by
      have := (itp_plain (tN_itp (xs := (goneB g 0 s cs).1)))
      exact this
    have sd : (lN (goneB g 0 s cs).1).sound = true := by
      have f := fit_lst (fl_nat (B := 198) (gone_le w wc (s := s) (y := 0)))
      unfold D.sound
      have dd := f.d
      rw [show (lN (goneB g 0 s cs).1).rd = true from f.pl, pl, decide_eq_true (show PyData.depth (lN (goneB g 0 s cs).1).py ≤ 60 by exact Nat.le_trans dd (by omega))]
      rfl
    unfold dEq
    rw [sd, PySem.SeqAt.eqv_refl_plain _ pl]
    rfl
  have cf : ∀ {h}, fClf (runF G (k + 9) n_sales) [g.enc, tN s, tC cs] h = .ok (.lst ((goneB g 0 s cs).1.map fun n : Nat => .int n)) h := fun {h} => fClf_eq (by
    show (D.tt g.enc && (D.tt (tN s) && (D.tt (tC cs) && true))) = true
    rw [tt_gr, tt_tN, show D.tt (tC cs) = true from tt_tC]; rfl) sl tts_int
  have ka : ((goneB g 0 s cs).1.map fun n : Nat => D.int n).all D.keep = true := by rw [List.all_map, List.all_eq_true]; exact fun _ _ => rfl
  have la : ((goneB g 0 s cs).1.map fun n : Nat => D.int n).length < LIM := by rw [List.length_map]; unfold LIM; omega
  have ts9 := told_same (xs := (goneB g 0 s cs).1.map fun n : Nat => .int n)
  obtain ⟨b13, b14, b15, b16, b17, e13⟩ := l_k21_0 (k := k) (h := h12) (v0 := v0) (v1 := v1) (v2 := .v (.ref i)) (v3 := .v x) (v4 := .v g.enc) (v5 := .v (tN s)) (v6 := .v (.int n)) (v7 := .v (tC cs)) (v8 := .v (.lst ((catG g).map tN))) (v9 := .v (.int at_)) (v10 := .v (tC ts)) (v11 := .o [tupT (g.enc, tN s, tC cs), tupT (g.enc, tN s, tC ts), tupT (g.enc, tN s, tC cs.reverse), tupT (g.enc, tN s, tC (List.replicate 150 [])), tupT (g.enc, tN s, tC (List.replicate 151 [])), tupT (g.enc, tN s, .lst [.tup []]), tupT (g.enc, tN s, sp)]) (v12 := .o [x2, y2, z2]) (v13 := v13) (v14 := v14) (v15 := v15) (v16 := v16) (v17 := v17) (v18 := v18) all
  simp only [List.map_cons, List.map_nil, tupT] at e13
  refine ⟨.v g.enc, .v (tN s), .v (.int n), .v (tC cs), .v (.lst ((catG g).map tN)), .v (.int at_), .v (tC ts), .o [tupT (g.enc, tN s, tC cs), tupT (g.enc, tN s, tC ts), tupT (g.enc, tN s, tC cs.reverse), tupT (g.enc, tN s, tC (List.replicate 150 [])), tupT (g.enc, tN s, tC (List.replicate 151 [])), tupT (g.enc, tN s, .lst [.tup []]), tupT (g.enc, tN s, sp)], .o [x2, y2, z2], b13, b14, b15, b16, b17, .o (((goneB g 0 s cs).1.map fun n : Nat => .int n) ++ [.int 9]), h12, ?_, q12⟩
  have u1 : ∀ e h, siR 12 [g.enc, tN s, tC cs] o2 e (.int j2) h = .ok (.nx (e.put 12 (.o [x1, y1, z1]))) h := fun e h => siR_int g2.keep t1
  have u2 : ∀ e h, siR 12 [x1, y1, z1] o3 e (.int j3) h = .ok (.nx (e.put 12 (.o [x2, y2, z2]))) h := fun e h => siR_int g3.keep t2
  have kt : ∀ c : List (List Nat), (tC c).keep = true := fun _ => rfl
  have kr1 := kt (List.replicate 150 [])
  have kr2 := kt (List.replicate 151 [])
  have ht : ∀ c : List (List Nat), (tC c).hand = tC c := fun _ => rfl
  have ko1 := Fit.pl f7
  have ho1 : o1.hand = o1 := hand_pl ko1
  have hg : g.enc.hand = g.enc := rfl
  have hs : (tN s).hand = tN s := rfl
  have kg : g.enc.keep = true := rfl
  have ks : (tN s).keep = true := rfl
  have kct : (tN ct).keep = true := rfl
  have lL : lN (goneB g 0 s cs).1 = .lst ((goneB g 0 s cs).1.map fun n : Nat => .int n) := rfl
  rw [lL] at sl eq1
  have kC : (D.lst ((catG g).map tN)).keep = true := rfl
  generalize (goneB g 0 s cs).1.map (fun n : Nat => D.int n) = SL at *
  have ec := r_l_catches (k := k + 8) (h := h4) w
  have ec : runF G (k + 9) n_l_catches [g.enc] h4 = .ok (.lst ((catG g).map tN)) h4 := ec
  have m7 : ∀ n : Nat, n ≤ 7 → n < LIM := fun n h => by unfold LIM; omega
  generalize tC (List.replicate 150 ([] : List Nat)) = R150 at *
  generalize tC (List.replicate 151 ([] : List Nat)) = R151 at *
  generalize hCL : D.lst ((catG g).map tN) = CL at *
  generalize ((catG g).length : Int) = NC at *
  have eN : ((n : Nat) : Int) + 1 = (n : Int) + 1 := rfl
  simp only [b_law_k21_1, inT_p, putT_n, kx, putN_t, put_s, put_z, inP_some]
  simp [-ixR_lst, e1, e2, e3, ed, e4, ec, e5, s1, el, e6, ej, a1, s2, a2, rv, m1, m2, e7, e8, gsp.keep, e9, e10, u1, e11, e12, u2, kt, ht, ho1, hg, hs, kg, ks, kct, kC, qx1.keep, qy1.keep, qz1.keep, qx2.keep, qy2.keep, qz2.keep, tupT, dAdd_bl, kr1, kr2, show (5 : Nat) ≤ LIM by decide, show (8 : Nat) ≤ LIM by decide, m7, e13, cf, ka, la, sl, ts9, eq1]
end
section
variable {k i : Nat} {v0 v1 : Sl}
theorem l_k21_1 {xs : List Nat} : ∀ {h : Hs} {v3 v4 v5 v6 v7 v8 v9 v10 v11 v12 v13 v14 v15 v16 v17 v18 : Sl}, BoxAt h i →
    ∃ b3 b4 b5 b6 b7 b8 b9 b10 b11 b12 b13 b14 b15 b16 b17 b18 h', forB (runF G (k + 9)) (.n 3) b_law_k21_1 (xs.map fun j : Nat => .int j) [v0, v1, .v (.ref i), v3, v4, v5, v6, v7, v8, v9, v10, v11, v12, v13, v14, v15, v16, v17, v18] h = .ok (.nx [v0, v1, .v (.ref i), b3, b4, b5, b6, b7, b8, b9, b10, b11, b12, b13, b14, b15, b16, b17, b18]) h' := by
  induction xs with
  | nil => exact fun {h v3 v4 v5 v6 v7 v8 v9 v10 v11 v12 v13 v14 v15 v16 v17 v18} _ => ⟨_, _, _, _, _, _, _, _, _, _, _, _, _, _, _, _, _, by rw [List.map_nil, forB_nil]⟩
  | cons x xs ih =>
    intro h v3 v4 v5 v6 v7 v8 v9 v10 v11 v12 v13 v14 v15 v16 v17 v18 q
    obtain ⟨b4, b5, b6, b7, b8, b9, b10, b11, b12, b13, b14, b15, b16, b17, b18, h1, e1, q1⟩ := s_k21_1 (k := k) (h := h) (x := .int x) rfl q (v0 := v0) (v1 := v1) (v3 := v3) (v4 := v4) (v5 := v5) (v6 := v6) (v7 := v7) (v8 := v8) (v9 := v9) (v10 := v10) (v11 := v11) (v12 := v12) (v13 := v13) (v14 := v14) (v15 := v15) (v16 := v16) (v17 := v17) (v18 := v18)
    obtain ⟨c3, c4, c5, c6, c7, c8, c9, c10, c11, c12, c13, c14, c15, c16, c17, c18, h2, e2⟩ := ih (h := h1) (v3 := .v (.int x)) (v4 := b4) (v5 := b5) (v6 := b6) (v7 := b7) (v8 := b8) (v9 := b9) (v10 := b10) (v11 := b11) (v12 := b12) (v13 := b13) (v14 := b14) (v15 := b15) (v16 := b16) (v17 := b17) (v18 := b18) q1
    refine ⟨c3, c4, c5, c6, c7, c8, c9, c10, c11, c12, c13, c14, c15, c16, c17, c18, h2, ?_⟩
    rw [List.map_cons, forB_cons, e1, kFor_nx, e2]
theorem s_k21_2 {h : Hs} {is : List Int} {m : Nat} (hm : m < 1000) {v1 v2 v3 v4 v5 v6 v7 v8 v9 v10 v11 v12 v13 v14 v15 v16 v17 v18 : Sl} :
    ∃ b2 b3 b4 b5 b6 b7 b8 b9 b10 b11 b12 b13 b14 b15 b16 b17 b18 h', inT (runF G (k + 9)) (.n 1) b_law_k21_2 (.int m) [.v (.scr (is.map .int)), v1, v2, v3, v4, v5, v6, v7, v8, v9, v10, v11, v12, v13, v14, v15, v16, v17, v18] h = .ok (.nx [.v (.scr (is.map .int)), .v (.int m), b2, b3, b4, b5, b6, b7, b8, b9, b10, b11, b12, b13, b14, b15, b16, b17, b18]) h' := by
  obtain ⟨h1, e1, q1⟩ := r_box (k := k + 8) (h := h) (is := is) hm
  obtain ⟨c3, c4, c5, c6, c7, c8, c9, c10, c11, c12, c13, c14, c15, c16, c17, c18, h2, e2⟩ := l_k21_1 (k := k) (v0 := .v (.scr (is.map .int))) (v1 := .v (.int m)) (xs := List.range 4) (h := h1) (v3 := v3) (v4 := v4) (v5 := v5) (v6 := v6) (v7 := v7) (v8 := v8) (v9 := v9) (v10 := v10) (v11 := v11) (v12 := v12) (v13 := v13) (v14 := v14) (v15 := v15) (v16 := v16) (v17 := v17) (v18 := v18) q1
  have er : itRng (.int 0) (.int 4) = some ((List.range 4).map fun i : Nat => D.int i) := itRng_nat (n := 4) (by omega)
  refine ⟨.v (.ref h.length), c3, c4, c5, c6, c7, c8, c9, c10, c11, c12, c13, c14, c15, c16, c17, c18, h2, ?_⟩
  generalize (List.range 4).map (fun i : Nat => D.int i) = R4 at *
  simp only [b_law_k21_2, inT_p, putT_n, keep_int, putN_t, put_s, put_z, inP_some]
  simp [e1, er, e2]
end
theorem l_k21_2 {k : Nat} {is : List Int} {xs : List Nat} : ∀ {h : Hs} {v1 v2 v3 v4 v5 v6 v7 v8 v9 v10 v11 v12 v13 v14 v15 v16 v17 v18 : Sl}, (∀ x ∈ xs, x < 1000) →
    ∃ b1 b2 b3 b4 b5 b6 b7 b8 b9 b10 b11 b12 b13 b14 b15 b16 b17 b18 h', forB (runF G (k + 9)) (.n 1) b_law_k21_2 (xs.map fun j : Nat => .int j) [.v (.scr (is.map .int)), v1, v2, v3, v4, v5, v6, v7, v8, v9, v10, v11, v12, v13, v14, v15, v16, v17, v18] h = .ok (.nx [.v (.scr (is.map .int)), b1, b2, b3, b4, b5, b6, b7, b8, b9, b10, b11, b12, b13, b14, b15, b16, b17, b18]) h' := by
  induction xs with
  | nil => exact fun {h v1 v2 v3 v4 v5 v6 v7 v8 v9 v10 v11 v12 v13 v14 v15 v16 v17 v18} _ => ⟨_, _, _, _, _, _, _, _, _, _, _, _, _, _, _, _, _, _, _, by rw [List.map_nil, forB_nil]⟩
  | cons x xs ih =>
    intro h v1 v2 v3 v4 v5 v6 v7 v8 v9 v10 v11 v12 v13 v14 v15 v16 v17 v18 hx
    obtain ⟨b2, b3, b4, b5, b6, b7, b8, b9, b10, b11, b12, b13, b14, b15, b16, b17, b18, h1, e1⟩ := s_k21_2 (k := k) (h := h) (is := is) (hx x List.mem_cons_self) (v1 := v1) (v2 := v2) (v3 := v3) (v4 := v4) (v5 := v5) (v6 := v6) (v7 := v7) (v8 := v8) (v9 := v9) (v10 := v10) (v11 := v11) (v12 := v12) (v13 := v13) (v14 := v14) (v15 := v15) (v16 := v16) (v17 := v17) (v18 := v18)
    obtain ⟨c1, c2, c3, c4, c5, c6, c7, c8, c9, c10, c11, c12, c13, c14, c15, c16, c17, c18, h2, e2⟩ := ih (h := h1) (v1 := .v (.int x)) (v2 := b2) (v3 := b3) (v4 := b4) (v5 := b5) (v6 := b6) (v7 := b7) (v8 := b8) (v9 := b9) (v10 := b10) (v11 := b11) (v12 := b12) (v13 := b13) (v14 := b14) (v15 := b15) (v16 := b16) (v17 := b17) (v18 := b18) fun y hy => hx y (List.mem_cons_of_mem _ hy)
    refine ⟨c1, c2, c3, c4, c5, c6, c7, c8, c9, c10, c11, c12, c13, c14, c15, c16, c17, c18, h2, ?_⟩
    rw [List.map_cons, forB_cons, e1, kFor_nx, e2]
theorem p_k21 (k : Nat) (is : List Int) (h : Hs) : ∃ h', runF G (k + 10) n_law_k21 [.scr (is.map .int)] h = .ok (.bl true) h' := by
  rw [run_eq (fn := f_law_k21) rfl]
  obtain ⟨m, em, lm⟩ : ∃ m : Nat, (if (if (3 : Int) < (is.length : Int) then (3 : Int) else (is.length : Int)) > 1 then (if (3 : Int) < (is.length : Int) then (3 : Int) else (is.length : Int)) else 1) = (m : Int) ∧ m ≤ 3 := by
    refine ⟨max 1 (min is.length 3), ?_, by omega⟩
    split <;> (try split) <;> omega
  obtain ⟨c1, c2, c3, c4, c5, c6, c7, c8, c9, c10, c11, c12, c13, c14, c15, c16, c17, c18, h2, e2⟩ := l_k21_2 (k := k) (is := is) (xs := List.range m) (h := h) (v1 := .u) (v2 := .u) (v3 := .u) (v4 := .u) (v5 := .u) (v6 := .u) (v7 := .u) (v8 := .u) (v9 := .u) (v10 := .u) (v11 := .u) (v12 := .u) (v13 := .u) (v14 := .u) (v15 := .u) (v16 := .u) (v17 := .u) (v18 := .u) fun x hx => by
    have := List.mem_range.mp hx
    omega
  refine ⟨h2, ?_⟩
  have er := itRng_nat (n := m) (by omega)
  simp only [gt_iff_lt] at em
  simp [f_law_k21, em, er, e2]
end Tv
end

section
set_option maxHeartbeats 0
namespace K21
open PySem PySem.Spec PyProof.Rows L2 Tv
abbrev rowL : PySem.W.OpenLaw := PySem.Challenge.rw_shellturns_k21_courses_break_or_sell
def top (i : Nat) : Stmt := PySem.Challenge.pw_shellturns_k21_courses_break_or_sell.main.body.getD i (.Pass ⟨0, 0, 0, 0⟩)
def dfn (x : Str) (i : Nat) (dl : List He.Dv := []) : He.DefD := ⟨(x, none), x, x, defArgs (top i), defBody (top i), defScope (top i), dl, []⟩
def ent (x : Str) (i : Nat) (N ps : List Str) (k : Nat) (f : Fn) (sd bk : Bool) (dl : List He.Dv := []) : Ent := ⟨dfn x i dl, N, ps, k, f, sd, bk⟩
def es0 : List Ent := [
  ent "is_whole" 24 ["thing"] ["thing"] 0 f_is_whole false false,
  ent "is_from_to" 25 ["thing", "least", "most"] ["thing", "least", "most"] 1 f_is_from_to false false,
  ent "are_rising" 26 ["row", "one", "other"] ["row"] 12 f_are_rising false false,
  ent "is_bed" 27 ["thing", "baskets"] ["thing"] 2 f_is_bed false false,
  ent "most_of" 28 ["bed"] ["bed"] 3 f_most_of false false,
  ent "many_in" 29 ["beds", "found", "bed"] ["beds"] 4 f_many_in false false,
  ent "is_grounds" 30 ["thing", "bed"] ["thing"] 5 f_is_grounds false false,
  ent "need_grounds" 31 ["thing"] ["thing"] 6 f_need_grounds false false,
  ent "is_standing_of" 32 ["grounds", "thing", "years", "bed"] ["grounds", "thing"] 13 f_is_standing_of false false,
  ent "need_standing" 33 ["grounds", "thing"] ["grounds", "thing"] 33 f_need_standing false false,
  ent "is_catch_of" 34 ["grounds", "thing", "bed"] ["grounds", "thing"] 15 f_is_catch_of false false,
  ent "may_go" 35 ["grounds", "standing", "catch", "bed"] ["grounds", "standing", "catch"] 34 f_may_go false false,
  ent "baskets_in" 36 ["grounds", "standing", "catch", "bed"] ["grounds", "standing", "catch"] 35 f_baskets_in false false,
  ent "next_of" 37 ["grounds", "standing", "catch", "found", "number", "bed"] ["grounds", "standing", "catch"] 36 f_next_of false false,
  ent "is_course" 40 ["grounds", "thing", "catch"] ["grounds", "thing"] 47 f_is_course false false,
  ent "need_course" 41 ["grounds", "standing", "thing"] ["grounds", "standing", "thing"] 48 f_need_course false false,
  ent "gone_through" 42 ["grounds", "standing", "course", "found", "year", "catch"] ["grounds", "standing", "course"] 49 f_gone_through false false,
  ent "first_break" 43 ["grounds", "standing", "course"] ["grounds", "standing", "course"] 50 f_first_break false false,
  ent "whole_way" 44 ["grounds", "standing", "course", "found", "later", "year"] ["grounds", "standing", "course"] 51 f_whole_way false true,
  ent "sales" 45 ["grounds", "standing", "course"] ["grounds", "standing", "course"] 52 f_sales false false]
def es1 : List Ent := [
  ent "end_of" 46 ["grounds", "standing", "course"] ["grounds", "standing", "course"] 53 f_end_of false false,
  ent "_law_box" 48 ["_law_script", "_law_k", "_law_cell"] ["_law_script", "_law_k"] 9 f_l_box false false,
  ent "_law_take" 49 ["_law_box_here", "_law_many_here", "_law_digit", "_law_high"] ["_law_box_here", "_law_many_here"] 10 f_l_take false false,
  ent "_law_is_from_to" 50 ["_law_thing", "_law_least", "_law_most_here"] ["_law_thing", "_law_least", "_law_most_here"] 18 f_l_is_from_to false false,
  ent "_law_spoil" 51 ["_law_box_here", "_law_thing", "_law_odd_here", "_law_at", "_law_way", "_law_some"] ["_law_box_here", "_law_thing", "_law_odd_here"] 19 f_l_spoil false false,
  ent "_law_odd" 52 ["_law_box_here", "_law_some"] ["_law_box_here"] 20 f_l_odd false false,
  ent "_law_rising" 55 ["_law_row", "_law_one", "_law_other"] ["_law_row"] 21 f_l_rising false false,
  ent "_law_most" 56 ["_law_bed"] ["_law_bed"] 22 f_l_most false false,
  ent "_law_many" 57 ["_law_beds", "_law_found", "_law_bed"] ["_law_beds"] 23 f_l_many false false,
  ent "_law_grounds" 58 ["_law_box_here", "_law_most_here", "_law_beds", "_law_turn", "_law_yields", "_law_place"] ["_law_box_here"] 24 f_l_grounds false false,
  ent "_law_is_grounds" 59 ["_law_thing", "_law_bed", "_law_baskets"] ["_law_thing"] 25 f_l_is_grounds false false,
  ent "_law_is_standing" 60 ["_law_grounds_here", "_law_thing", "_law_years", "_law_bed"] ["_law_grounds_here", "_law_thing"] 26 f_l_is_standing false false,
  ent "_law_is_catch" 61 ["_law_grounds_here", "_law_thing", "_law_bed"] ["_law_grounds_here", "_law_thing"] 27 f_l_is_catch false false,
  ent "_law_is_course" 62 ["_law_grounds_here", "_law_thing", "_law_one"] ["_law_grounds_here", "_law_thing"] 54 f_l_is_course false false,
  ent "_law_standing" 63 ["_law_box_here", "_law_grounds_here", "_law_way", "_law_found", "_law_bed"] ["_law_box_here", "_law_grounds_here"] 28 f_l_standing false false,
  ent "_law_can" 64 ["_law_grounds_here", "_law_standing_here", "_law_catch", "_law_bed"] ["_law_grounds_here", "_law_standing_here", "_law_catch"] 42 f_l_can false false,
  ent "_law_sold" 65 ["_law_grounds_here", "_law_standing_here", "_law_catch", "_law_total", "_law_bed", "_law_rest", "_law_yields"] ["_law_grounds_here", "_law_standing_here", "_law_catch"] 43 f_l_sold false false,
  ent "_law_next" 66 ["_law_grounds_here", "_law_standing_here", "_law_catch", "_law_found", "_law_number", "_law_years", "_law_later"] ["_law_grounds_here", "_law_standing_here", "_law_catch"] 44 f_l_next false false,
  ent "_law_catches" 67 ["_law_grounds_here", "_law_found", "_law_many_here", "_law_one", "_law_other"] ["_law_grounds_here"] 29 f_l_catches false false,
  ent "_law_let" 68 ["_law_grounds_here", "_law_standing_here", "_law_catch"] ["_law_grounds_here", "_law_standing_here"] 55 f_l_let false false]
def es2 : List Ent := [
  ent "_law_course" 69 ["_law_box_here", "_law_grounds_here", "_law_standing_here", "_law_years", "_law_found", "_law_year", "_law_some", "_law_catch"] ["_law_box_here", "_law_grounds_here", "_law_standing_here", "_law_years"] 56 f_l_course false false,
  ent "_law_gone" 70 ["_law_grounds_here", "_law_standing_here", "_law_course_here", "_law_found", "_law_year", "_law_catch"] ["_law_grounds_here", "_law_standing_here", "_law_course_here"] 57 f_l_gone false false,
  ent "_law_due" 71 ["_law_grounds_here", "_law_standing_here", "_law_course_here", "_law_sold_here", "_law_later", "_law_year"] ["_law_grounds_here", "_law_standing_here", "_law_course_here"] 58 f_l_due_2 false false,
  ent "law" 72 ["_law_script", "_law_k", "_law_box_here", "_law_turn", "_law_grounds_here", "_law_standing_here", "_law_many_here", "_law_course_here", "_law_some", "_law_at", "_law_turned", "_law_asked", "_law_row", "_law_one", "_law_other", "_law_third", "_law_held", "_law_found", "_law_told"] ["_law_script"] 59 f_law_k21 true false]
def es : List Ent := es0 ++ es1 ++ es2
def glob : List (Str × Int) := [("MOST_BEDS", 4), ("MOST_REST", 3), ("MOST_YIELDS", 3), ("MOST_YIELD", 99), ("MOST_STANDINGS", 120), ("MOST_YEARS", 150)]
def excs : List (Str × Nat) := [("NoGrounds", 1), ("NoStanding", 2), ("NoCatch", 3), ("NoCourse", 4), ("NoBed", 5), ("NoNumber", 6), ("NoBook", 7), ("NoDeed", 8), ("There", 9), ("Gone", 10), ("Lacking", 11), ("Nothing", 12), ("TooMany", 13), ("NoText", 14), ("NoWord", 15)]
def lo0 : List Str := ["TurnError", "NoGrounds", "NoStanding", "NoCatch", "NoCourse", "NoBed", "NoNumber", "NoBook", "NoDeed", "There", "Gone", "Lacking", "Nothing", "TooMany", "NoText", "NoWord", "Broken", "MOST_BEDS", "MOST_REST", "MOST_YIELDS", "MOST_YIELD", "MOST_STANDINGS", "is_whole", "is_from_to", "are_rising", "is_bed", "most_of", "many_in", "is_grounds", "need_grounds"]
def lo1 : List Str := ["is_standing_of", "need_standing", "is_catch_of", "may_go", "baskets_in", "next_of", "MOST_YEARS", "is_course", "need_course", "gone_through", "first_break", "whole_way", "sales", "end_of", "_law_box", "_law_take", "_law_is_from_to", "_law_spoil", "_law_odd", "_law_word", "_law_said", "_law_rising", "_law_most", "_law_many", "_law_grounds", "_law_is_grounds", "_law_is_standing", "_law_is_catch", "_law_is_course", "_law_standing"]
def lo2 : List Str := ["_law_can", "_law_sold", "_law_next", "_law_catches", "_law_let", "_law_course", "_law_gone", "_law_due"]
def loose : List Str := lo0 ++ lo1 ++ lo2
abbrev Rw : PySem.W.OpenRow := PySem.W.OpenLaw.row rowL
abbrev qv : Program := PySem.W.view Rw.prog [72]
def inB : Stmt := match top 17 with | .ClassDef _ _ _ b _ _ _ _ _ _ _ => b.getD 0 (.Pass ⟨0, 0, 0, 0⟩) | _ => .Pass ⟨0, 0, 0, 0⟩
def dB : He.DefD := ⟨("Broken", some "__init__"), "__init__", "Broken.__init__", defArgs inB, defBody inB, defScope inB, [], []⟩
def sx : SdI := ⟨true, dfn "_law_said" 54, dfn "_law_word" 53, dB⟩
def fa : List He.Fa := faOf es glob excs ++ sx.fa
def fn : List He.DefD := es.map (·.d) ++ sx.ds
def tf : List He.Defn := [("law", none)]
def exs : PySem.W.Frag → Bool := exB_ sx excs tf
abbrev hk : PySem.W.Hook := hookV 5 fa fn tf exs
theorem run (w : World) : HandSHeadRun.RunEq Rw qv hk (obV 5 fa fn tf exs) 6000 loose w := by
  intro os
  kernel_rfl
theorem sdOk : sdB sx es excs tf = true := by kernel_rfl
theorem bS : sx.on = true → BindD sx.dS [wC] := fun _ _ _ _ _ _ _ us hl => match us, hl with | [_], _ => rfl
theorem bW : sx.on = true → BindD sx.dW [wE] := fun _ _ _ _ _ _ _ us hl => match us, hl with | [_], _ => rfl
theorem bB : sx.on = true → BindD sx.dB [bSelf, bAt] := fun _ _ _ _ _ _ _ us hl => match us, hl with | [_, _], _ => rfl
theorem cks : (es.all fun e => plainE e && entB (defsOf es) glob excs (dflOf es) e) = true := by kernel_rfl
theorem b_is_whole : BindE (ent "is_whole" 24 ["thing"] ["thing"] 0 f_is_whole false false) := ⟨fun _ _ _ _ _ _ _ us hl => match us, hl with | [_], _ => rfl, fun h => (h rfl).elim⟩
theorem b_is_from_to : BindE (ent "is_from_to" 25 ["thing", "least", "most"] ["thing", "least", "most"] 1 f_is_from_to false false) := ⟨fun _ _ _ _ _ _ _ us hl => match us, hl with | [_, _, _], _ => rfl, fun h => (h rfl).elim⟩
theorem b_are_rising : BindE (ent "are_rising" 26 ["row", "one", "other"] ["row"] 12 f_are_rising false false) := ⟨fun _ _ _ _ _ _ _ us hl => match us, hl with | [_], _ => rfl, fun h => (h rfl).elim⟩
theorem b_is_bed : BindE (ent "is_bed" 27 ["thing", "baskets"] ["thing"] 2 f_is_bed false false) := ⟨fun _ _ _ _ _ _ _ us hl => match us, hl with | [_], _ => rfl, fun h => (h rfl).elim⟩
theorem b_most_of : BindE (ent "most_of" 28 ["bed"] ["bed"] 3 f_most_of false false) := ⟨fun _ _ _ _ _ _ _ us hl => match us, hl with | [_], _ => rfl, fun h => (h rfl).elim⟩
theorem b_many_in : BindE (ent "many_in" 29 ["beds", "found", "bed"] ["beds"] 4 f_many_in false false) := ⟨fun _ _ _ _ _ _ _ us hl => match us, hl with | [_], _ => rfl, fun h => (h rfl).elim⟩
theorem b_is_grounds : BindE (ent "is_grounds" 30 ["thing", "bed"] ["thing"] 5 f_is_grounds false false) := ⟨fun _ _ _ _ _ _ _ us hl => match us, hl with | [_], _ => rfl, fun h => (h rfl).elim⟩
theorem b_need_grounds : BindE (ent "need_grounds" 31 ["thing"] ["thing"] 6 f_need_grounds false false) := ⟨fun _ _ _ _ _ _ _ us hl => match us, hl with | [_], _ => rfl, fun h => (h rfl).elim⟩
theorem b_is_standing_of : BindE (ent "is_standing_of" 32 ["grounds", "thing", "years", "bed"] ["grounds", "thing"] 13 f_is_standing_of false false) := ⟨fun _ _ _ _ _ _ _ us hl => match us, hl with | [_, _], _ => rfl, fun h => (h rfl).elim⟩
theorem b_need_standing : BindE (ent "need_standing" 33 ["grounds", "thing"] ["grounds", "thing"] 33 f_need_standing false false) := ⟨fun _ _ _ _ _ _ _ us hl => match us, hl with | [_, _], _ => rfl, fun h => (h rfl).elim⟩
theorem b_is_catch_of : BindE (ent "is_catch_of" 34 ["grounds", "thing", "bed"] ["grounds", "thing"] 15 f_is_catch_of false false) := ⟨fun _ _ _ _ _ _ _ us hl => match us, hl with | [_, _], _ => rfl, fun h => (h rfl).elim⟩
theorem b_may_go : BindE (ent "may_go" 35 ["grounds", "standing", "catch", "bed"] ["grounds", "standing", "catch"] 34 f_may_go false false) := ⟨fun _ _ _ _ _ _ _ us hl => match us, hl with | [_, _, _], _ => rfl, fun h => (h rfl).elim⟩
theorem b_baskets_in : BindE (ent "baskets_in" 36 ["grounds", "standing", "catch", "bed"] ["grounds", "standing", "catch"] 35 f_baskets_in false false) := ⟨fun _ _ _ _ _ _ _ us hl => match us, hl with | [_, _, _], _ => rfl, fun h => (h rfl).elim⟩
theorem b_next_of : BindE (ent "next_of" 37 ["grounds", "standing", "catch", "found", "number", "bed"] ["grounds", "standing", "catch"] 36 f_next_of false false) := ⟨fun _ _ _ _ _ _ _ us hl => match us, hl with | [_, _, _], _ => rfl, fun h => (h rfl).elim⟩
theorem b_is_course : BindE (ent "is_course" 40 ["grounds", "thing", "catch"] ["grounds", "thing"] 47 f_is_course false false) := ⟨fun _ _ _ _ _ _ _ us hl => match us, hl with | [_, _], _ => rfl, fun h => (h rfl).elim⟩
theorem b_need_course : BindE (ent "need_course" 41 ["grounds", "standing", "thing"] ["grounds", "standing", "thing"] 48 f_need_course false false) := ⟨fun _ _ _ _ _ _ _ us hl => match us, hl with | [_, _, _], _ => rfl, fun h => (h rfl).elim⟩
theorem b_gone_through : BindE (ent "gone_through" 42 ["grounds", "standing", "course", "found", "year", "catch"] ["grounds", "standing", "course"] 49 f_gone_through false false) := ⟨fun _ _ _ _ _ _ _ us hl => match us, hl with | [_, _, _], _ => rfl, fun h => (h rfl).elim⟩
theorem b_first_break : BindE (ent "first_break" 43 ["grounds", "standing", "course"] ["grounds", "standing", "course"] 50 f_first_break false false) := ⟨fun _ _ _ _ _ _ _ us hl => match us, hl with | [_, _, _], _ => rfl, fun h => (h rfl).elim⟩
theorem b_whole_way : BindE (ent "whole_way" 44 ["grounds", "standing", "course", "found", "later", "year"] ["grounds", "standing", "course"] 51 f_whole_way false true) := ⟨fun _ _ _ _ _ _ _ us hl => match us, hl with | [_, _, _], _ => rfl, fun h => (h rfl).elim⟩
theorem b_sales : BindE (ent "sales" 45 ["grounds", "standing", "course"] ["grounds", "standing", "course"] 52 f_sales false false) := ⟨fun _ _ _ _ _ _ _ us hl => match us, hl with | [_, _, _], _ => rfl, fun h => (h rfl).elim⟩
theorem b_end_of : BindE (ent "end_of" 46 ["grounds", "standing", "course"] ["grounds", "standing", "course"] 53 f_end_of false false) := ⟨fun _ _ _ _ _ _ _ us hl => match us, hl with | [_, _, _], _ => rfl, fun h => (h rfl).elim⟩
theorem b__law_box : BindE (ent "_law_box" 48 ["_law_script", "_law_k", "_law_cell"] ["_law_script", "_law_k"] 9 f_l_box false false) := ⟨fun _ _ _ _ _ _ _ us hl => match us, hl with | [_, _], _ => rfl, fun h => (h rfl).elim⟩
theorem b__law_take : BindE (ent "_law_take" 49 ["_law_box_here", "_law_many_here", "_law_digit", "_law_high"] ["_law_box_here", "_law_many_here"] 10 f_l_take false false) := ⟨fun _ _ _ _ _ _ _ us hl => match us, hl with | [_, _], _ => rfl, fun h => (h rfl).elim⟩
theorem b__law_is_from_to : BindE (ent "_law_is_from_to" 50 ["_law_thing", "_law_least", "_law_most_here"] ["_law_thing", "_law_least", "_law_most_here"] 18 f_l_is_from_to false false) := ⟨fun _ _ _ _ _ _ _ us hl => match us, hl with | [_, _, _], _ => rfl, fun h => (h rfl).elim⟩
theorem b__law_spoil : BindE (ent "_law_spoil" 51 ["_law_box_here", "_law_thing", "_law_odd_here", "_law_at", "_law_way", "_law_some"] ["_law_box_here", "_law_thing", "_law_odd_here"] 19 f_l_spoil false false) := ⟨fun _ _ _ _ _ _ _ us hl => match us, hl with | [_, _, _], _ => rfl, fun h => (h rfl).elim⟩
theorem b__law_odd : BindE (ent "_law_odd" 52 ["_law_box_here", "_law_some"] ["_law_box_here"] 20 f_l_odd false false) := ⟨fun _ _ _ _ _ _ _ us hl => match us, hl with | [_], _ => rfl, fun h => (h rfl).elim⟩
theorem b__law_rising : BindE (ent "_law_rising" 55 ["_law_row", "_law_one", "_law_other"] ["_law_row"] 21 f_l_rising false false) := ⟨fun _ _ _ _ _ _ _ us hl => match us, hl with | [_], _ => rfl, fun h => (h rfl).elim⟩
theorem b__law_most : BindE (ent "_law_most" 56 ["_law_bed"] ["_law_bed"] 22 f_l_most false false) := ⟨fun _ _ _ _ _ _ _ us hl => match us, hl with | [_], _ => rfl, fun h => (h rfl).elim⟩
theorem b__law_many : BindE (ent "_law_many" 57 ["_law_beds", "_law_found", "_law_bed"] ["_law_beds"] 23 f_l_many false false) := ⟨fun _ _ _ _ _ _ _ us hl => match us, hl with | [_], _ => rfl, fun h => (h rfl).elim⟩
theorem b__law_grounds : BindE (ent "_law_grounds" 58 ["_law_box_here", "_law_most_here", "_law_beds", "_law_turn", "_law_yields", "_law_place"] ["_law_box_here"] 24 f_l_grounds false false) := ⟨fun _ _ _ _ _ _ _ us hl => match us, hl with | [_], _ => rfl, fun h => (h rfl).elim⟩
theorem b__law_is_grounds : BindE (ent "_law_is_grounds" 59 ["_law_thing", "_law_bed", "_law_baskets"] ["_law_thing"] 25 f_l_is_grounds false false) := ⟨fun _ _ _ _ _ _ _ us hl => match us, hl with | [_], _ => rfl, fun h => (h rfl).elim⟩
theorem b__law_is_standing : BindE (ent "_law_is_standing" 60 ["_law_grounds_here", "_law_thing", "_law_years", "_law_bed"] ["_law_grounds_here", "_law_thing"] 26 f_l_is_standing false false) := ⟨fun _ _ _ _ _ _ _ us hl => match us, hl with | [_, _], _ => rfl, fun h => (h rfl).elim⟩
theorem b__law_is_catch : BindE (ent "_law_is_catch" 61 ["_law_grounds_here", "_law_thing", "_law_bed"] ["_law_grounds_here", "_law_thing"] 27 f_l_is_catch false false) := ⟨fun _ _ _ _ _ _ _ us hl => match us, hl with | [_, _], _ => rfl, fun h => (h rfl).elim⟩
theorem b__law_is_course : BindE (ent "_law_is_course" 62 ["_law_grounds_here", "_law_thing", "_law_one"] ["_law_grounds_here", "_law_thing"] 54 f_l_is_course false false) := ⟨fun _ _ _ _ _ _ _ us hl => match us, hl with | [_, _], _ => rfl, fun h => (h rfl).elim⟩
theorem b__law_standing : BindE (ent "_law_standing" 63 ["_law_box_here", "_law_grounds_here", "_law_way", "_law_found", "_law_bed"] ["_law_box_here", "_law_grounds_here"] 28 f_l_standing false false) := ⟨fun _ _ _ _ _ _ _ us hl => match us, hl with | [_, _], _ => rfl, fun h => (h rfl).elim⟩
theorem b__law_can : BindE (ent "_law_can" 64 ["_law_grounds_here", "_law_standing_here", "_law_catch", "_law_bed"] ["_law_grounds_here", "_law_standing_here", "_law_catch"] 42 f_l_can false false) := ⟨fun _ _ _ _ _ _ _ us hl => match us, hl with | [_, _, _], _ => rfl, fun h => (h rfl).elim⟩
theorem b__law_sold : BindE (ent "_law_sold" 65 ["_law_grounds_here", "_law_standing_here", "_law_catch", "_law_total", "_law_bed", "_law_rest", "_law_yields"] ["_law_grounds_here", "_law_standing_here", "_law_catch"] 43 f_l_sold false false) := ⟨fun _ _ _ _ _ _ _ us hl => match us, hl with | [_, _, _], _ => rfl, fun h => (h rfl).elim⟩
theorem b__law_next : BindE (ent "_law_next" 66 ["_law_grounds_here", "_law_standing_here", "_law_catch", "_law_found", "_law_number", "_law_years", "_law_later"] ["_law_grounds_here", "_law_standing_here", "_law_catch"] 44 f_l_next false false) := ⟨fun _ _ _ _ _ _ _ us hl => match us, hl with | [_, _, _], _ => rfl, fun h => (h rfl).elim⟩
theorem b__law_catches : BindE (ent "_law_catches" 67 ["_law_grounds_here", "_law_found", "_law_many_here", "_law_one", "_law_other"] ["_law_grounds_here"] 29 f_l_catches false false) := ⟨fun _ _ _ _ _ _ _ us hl => match us, hl with | [_], _ => rfl, fun h => (h rfl).elim⟩
theorem b__law_let : BindE (ent "_law_let" 68 ["_law_grounds_here", "_law_standing_here", "_law_catch"] ["_law_grounds_here", "_law_standing_here"] 55 f_l_let false false) := ⟨fun _ _ _ _ _ _ _ us hl => match us, hl with | [_, _], _ => rfl, fun h => (h rfl).elim⟩
theorem b__law_course : BindE (ent "_law_course" 69 ["_law_box_here", "_law_grounds_here", "_law_standing_here", "_law_years", "_law_found", "_law_year", "_law_some", "_law_catch"] ["_law_box_here", "_law_grounds_here", "_law_standing_here", "_law_years"] 56 f_l_course false false) := ⟨fun _ _ _ _ _ _ _ us hl => match us, hl with | [_, _, _, _], _ => rfl, fun h => (h rfl).elim⟩
theorem b__law_gone : BindE (ent "_law_gone" 70 ["_law_grounds_here", "_law_standing_here", "_law_course_here", "_law_found", "_law_year", "_law_catch"] ["_law_grounds_here", "_law_standing_here", "_law_course_here"] 57 f_l_gone false false) := ⟨fun _ _ _ _ _ _ _ us hl => match us, hl with | [_, _, _], _ => rfl, fun h => (h rfl).elim⟩
theorem b__law_due : BindE (ent "_law_due" 71 ["_law_grounds_here", "_law_standing_here", "_law_course_here", "_law_sold_here", "_law_later", "_law_year"] ["_law_grounds_here", "_law_standing_here", "_law_course_here"] 58 f_l_due_2 false false) := ⟨fun _ _ _ _ _ _ _ us hl => match us, hl with | [_, _, _], _ => rfl, fun h => (h rfl).elim⟩
theorem b_law : BindE (ent "law" 72 ["_law_script", "_law_k", "_law_box_here", "_law_turn", "_law_grounds_here", "_law_standing_here", "_law_many_here", "_law_course_here", "_law_some", "_law_at", "_law_turned", "_law_asked", "_law_row", "_law_one", "_law_other", "_law_third", "_law_held", "_law_found", "_law_told"] ["_law_script"] 59 f_law_k21 true false) := ⟨fun _ _ _ _ _ _ _ us hl => match us, hl with | [_], _ => rfl, fun h => (h rfl).elim⟩
theorem bs0 : ∀ e ∈ es0, BindE e := by
  intro e he
  simp only [es0, List.mem_cons, List.not_mem_nil, or_false] at he
  rcases he with rfl | rfl | rfl | rfl | rfl | rfl | rfl | rfl | rfl | rfl | rfl | rfl | rfl | rfl | rfl | rfl | rfl | rfl | rfl | rfl
  · exact b_is_whole
  · exact b_is_from_to
  · exact b_are_rising
  · exact b_is_bed
  · exact b_most_of
  · exact b_many_in
  · exact b_is_grounds
  · exact b_need_grounds
  · exact b_is_standing_of
  · exact b_need_standing
  · exact b_is_catch_of
  · exact b_may_go
  · exact b_baskets_in
  · exact b_next_of
  · exact b_is_course
  · exact b_need_course
  · exact b_gone_through
  · exact b_first_break
  · exact b_whole_way
  · exact b_sales
theorem bs1 : ∀ e ∈ es1, BindE e := by
  intro e he
  simp only [es1, List.mem_cons, List.not_mem_nil, or_false] at he
  rcases he with rfl | rfl | rfl | rfl | rfl | rfl | rfl | rfl | rfl | rfl | rfl | rfl | rfl | rfl | rfl | rfl | rfl | rfl | rfl | rfl
  · exact b_end_of
  · exact b__law_box
  · exact b__law_take
  · exact b__law_is_from_to
  · exact b__law_spoil
  · exact b__law_odd
  · exact b__law_rising
  · exact b__law_most
  · exact b__law_many
  · exact b__law_grounds
  · exact b__law_is_grounds
  · exact b__law_is_standing
  · exact b__law_is_catch
  · exact b__law_is_course
  · exact b__law_standing
  · exact b__law_can
  · exact b__law_sold
  · exact b__law_next
  · exact b__law_catches
  · exact b__law_let
theorem bs2 : ∀ e ∈ es2, BindE e := by
  intro e he
  simp only [es2, List.mem_cons, List.not_mem_nil, or_false] at he
  rcases he with rfl | rfl | rfl | rfl
  · exact b__law_course
  · exact b__law_gone
  · exact b__law_due
  · exact b_law
theorem bs : ∀ e ∈ es, BindE e := by
  intro e he
  simp only [es, List.mem_append] at he
  rcases he with (h | h) | h
  · exact bs0 e h
  · exact bs1 e h
  · exact bs2 e h
theorem gs0 : ∀ e ∈ es0, G e.num = some e.fn := by
  intro e he
  simp only [es0, List.mem_cons, List.not_mem_nil, or_false] at he
  rcases he with rfl | rfl | rfl | rfl | rfl | rfl | rfl | rfl | rfl | rfl | rfl | rfl | rfl | rfl | rfl | rfl | rfl | rfl | rfl | rfl
  · exact rfl
  · exact rfl
  · exact rfl
  · exact rfl
  · exact rfl
  · exact rfl
  · exact rfl
  · exact rfl
  · exact rfl
  · exact rfl
  · exact rfl
  · exact rfl
  · exact rfl
  · exact rfl
  · exact rfl
  · exact rfl
  · exact rfl
  · exact rfl
  · exact rfl
  · exact rfl
theorem gs1 : ∀ e ∈ es1, G e.num = some e.fn := by
  intro e he
  simp only [es1, List.mem_cons, List.not_mem_nil, or_false] at he
  rcases he with rfl | rfl | rfl | rfl | rfl | rfl | rfl | rfl | rfl | rfl | rfl | rfl | rfl | rfl | rfl | rfl | rfl | rfl | rfl | rfl
  · exact rfl
  · exact rfl
  · exact rfl
  · exact rfl
  · exact rfl
  · exact rfl
  · exact rfl
  · exact rfl
  · exact rfl
  · exact rfl
  · exact rfl
  · exact rfl
  · exact rfl
  · exact rfl
  · exact rfl
  · exact rfl
  · exact rfl
  · exact rfl
  · exact rfl
  · exact rfl
theorem gs2 : ∀ e ∈ es2, G e.num = some e.fn := by
  intro e he
  simp only [es2, List.mem_cons, List.not_mem_nil, or_false] at he
  rcases he with rfl | rfl | rfl | rfl
  · exact rfl
  · exact rfl
  · exact rfl
  · exact rfl
theorem gs : ∀ e ∈ es, G e.num = some e.fn := by
  intro e he
  simp only [es, List.mem_append] at he
  rcases he with (h | h) | h
  · exact gs0 e h
  · exact gs1 e h
  · exact gs2 e h
theorem one : ∀ p ∈ excs, (excs.find? fun q => q.2 == p.2) = some p := by decide +kernel
abbrev steps : Nat := 6000
theorem atLaw : entOf es "law" = some (ent "law" 72 ["_law_script", "_law_k", "_law_box_here", "_law_turn", "_law_grounds_here", "_law_standing_here", "_law_many_here", "_law_course_here", "_law_some", "_law_at", "_law_turned", "_law_asked", "_law_row", "_law_one", "_law_other", "_law_third", "_law_held", "_law_found", "_law_told"] ["_law_script"] 59 f_law_k21 true false) := by kernel_rfl
theorem lawAt : (defsOf es).lookup ("law" : Str) = some (n_law_k21, 1) := by kernel_rfl
end K21
end
set_option maxHeartbeats 0
open PySem PySem.W PySem.Calls PyProof.Rows
theorem PySem.Challenge.cw_shellturns_k21_courses_break_or_sell_holds : PySem.Challenge.rw_shellturns_k21_courses_break_or_sell.Holds := by
  w_on; o_law
  refine HandSHeadRun.head_any (r := K21.Rw) (q := K21.qv) (H := K21.hk) (ob := Tv.obV 5 K21.fa K21.fn K21.tf K21.exs) (M := K21.steps) (loose := K21.loose) (d := HandSHeadRun.topDef K21.Rw.prog 72) (kwd := []) Tv.obV_eq
    (by kernel_rfl) (fun s => by kernel_rfl) K21.run (by kernel_rfl) (by kernel_rfl) (by kernel_rfl) (by rfl) (by first | assumption | decide +kernel) (by decide +kernel) ⟨rfl, rfl, rfl, rfl, rfl, by decide +kernel⟩ ?hw ?hc
  case hw => w_witness2
  case hc =>
    refine Tv.walk_V (l := K21.rowL) (n := 63) (k := 30) (x := "_law_script") (F := Tv.runF Tv.G 30 Tv.n_law_k21) rfl (by decide) (by kernel_rfl) ⟨rfl, by decide, by decide⟩ ?G (fun is _ _ => Tv.p_k21 20 is [])
    have e : (HandSHeadRun.topDef K21.Rw.prog 72).name = ("law" : PySem.Str) := by kernel_rfl
    rw [e]
    exact fun w mg f h K c g hf => Tv.law_G K21.bs K21.gs K21.cks K21.one K21.sdOk K21.bS K21.bW K21.bB K21.atLaw rfl rfl rfl K21.lawAt w mg f h K c g hf
