import PyProof.Rows.All
import Wide.All
import OpenK.AllK
import Wide.FinOn
import PyProof.ExcBaseAll.ValueError
import HandS.EndTab
import HandS.EndBits
import HandS.Head0
import HandS.Head1
import HandS.Head2
import HandS.HeadHook1
import HandS.HeadHook2
import HandS.HeadHook3
import HandS.HeadHook4
import HandS.HeadWalk
import HandS.ExcField
import HandS.ExcInit
import HandS.Words
import KE.DataEq
import KE.DataFind
import KE.DataIsa
import KE.DataAny
import KE.DataMinMax
import KE.SortData
import KE.LtData
import HandS.ForMost
import HandS.TupAny
import HandS.TupMul
import HandS.Text
import KE.IntText
import KE.KEqDict
import HandS.ListEq
import PyProof.EqKinds
import HandS.ForExc
import HandS.ExcValue
import KE.GoesEnum
import HandS.Zip
import HandS.Walk
import PyProof.Rows.IntBool
import HandS.Style
import PyProof.MaxThree
import HandS.Call
import KE.KSortAsk
import HandS.Flow
import HandS.Rev
import KE.GoesZip
import KE.GoesMore
import HandS.ExcOwn
import HandS.Dict
import HandS.Star
import HandS.List
import KE.KExcIs
import HandS.Defaults
import HandS.Small
import PyProof.InstSpecial
import PyProof.InstEq
import HandS.FStr
import HandS.ExcIs
import HandS.HotCalls
import HandS.Lambda
import Wide.Once
import PySem.Challenge.RW_shellturns_k10_classes_of_refusals
set_option Elab.async false
set_option linter.all false
set_option maxRecDepth 100000
section
set_option autoImplicit false
/-! What is looked at behind the top: ahead of all else. -/
namespace Tv
open PySem PySem.Spec PyProof.Rows L2
/-- a global constant -/
inductive GV where
  | i (n : Int) | s (z : Str) | t (zs : List Str) | d (zs : List (Str × Int))
deriving DecidableEq
def bltNames : List Str := ["len", "all", "any", "sum", "max", "min", "abs", "divmod", "int", "list", "tuple", "repr", "str", "bool", "isinstance", "range", "zip", "enumerate", "sorted"]
/-- a global's own tuple of texts -/
def strL : List Value → Option (List Str)
  | [] => some []
  | .str z _ :: r => (strL r).map (z :: ·)
  | _ :: _ => none
/-- not a list, not an empty table -/
def solid (o : Obj) : Bool := match o.data with
  | .seq .. => false
  | .fields vs => !vs.isEmpty
  | _ => true
/-- what sys.modules is: no list -/
def sysB (g : Addr → Option Obj) : Bool := match g sysModules with
  | some o => solid o && !(o.cls == .type "list")
  | none => false
/-- what is looked at besides: of the text's own, of the world -/
structure ExV where
  ex : PySem.W.Frag → Bool
  hs : PySem.W.Frag → List (List Int)
  vh : World → List (List Int)
def exT : ExV := ⟨fun _ => true, fun _ => [], fun _ => []⟩
/-- where the top is looked at -/
def asV (g : Addr → Option Obj) (n : Nat) : List Addr := cStatics :: He.asD g n
abbrev AlV : Type := (He.AlD × Bool) × List (List Int)
def obsV (n : Nat) (fa : List He.Fa) (fn : List He.DefD) (tf : List He.Defn) (ex : ExV) (g : Addr → Option Obj) : AlV :=
  let K := He.frT g (asV g n)
  ((He.obsD fa fn K, He.tabsB g tf K && sysB g && ex.ex K), ex.hs K)
def obV (n : Nat) (fa : List He.Fa) (fn : List He.DefD) (tf : List He.Defn) (ex : ExV) (s : PySem.W.SharedT) : AlV := obsV n fa fn tf ex (HandSHeadRun.getT s)
structure SdI where
  on : Bool
  dS : He.DefD
  dW : He.DefD
  dB : He.DefD
  xv : Bool
def nsOf (excs : List (Str × Nat)) : List (Str × Nat) := excs ++ [(("Broken" : Str), 16)]
def isxB (K : PySem.W.Frag) (D : Addr) : Bool :=
  decide (PySem.W.findIn K (.ref D) "__getattribute__" = some (some (.builtin "BaseException.__getattribute__"))) && decide (PySem.W.findIn K (.ref D) "__getattr__" = some none) && decide (PySem.W.subIn K (.ref D) (.type "BaseException") = some true) && PySem.W.hasDictIn K D &&
  decide (PySem.W.findIn K (.ref D) "__class__" = some (some (.builtin "object.__class__"))) && decide (PySem.W.specialIn K (.builtin "object.__class__") "__get__" = some (some (.builtin "getset_descriptor.__get__"))) && decide (PySem.W.takesIn K (.builtin "object.__class__") = some true) && decide (PySem.W.mroIn K D (.type "object") = some true)
/-- an own error class over ValueError with a making of its own -/
def oexB (K : PySem.W.Frag) (C : Addr) : Bool := (match K.lookup C with
  | some ⟨.type "type", _, .cls cd, sl⟩ => (match cd.mro, sl.toList with
    | .ref C' :: bm, [_, _, _, _, some (.builtin n), _] => C' == C && n == "ValueError.__new__" && !cd.hasDel && cd.hasDict && PySem.HandSPX.refsVE bm
    | _, _ => false)
  | _ => false) && decide (PySem.W.findIn K (.ref C) "__setattr__" = some (some (.builtin "object.__setattr__"))) && decide (PySem.W.subIn K (.ref C) (.type "BaseException") = some true) && decide (PySem.W.typeIn K (.ref C) = some (.type "type")) && PySem.W.keepIn K (.ref C)
/-- what is looked at of the error with its year -/
def brkKB (excs : List (Str × Nat)) (K : PySem.W.Frag) : Bool :=
  oexB K (He.ga K "Broken") && decide (PySem.W.findIn K (.ref (He.ga K "Broken")) "at" = some none) && xfB K (He.ga K "Broken") &&
  decide (PySem.W.specialIn K (.ref (He.ga K "TurnError")) "__getattribute__" = some (some (.builtin "type.__getattribute__"))) && decide (PySem.W.typeIn K (.ref (He.ga K "TurnError")) = some (.type "type")) && PySem.W.readsIn K (He.ga K "TurnError") (.type "type") &&
  (match PySem.W.findCls K (.ref (He.ga K "TurnError")) (.type "type") "__init__" with
    | some (.val (.builtin b)) => decide (b = "ValueError.__init__")
    | _ => false) &&
  decide (PySem.W.findIn K (.ref (He.ga K "Broken")) "__init__" = some (some (.ref (He.fAd K (("Broken" : Str), some ("__init__" : Str)))))) && decide (PySem.W.typeIn K (.ref (He.fAd K (("Broken" : Str), some ("__init__" : Str)))) = some (.type "function")) &&
  isxB K (He.ga K "Broken") && ((nsOf excs).all fun q => decide (PySem.W.kitOne K (.ref (He.ga K "Broken")) (.ref (He.ga K q.1)) = some (16 == q.2))) && decide (PySem.W.kitOne K (.ref (He.ga K "Broken")) (.type "ValueError") = some true) && decide (PySem.W.exmOne K (.ref (He.ga K "Broken")) (.ref (He.ga K "TurnError")) = some true)
/-- what is looked at of the classes -/
def exC_ (x : SdI) (excs : List (Str × Nat)) (tf : List He.Defn) (K : PySem.W.Frag) : Bool := (!x.on || (decide ((tf.map fun t => (He.cT K t).2).Nodup) && excs.all fun p => isxB K (He.ga K p.1) &&
  ((nsOf excs).all fun q => decide (PySem.W.kitOne K (.ref (He.ga K p.1)) (.ref (He.ga K q.1)) = some (p.2 == q.2))) && decide (PySem.W.kitOne K (.ref (He.ga K p.1)) (.type "ValueError") = some true) && decide (PySem.W.exmOne K (.ref (He.ga K p.1)) (.ref (He.ga K "TurnError")) = some true))) && (!x.on || brkKB excs K)
/-- a dict's own entries: texts to numbers -/
def dctL : List DictEntry → Option (List (Str × Int))
  | [] => some []
  | ⟨_, .str z _, .int n _⟩ :: r => (dctL r).map ((z, n) :: ·)
  | _ :: _ => none
/-- the global tuples of texts, dicts of texts to numbers -/
def gtB (glob : List (Str × GV)) (K : PySem.W.Frag) : Bool := glob.all fun p => match p.2 with
  | .t zs => (match K.lookup (He.ga K p.1) with
    | some o => decide (o.cls = .type "tuple") && (match o.data with
      | .seq its _ => decide (strL its.toList = some zs)
      | _ => false)
    | none => false)
  | .d zs => (match K.lookup (He.ga K p.1) with
    | some o => decide (o.cls = .type "dict") && (decide (o.dict = none) && (o.slots.toList.isEmpty && (match o.data with
      | .dict es _ => decide (dctL es.toList = some zs)
      | _ => false)))
    | none => false) && (!(He.ga K p.1 == sysModules) && decide ((zs.map (·.1)).Nodup))
  | _ => true
/-- the hashes that a dict holds, and what they are -/
def hsL (glob : List (Str × GV)) (K : PySem.W.Frag) : List (List Int) := glob.map fun p => match p.2 with
  | .d _ => (match K.lookup (He.ga K p.1) with
    | some o => (match o.data with
      | .dict es _ => es.toList.map (·.hash)
      | _ => [])
    | none => [])
  | _ => []
def vhL (glob : List (Str × GV)) (w : World) : List (List Int) := glob.map fun p => match p.2 with
  | .d zs => zs.map fun z => L2.keyH w (.inr z.1)
  | _ => []
/-- the built-in types that things have -/
def plTy : List String := ["NoneType", "bool", "int", "str", "tuple", "list", "dict"]
/-- what is looked at of a class of instances: its own parts behind isinstance, == and != -/
def spcB (K : PySem.W.Frag) (C : Addr) : Bool := decide (PySem.W.findIn K (.ref C) "__class__" = some (some (.builtin "object.__class__"))) && (decide (PySem.W.specialIn K (.builtin "object.__class__") "__get__" = some (some (.builtin "getset_descriptor.__get__"))) && (decide (PySem.W.takesIn K (.builtin "object.__class__") = some true) && (decide (PySem.W.mroIn K C (.type "object") = some true) &&
  (decide (PySem.W.findIn K (.ref C) "__ne__" = some (some (.builtin "object.__ne__"))) && (plTy.all fun T => decide (PySem.W.kitOne K (.type T) (.ref C) = some false) && decide (PySem.W.subIn K (.type T) (.ref C) = some false))))))
def clNames : List Str := ["Beds", "Tally", "Desk"]
def spcA (K : PySem.W.Frag) : Bool := clNames.all fun n => match PySem.W.nsIn K mainGlobals n with
  | some (some (.ref a)) => spcB K a
  | _ => true
/-- the classes of errors, by numbers -/
def exNs : List Str := ["TurnError", "NoGrounds", "NoStanding", "NoCatch", "NoCourse", "NoBed", "NoNumber", "NoBook", "NoDeed", "There", "Gone", "Lacking", "Nothing", "TooMany", "NoText", "NoWord", "Broken"]
def exN (c : Nat) : Str := exNs.getD c "TurnError"
/-- what is looked at besides where errors are held as values -/
def xvKB (excs : List (Str × Nat)) (K : PySem.W.Frag) : Bool := (excs.all fun p => decide (p.1 = exN p.2)) && (
  isxB K (He.ga K "TurnError") && (decide (PySem.W.kitOne K (.ref (He.ga K "TurnError")) (.ref (He.ga K "TurnError")) = some true) && (((nsOf excs).all fun q => decide (PySem.W.kitOne K (.ref (He.ga K q.1)) (.ref (He.ga K "TurnError")) = some true) && decide (PySem.W.kitOne K (.ref (He.ga K "TurnError")) (.ref (He.ga K q.1)) = some false)) &&
  (decide (PySem.W.kitOne K (.ref (He.ga K "TurnError")) (.type "ValueError") = some true) && (PySem.W.excIn K (He.ga K "TurnError") He.veBase "ValueError.__new__" && PySem.W.keepIn K (.ref (He.ga K "TurnError")))))))
def exB_ (x : SdI) (glob : List (Str × GV)) (excs : List (Str × Nat)) (tf : List He.Defn) (K : PySem.W.Frag) : Bool := exC_ x excs tf K && (gtB glob K && (spcA K && (!x.xv || (x.on && xvKB excs K))))
def exV_ (x : SdI) (glob : List (Str × GV)) (excs : List (Str × Nat)) (tf : List He.Defn) : ExV := ⟨exB_ x glob excs tf, hsL glob, vhL glob⟩
section
open PySem.W PySem.Calls HandSHeadRun
/-- what is looked at of the top's end -/
def RunO (r : PySem.W.OpenRow) (α : Type) (ob : PySem.W.SharedT → α) (v : α) (M : Nat) (w : World) : Prop := ∀ os : OsState, (endF (stepQ (denQ tabQ) r.prog w) M r.prog w os).map ob = some v
end
end Tv
end

section

/-! Values, the small language, what it computes. -/
namespace Tv
open PySem

/-- a value as the small language sees it -/
inductive D where
  | non | bl (b : Bool) | int (i : Int) | str (s : Str)
  | tup (xs : List D) | lst (xs : List D) | dct (kvs : List (Int × Int))
  | bor (xs : List D) | scr (xs : List D) | ref (i : Nat) | exc (c : Nat) (p : D)
deriving Inhabited

mutual
def D.py : D → PyData
  | .non => .none | .bl b => .bool b | .int i => .int i | .str s => .str s
  | .tup xs => .tuple (D.pys xs) | .lst xs => .list (D.pys xs) | .bor xs => .list (D.pys xs) | .scr xs => .list (D.pys xs)
  | .dct kvs => .dict (kvs.map fun p => (.int p.1, .int p.2))
  | .ref _ => .none | .exc _ _ => .none
def D.pys : List D → List PyData
  | [] => []
  | x :: xs => D.py x :: D.pys xs
end
mutual
/-- nothing of one's own within (no object of the heap, no exception, nothing borrowed) -/
def D.pl : D → Bool
  | .non => true | .bl _ => true | .int _ => true | .str _ => true
  | .tup xs => D.pls xs | .lst xs => D.pls xs | .bor _ => false | .scr _ => false
  | .dct _ => true | .ref _ => false | .exc _ _ => false
def D.pls : List D → Bool
  | [] => true
  | x :: xs => D.pl x && D.pls xs
end
/-- what an operation may read: plain, or a borrowed list of plain things -/
def D.rd : D → Bool
  | .bor xs => D.pls xs
  | .scr xs => D.pls xs
  | d => D.pl d
/-- what may be kept in another thing -/
def D.keep : D → Bool
  | .bor _ => false
  | .scr _ => false
  | _ => true
def D.flat : D → Bool
  | .non => true | .bl _ => true | .int _ => true | .str _ => true
  | _ => false

theorem D.pys_map : ∀ xs : List D, D.pys xs = xs.map D.py
  | [] => rfl
  | x :: xs => by rw [D.pys, D.pys_map xs]; rfl
theorem D.pls_all : ∀ xs : List D, D.pls xs = xs.all D.pl
  | [] => rfl
  | x :: xs => by rw [D.pls, D.pls_all xs]; rfl

abbrev LIM : Nat := 16777216

inductive Ob where
  | lst (xs : List D)
  | ins (c : Nat) (fs : List (Str × D))
  | dct (kvs : List (List L2.Key × D))
abbrev Hs := List Ob

inductive R (α : Type) where
  | ok (a : α) (h : Hs) | exc (x : D) (h : Hs) | bad

def R.bind {α β : Type} (r : R α) (f : α → Hs → R β) : R β := match r with
  | .ok a h => f a h
  | .exc x h => .exc x h
  | .bad => .bad
theorem R.bind_assoc {α β γ : Type} (r : R α) (f : α → Hs → R β) (g : β → Hs → R γ) : (r.bind f).bind g = r.bind fun a h => (f a h).bind g := by
  cases r <;> rfl
/-- where nothing may be raised -/
def R.calm {α : Type} : R α → R α
  | .ok a h => .ok a h
  | _ => .bad
@[simp] theorem R.bind_ok {α β : Type} (a : α) (h : Hs) (f : α → Hs → R β) : (R.ok a h).bind f = f a h := rfl
@[simp] theorem R.bind_exc {α β : Type} (x : D) (h : Hs) (f : α → Hs → R β) : (R.exc (α := α) x h).bind f = .exc x h := rfl
@[simp] theorem R.bind_bad {α β : Type} (f : α → Hs → R β) : (R.bad (α := α)).bind f = .bad := rfl
@[simp] theorem R.calm_ok {α : Type} (a : α) (h : Hs) : (R.ok a h).calm = .ok a h := rfl
def R.of {α : Type} (o : Option α) (h : Hs) : R α := match o with
  | some a => .ok a h
  | none => .bad
@[simp] theorem R.of_some {α : Type} (a : α) (h : Hs) : R.of (some a) h = .ok a h := rfl
@[simp] theorem R.of_none {α : Type} (h : Hs) : R.of (none : Option α) h = .bad := rfl

/-- a def's names -/
inductive Sl where
  | u | v (d : D) | o (xs : List D) | k (t : Bool) (kvs : List (D × D))
abbrev Ev := List Sl
def Ev.get : Ev → Nat → Sl
  | [], _ => .u
  | x :: _, 0 => x
  | _ :: r, n + 1 => Ev.get r n
def Ev.put : Ev → Nat → Sl → Ev
  | [], _, _ => []
  | _ :: r, 0, y => y :: r
  | x :: r, n + 1, y => x :: Ev.put r n y
def Ev.wipe (e : Ev) : List Nat → Ev
  | [] => e
  | i :: is => (Ev.wipe e is).put i .u

/-! ### operations on values -/
inductive Bop where
  | add | sub | mul | fdiv | mod | pow
inductive Cop where
  | eq | ne | lt | le | gt | ge | isin | notin | isN | notN | eq0 | notB | ninS
inductive Ty where
  | int | bool | tuple | str | list | exc (c : Nat) | value
inductive Bi where
  | len | all | any | abs | divmod | int | list | tuple | max1 | max2 | min2 | min4 | rep | str | sum | sorted | index | count | join | split | partition

def b2 (b : Bool) : Int := if b then 1 else 0
def D.i? : D → Option Int
  | .int i => some i
  | .bl b => some (b2 b)
  | _ => none
/-- a list or a tuple -/
def D.sq? : D → Option (List D)
  | .lst xs => some xs
  | .bor xs => some xs
  | .scr xs => some xs
  | .tup xs => some xs
  | _ => none
/-- a list -/
def D.ls? : D → Option (List D)
  | .lst xs => some xs
  | .bor xs => some xs
  | .scr xs => some xs
  | _ => none
/-- a list, our own -/
def D.la? : D → Option (List D)
  | .lst xs => some xs
  | .bor xs => some xs
  | _ => none
def ofLen (n : Nat) (d : D) : Option D := if n ≤ LIM then some d else none
def dAdd : D → D → Option D
  | .int i, .int j => some (.int (i + j))
  | .bl i, .int j => some (.int (b2 i + j))
  | .int i, .bl j => some (.int (i + b2 j))
  | .str x, .str y => ofLen (x.length + y.length) (.str (x ++ y))
  | .tup xs, .tup ys => ofLen (xs.length + ys.length) (.tup (xs ++ ys))
  | a, b => (match a.la?, b.la? with
    | some xs, some ys => ofLen (xs.length + ys.length) (.lst (xs ++ ys))
    | _, _ => none)
def dSub : D → D → Option D
  | .int i, .int j => some (.int (i - j))
  | .bl i, .int j => some (.int (b2 i - j))
  | .int i, .bl j => some (.int (i - b2 j))
  | _, _ => none
def dMul : D → D → Option D
  | .int i, .int j => if (-(2 ^ 64) < i ∧ i < 2 ^ 64) ∨ (-(2 ^ 64) < j ∧ j < 2 ^ 64) then some (.int (i * j)) else none
  | .lst xs, .int j => if 0 ≤ j ∧ j ≤ 1000 ∧ xs.length ≤ 1000 then some (.lst (List.replicate j.toNat xs).flatten) else none
  | .tup xs, .int j => if xs.isEmpty = false ∧ 1 ≤ j ∧ j ≤ 1000 ∧ xs.length ≤ 1000 then some (.tup (List.replicate j.toNat xs).flatten) else if xs.isEmpty = true ∧ 0 ≤ j ∧ j ≤ 1000 then some (.tup []) else none
  | _, _ => none
def dDiv : D → D → Option D
  | .int i, .int j => if 0 < j ∧ j < 1073741824 then some (.int (i / j)) else none
  | _, _ => none
def dMod : D → D → Option D
  | .int i, .int j => if 0 < j then some (.int (i % j)) else none
  | _, _ => none
def dPow : D → D → Option D
  | .int i, .int j => if 0 ≤ j ∧ j ≤ 1000000 ∧ i.natAbs < 2 ^ 64 then some (.int (i ^ j.toNat)) else none
  | _, _ => none
def dBin : Bop → D → D → Option D
  | .add => dAdd | .sub => dSub | .mul => dMul | .fdiv => dDiv | .mod => dMod | .pow => dPow

def D.sound (d : D) : Bool := d.rd && PyData.plain d.py && decide (PyData.depth d.py ≤ 60)
def dEq (a b : D) : Option Bool := if a.sound && b.sound then some (PyData.eqv a.py b.py) else none
def dCmpI (p : Int → Int → Bool) : D → D → Option Bool
  | .int i, .int j => some (p i j)
  | _, _ => none
def dLt : D → D → Option Bool
  | .int i, .int j => some (decide (i < j))
  | .tup xs, .tup ys => if (D.tup xs).sound && (D.tup ys).sound && W.alike (D.tup xs).py (D.tup ys).py then some (W.dataLt (D.tup xs).py (D.tup ys).py) else none
  | _, _ => none
def dIn : D → D → Option Bool
  | .str x, .str y => some (!(Builtin.Str.occurrences y x 0 y.length 1).isEmpty)
  | d, c => (match c.sq? with
    | some xs => if d.sound && c.sound then some (xs.any fun z => PyData.eqv z.py d.py) else none
    | none => none)
def dIsN : D → Bool
  | .non => true
  | _ => false
/-- the empty tuple -/
def pyE : PyData → Bool
  | .tuple [] => true
  | _ => false
def dEq0 (a b : D) : Option Bool := match b with
  | .tup [] => if a.rd then some (pyE a.py) else none
  | _ => none
/-- among texts: a thing of whatever kind -/
def tStrs : List D → Option (List Str)
  | [] => some []
  | .str s :: r => (tStrs r).map (s :: ·)
  | _ :: _ => none
def strIs (z : Str) : D → Bool
  | .str s => z == s
  | _ => false
def dInS (d c : D) : Option Bool := match c with
  | .tup xs => if d.rd then (tStrs xs).map fun ss => ss.any fun z => strIs z d else none
  | _ => none
def dNotB : D → D → Option Bool
  | .bl a, .bl b => some (!decide (a = b))
  | _, _ => none
def dCmp (o : Cop) (a b : D) : Option Bool := match o with
  | .eq => dEq a b
  | .ne => (dEq a b).map (!·)
  | .lt => dLt a b
  | .le => dCmpI (fun i j => decide (i ≤ j)) a b
  | .gt => dCmpI (fun i j => decide (j < i)) a b
  | .ge => dCmpI (fun i j => decide (j ≤ i)) a b
  | .isin => dIn a b
  | .notin => (dIn a b).map (!·)
  | .isN => if dIsN b then some (dIsN a) else none
  | .notN => if dIsN b then some (!dIsN a) else none
  | .eq0 => dEq0 a b
  | .notB => dNotB a b
  | .ninS => (dInS a b).map (!·)
/-- truth -/
def D.tru : D → Option Bool
  | .non => some false
  | .bl b => some b
  | .int i => some (i != 0)
  | .str s => if s.length ≤ LIM then some (s.length != 0) else none
  | .tup xs => some (!xs.isEmpty)
  | .lst xs => some (!xs.isEmpty)
  | .bor xs => some (!xs.isEmpty)
  | .scr xs => some (!xs.isEmpty)
  | _ => none
def dIsi (t : Ty) (d : D) : Option Bool := match t with
  | .int => (match d with
    | .int _ => some true | .bl _ => some true | .exc _ _ => none | .ref _ => none | _ => some false)
  | .bool => (match d with
    | .bl _ => some true | .exc _ _ => none | .ref _ => none | _ => some false)
  | .tuple => (match d with
    | .tup _ => some true | .exc _ _ => none | .ref _ => none | _ => some false)
  | .str => (match d with
    | .str _ => some true | .exc _ _ => none | .ref _ => none | _ => some false)
  | .list => (match d with
    | .lst _ => some true | .bor _ => some true | .scr _ => some true | .exc _ _ => none | .ref _ => none | _ => some false)
  | .exc c => (match d with
    | .exc c' _ => some (c == c' || c == 0) | _ => none)
  | .value => (match d with
    | .exc _ _ => some true | _ => none)
def dIx (d e : D) : Option D := match e with
  | .int i => (match d with
    | .str s => if s.length ≤ LIM then (L2.atI s.cps.toList i).map fun c => .str ⟨#[c]⟩ else none
    | d => (match d.sq? with
      | some xs => L2.atI xs i
      | none => none))
  | _ => none
/-- the items from lo to hi, as the layer's cutV -/
def cutD {α : Type} (xs : List α) (lo hi : Option Int) : List α := (xs.drop (HT.sIx xs.length 0 lo)).take (HT.sIx xs.length xs.length hi - HT.sIx xs.length 0 lo)
def dSl (d : D) (lo hi : Option Int) : Option D := match d with
  | .tup xs => some (.tup (cutD xs lo hi))
  | .str s => if s.length ≤ LIM then some (.str (L2.cutS s lo hi)) else none
  | d => d.ls?.map fun xs => .lst (cutD xs lo hi)
def oI : D → Option Int
  | .int i => some i
  | _ => none
def dRev : D → Option D
  | .tup xs => some (.tup xs.reverse)
  | d => d.ls?.map fun xs => .lst xs.reverse
def allB : List D → Option (List Bool)
  | [] => some []
  | .bl b :: r => (allB r).map (b :: ·)
  | _ :: _ => none
def allI : List D → Option (List Int)
  | [] => some []
  | .int i :: r => (allI r).map (i :: ·)
  | _ :: _ => none
def allS : List D → Option (List Str)
  | [] => some []
  | .str s :: r => (allS r).map (s :: ·)
  | _ :: _ => none
/-- what repr shows -/
def D.shows (d : D) : Bool := d.rd && PyData.showable d.py && decide (PyData.depth d.py ≤ 60) && decide ((PyData.shown d.py).length ≤ LIM)
/-- what sorted takes here: ints, or tuples, of one make -/
def isTupD : D → Bool
  | .tup _ => true
  | _ => false
def isNonD : D → Bool
  | .non => true
  | _ => false
def sortsOk (xs : List D) : Bool := (xs.all isTupD || xs.all fun x => !isTupD x && !isNonD x) && D.pls xs && decide (xs.length ≤ 10000) && (xs.all fun x => decide (PyData.depth x.py ≤ 60) && xs.all fun y => W.alike x.py y.py) &&
  ((xs.all fun x => match x with
    | .int _ => true
    | _ => false) || xs.all fun x => match x with
    | .tup _ => true
    | _ => false)
def maxL : Int → List Int → Int
  | m, [] => m
  | m, x :: xs => maxL (if m < x then x else m) xs
def ar1 (f : D → Option D) : List D → Option D
  | [x] => f x
  | _ => none
def ar2 (f : D → D → Option D) : List D → Option D
  | [x, y] => f x y
  | _ => none
def dLen (d : D) : Option D := match d with
  | .str s => if s.length ≤ LIM then some (.int s.length) else none
  | d => d.sq?.map fun xs => .int xs.length
def onL (f : List D → Option D) (d : D) : Option D := match d.ls? with
  | some xs => f xs
  | none => none
def onQ (f : List D → Option D) (d : D) : Option D := match d.sq? with
  | some xs => f xs
  | none => none
def dAbs : D → Option D
  | .int i => some (.int (if i < 0 then -i else i))
  | _ => none
def dDivmod : D → D → Option D
  | .int i, .int j => if 0 < j ∧ j < 1073741824 then some (.tup [.int (i / j), .int (i % j)]) else none
  | _, _ => none
def dInt : D → Option D
  | .int i => some (.int i)
  | .bl b => some (.int (b2 b))
  | .str s => if s.length ≤ 640 then (PySem.intText? s).map .int else none
  | _ => none
def dSplit : D → D → Option D
  | .str a, .str b => if (b.length == 0) = false ∧ a.length + 2 ≤ LIM then some (.lst ((Txt.split a b).map .str)) else none
  | _, _ => none
def dPart : D → D → Option D
  | .str a, .str b => if (b.length == 0) = false ∧ a.length ≤ LIM then some (.tup [.str (Txt.partition a b).1, .str (Txt.partition a b).2.1, .str (Txt.partition a b).2.2]) else none
  | _, _ => none
def dMaxL (xs : List D) : Option D := match allI xs with
  | some (i :: is) => some (.int (maxL i is))
  | _ => none
def dMax2 : D → D → Option D
  | .int i, .int j => some (.int (if j > i then j else i))
  | _, _ => none
def dMin2 : D → D → Option D
  | .int i, .int j => some (.int (if j < i then j else i))
  | _, _ => none
def m4 (a b c d : Int) : Int := if d < (if c < (if b < a then b else a) then c else (if b < a then b else a)) then d else (if c < (if b < a then b else a) then c else (if b < a then b else a))
def dMin4 : List D → Option D
  | [.int a, .int b, .int c, .int d] => some (.int (m4 a b c d))
  | _ => none
def dRep (d : D) : Option D := if d.shows then some (.str (PyData.shown d.py)) else none
def dStr : D → Option D
  | .int i => if i.natAbs.log2 < 1920 then some (.str (toString i)) else none
  | .bl b => some (.str (if b then "True" else "False"))
  | _ => none
def dIndex (d x : D) : Option D := match d.la? with
  | some xs => if d.sound && x.sound then (xs.findIdx? fun z => PyData.eqv z.py x.py).map fun (i : Nat) => .int i else none
  | none => none
def dCount (d x : D) : Option D := match d.ls? with
  | some xs => if d.sound && x.sound then some (.int (xs.countP fun z => PyData.eqv z.py x.py)) else none
  | none => none
def dJoin (s d : D) : Option D := match s, d.ls? with
  | .str s, some xs => (match allS xs with
    | some ss => if (ss.map (·.length)).sum + ss.length * s.length ≤ LIM then some (.str (Txt.join s ss)) else none
    | none => none)
  | _, _ => none
def dBi : Bi → List D → Option D
  | .len => ar1 dLen
  | .all => ar1 (onL fun xs => (allB xs).map fun bs => .bl (bs.all id))
  | .any => ar1 (onL fun xs => (allB xs).map fun bs => .bl (bs.any id))
  | .abs => ar1 dAbs
  | .divmod => ar2 dDivmod
  | .int => ar1 dInt
  | .list => ar1 fun d => d.sq?.map .lst
  | .tuple => ar1 fun d => d.sq?.map .tup
  | .max1 => ar1 (onL dMaxL)
  | .max2 => ar2 dMax2
  | .min2 => ar2 dMin2
  | .min4 => dMin4
  | .rep => ar1 dRep
  | .str => ar1 dStr
  | .sum => ar1 (onL fun xs => (allI xs).map fun is => .int is.sum)
  | .sorted => ar1 (onQ fun xs => if sortsOk xs then some (.lst (xs.mergeSort (W.dataLe false D.py))) else none)
  | .index => ar2 dIndex
  | .count => ar2 dCount
  | .join => ar2 dJoin
  | .split => ar2 dSplit
  | .partition => ar2 dPart
/-- the receiver of a method -/
def rcvOk (b : Bi) (d : D) : Bool := match b with
  | .join => (match d with
    | .str _ => true
    | _ => false)
  | .split => (match d with
    | .str _ => true
    | _ => false)
  | .partition => (match d with
    | .str _ => true
    | _ => false)
  | _ => d.ls?.isSome
end Tv
end

section

/-! Things against the empty tuple. -/
namespace Tv
open Lean Elab Tactic Meta PySem PySem.Calls PyProof.Rows PyProof.V PySem.Spec PySem.W PySem.SeqAt
theorem tuple_eq_declines_dict (l b : Addr) (items : Array Value) (n : Nat) (d2 : Data) (dd dd2 : Option Addr) (sl sl2 : Array (Option Value)) :
    Meets (Builtin.«tuple.__eq__» ⟨[.ref l, .ref b], []⟩) (fun _ R s => s.heap.get? l = some { cls := .type "tuple", dict := dd, data := .seq items n, slots := sl } ∧ s.heap.get? b = some { cls := .type "dict", dict := dd2, data := d2, slots := sl2 } ∧ R (.ok (.ret .notImplemented)) s) :=
  .of_wp fun prog w A R s h => by obtain ⟨hp, g, d, tk, os⟩ := s; obtain ⟨hl, hb, h⟩ := h; have f1 := PySem.F.sub_dict_tuple; wp_walk using wpAny_loadPart' hl, wpAny_loadPart' hb; exact ⟨_, rfl, h⟩
section
variable {prog : Program} {w : World} {A : Around} {E : Value → Shared → Prop} {s : Shared}
theorem dict_eq_declines {a b : Addr} (ta : s.TypeIs (.ref a) "dict") (tb : s.TypeIs (.ref b) "tuple") {Q : Value → Shared → Prop} (h : Q .notImplemented s) : wpAny (model prog w) A (call (.builtin "dict.__eq__") [.ref a, .ref b]) Q E s := by
  refine wpAny_call_entry PySem.F.slot_dict_eq ta PySem.F.entry_dict_eq ?_ (PySem.F.args_dict_eq_2 _ _)
  show wpAny _ _ (Builtin.Dict.dictSlotArgs "__eq__" ⟨[.ref a, .ref b], []⟩ >>= _) _ _ s
  refine wpAny_bind ?_
  unfold Builtin.Dict.dictSlotArgs
  refine wpAny_bind (wpAny_notOrdered_dict ta ?_)
  show wpAny _ _ (pure (Value.ref a, Value.ref b)) _ _ s
  refine wpAny_pure ?_
  refine wpAny_bind (wpAny_isInstance tb PySem.F.sub_tuple_dict ?_)
  simp only [Bool.not_false, if_true]
  exact wpAny_bind (wpAny_rule (wpAny_pure ⟨_, rfl, h⟩))
theorem rcAt_dict_tuple {a b : Addr} {o : Obj} {items : Array Value} (ho : s.heap.get? a = some o) (hc : o.cls = .type "dict") (hb : s.heap.IsTuple b items) (hu : A.units < cLine) : RcAt A s (.ref a) (.ref b) false := fun prog w E Q h => by
  obtain ⟨cls, dd, data, sl⟩ := o
  obtain ⟨⟨cls2, dd2, data2, sl2⟩, ho2, hc2, n2, hd2⟩ := id hb
  simp only at hc hc2 hd2
  subst hc hc2 hd2
  have hne : a ≠ b := fun e => by
    subst e
    rw [ho] at ho2
    have z := congrArg Obj.cls (Option.some.inj ho2)
    exact absurd z (by simp)
  exact (rc_eq_decline_or (k := false) ⟨_, ho, rfl⟩ ⟨_, ho2, rfl⟩ (by decide) PySem.F.sub_tuple_dict PySem.F.slot_dict_eq PySem.F.slot_tuple_eq_refl
    (fun _ hq => dict_eq_declines ⟨_, ho, rfl⟩ ⟨_, ho2, rfl⟩ hq)
    (fun _ hq => call_meets PySem.F.slot_tuple_eq_refl ⟨_, ho2, rfl⟩ PySem.F.entry_tuple_eq (PySem.F.args_tuple_eq_2 _ _) (tuple_eq_declines_dict b a items n2 data dd2 dd sl2 sl) ⟨ho2, ho, hq⟩)
    (fun _ hq => wpAny_isSame_ref_other hne ho ho2 (by simp) hq) (.inr hu) h)
theorem dict_eq_declinesS {a : Addr} {z : Str} {t : Tok} (ta : s.TypeIs (.ref a) "dict") {Q : Value → Shared → Prop} (h : Q .notImplemented s) : wpAny (model prog w) A (call (.builtin "dict.__eq__") [.ref a, .str z t]) Q E s := by
  refine wpAny_call_entry PySem.F.slot_dict_eq ta PySem.F.entry_dict_eq ?_ (PySem.F.args_dict_eq_2 _ _)
  show wpAny _ _ (Builtin.Dict.dictSlotArgs "__eq__" ⟨[.ref a, .str z t], []⟩ >>= _) _ _ s
  unfold Builtin.Dict.dictSlotArgs
  refine wpAny_bind (wpAny_bind (wpAny_notOrdered_dict ta ?_))
  show wpAny _ _ (pure (Value.ref a, Value.str z t)) _ _ s
  refine wpAny_pure (wpAny_bind (wpAny_isInstance (typeIs_str s z t) PySem.F.sub_str_dict ?_))
  simp only [Bool.not_false, if_true]
  exact wpAny_bind (wpAny_rule (wpAny_pure ⟨_, rfl, h⟩))
theorem str_eq_declines_dict (b : Str) (u : Tok) (l : Addr) (es : Array DictEntry) (ep : Nat) (dd : Option Addr) (sl : Array (Option Value)) :
    Meets (Builtin.«str.__eq__» ⟨[.str b u, .ref l], []⟩) (fun _ R s => s.heap.get? l = some { cls := .type "dict", dict := dd, data := .dict es ep, slots := sl } ∧ R (.ok (.ret .notImplemented)) s) :=
  .of_wp fun prog w A R s h => by obtain ⟨hp, g, d, tk, os⟩ := s; obtain ⟨hl, h⟩ := h; have f1 := PySem.F.sub_dict_str; wp_walk using wpAny_loadPart' hl, wpAny_load hl; exact ⟨_, rfl, h⟩
theorem rcAt_str_dict {a : Addr} {o : Obj} {z : Str} {t : Tok} {es : Array DictEntry} {ep : Nat} (ho : s.heap.get? a = some o) (hc : o.cls = .type "dict") (hd : o.data = .dict es ep) (hu : A.units < cLine) : RcAt A s (.str z t) (.ref a) false := fun prog w E Q h => by
  obtain ⟨cls, dd, data, sl⟩ := o
  simp only at hc hd
  subst hc hd
  exact (rc_eq_decline_or (k := false) (typeIs_str s z t) ⟨_, ho, rfl⟩ (by decide) PySem.F.sub_dict_str PySem.F.slot_str_eq PySem.F.slot_dict_eq
    (fun _ hq => call_meets PySem.F.slot_str_eq (typeIs_str s z t) PySem.F.entry_str_eq (PySem.F.args_str_eq_2 _ _) (str_eq_declines_dict z t a es ep dd sl) ⟨ho, hq⟩)
    (fun _ hq => dict_eq_declinesS ⟨_, ho, rfl⟩ hq)
    (fun _ hq => wpAny_of_eq (rfl : isSame (.str z t) (.ref a) = pure false) hq) (.inr hu) h)
theorem eqAt_str_dict {a : Addr} {o : Obj} {z : Str} {t : Tok} {es : Array DictEntry} {ep : Nat} (ho : s.heap.get? a = some o) (hc : o.cls = .type "dict") (hd : o.data = .dict es ep) (hu : A.units < cLine) : EqAt A s (.str z t) (.ref a) false := fun prog w E Q h => by
  unfold eqBool
  refine wpAny_holding (wpAny_ite_split (fun e => absurd (eq_of_beq e) nofun) fun _ => ?_)
  exact wpAny_bind (rcAt_str_dict ho hc hd hu prog w E _ (wpAny_truthy_bool h))
/-- a text against a thing of whatever kind -/
def strPy (z : Str) : PyData → Bool
  | .str y => z == y
  | _ => false
theorem eqAt_str {v : Value} {z : Str} {t : Tok} {da : PyData} {as : List Addr} (r : Reads s.heap v da as) (hu : A.units < cLine) : EqAt A s (.str z t) v (strPy z da) := by
  cases r with
  | none => exact EqAt.str_none z t
  | bool x => exact EqAt.str_bool z t x
  | int x u => exact EqAt.str_int z t x u
  | str x u => exact EqAt.str_str z t x u
  | list h1 h2 h3 h4 => exact EqAt.str_list z t ⟨_, h1, h2, _, h3⟩ hu
  | dict h1 h2 h3 h4 h5 => exact eqAt_str_dict h1 h2 h3 hu
  | tuple h1 h2 h3 h4 => exact EqAt.str_tuple z t ⟨_, h1, h2, _, h3⟩ hu
theorem rcAt_empty {a : Value} {l : Addr} {da : PyData} {as : List Addr} {items : Array Value} (ra : Reads s.heap a da as) (hl : s.heap.IsTuple l items) (h0 : items.size = 0) (hu : A.units < cLine) : RcAt A s a (.ref l) (pyE da) := by
  cases ra with
  | none => exact RcAt.none_tuple hl hu
  | bool x => exact RcAt.bool_tuple x hl hu
  | int x t => exact RcAt.int_tuple x t hl hu
  | str x t => exact RcAt.str_tuple x t hl hu
  | list h1 h2 h3 h4 => exact RcAt.list_tuple ⟨_, h1, h2, _, h3⟩ hl hu
  | dict h1 h2 h3 h4 h5 => exact rcAt_dict_tuple h1 h2 hl hu
  | @tuple l' o vs n xs as₁ h1 h2 h3 h4 =>
    have n1 : vs.size = xs.length := by simpa using ReadsAll.length _ _ _ h4
    have q := RcAt.tuples (e := fun _ => true) ⟨_, h1, h2, _, h3⟩ hl hu (fun j j1 j2 => by omega)
    have e : ((List.range (min vs.size items.size)).all (fun _ => true) && vs.size == items.size) = pyE (.tuple xs) := by
      rw [h0, n1]
      cases xs with
      | nil => rfl
      | cons x xs => simp [pyE]
    rw [e] at q
    exact q
end
end Tv
end

section

/-! The small language: its trees, what they compute. -/
namespace Tv
open PySem

/-- a target -/
inductive T where
  | n (i : Nat) | t (is : List Nat)
mutual
inductive E where
  | c (d : D) | g (x : Str) (d : D) | v (i : Nat)
  | bin (o : Bop) (a b : E) | neg (a : E)
  | not (a : E) | and (a b : E) | or (a b : E) | ite (c a b : E)
  | cmp (o : Cop) (a b : E) | chn (o p : Cop) (a b c : E)
  | call (f : Nat) (es : Es) | cld (f : Nat) (es : Es) (i : Int)
  | bi (b : Bi) (es : Es)
  | me (m : Bi) (a b : E)
  | isi (a : E) (t : Ty)
  | ix (a b : E) | sl (a lo hi : E) | slf (a lo : E) | slt (a hi : E) | rev (a : E)
  | tup (es : Es) | lst (es : Es) | mls (es : Es) | dic (kvs : List (Int × Int))
  | comp (it : It) (t : T) (w : List Nat) (cnd elt : E)
  | said (a : E)
  | kg (i : Nat) (a : E) | kin (n : Bool) (i : Nat) (a : E)
  | fld (c : Nat) (a : E) (f : Str) | new (c f : Nat) | mc (c f : Nat) (m : Str) (a : E) (es : Es)
  | mkc (it : It) (t : T) (w : List Nat) (cnd elt : E) | mkm (es : Es) (b : E) | mkd | dgt (a k d : E) | din (n : Bool) (a k : E) | tur (a : E) | ggt (x : Str) (kvs : List (Str × Int)) (a : E) | hcomp (a : E) (t : T) (w : List Nat) (cnd elt : E)
  | popr (a : E) | lnr (a : E) | ise (a : E) | ing (a : E) (x : Str) (zs : List Str) | up (a : E)
  | mcd (c f : Nat) (m : Str) (a : E) (es : Es) (i : Int) | isc (c : Nat) (a : E) | fst (a : E) (s t : Str) | lnm (c f : Nat) (a : E) | rpm (c f : Nat) (a : E)
  | eqm (n : Bool) (c f : Nat) (a b : E) | inm (c f : Nat) (a b : E) | popi (a b : E) | lsr (a : E) | mkl (a : E)
  | mkx (c : Nat) (a : E) | mkb (a : E) | isx (j : Nat) (a : E) | isv (a : E) | xat (a : E)
  | nv
inductive Es where
  | nil | cons (e : E) (es : Es)
inductive It where
  | seq (e : E) | rng (e : E) | rngs (a b : E) | rng3 (a b c : E) | zip (a b : E) | enm (a : E) | zip3 (a b c : E)
end
/-- a target among several -/
inductive Tg where
  | n (i : Nat) | r (a : E) (b : E)
mutual
inductive S where
  | set (i : Nat) (e : E)
  | own (i : Nat) (e : E)
  | ownd (i : Nat) (tk : Bool)
  | unp (is : List Nat) (e : E)
  | par (i : Nat) (oi : Bool) (j : Nat) (oj : Bool) (a b : E)
  | sd2 (a b : E) (i : Nat) (e : E)
  | sr (a b e : E)
  | si (i : Nat) (b e : E)
  | sk (i : Nat) (b e : E)
  | app (i : Nat) (e : E) | ext (i : Nat) (e : E) | pop (i : Nat) | popu (i : Nat) (is : List Nat)
  | ex (e : E)
  | ite (c : E) (a b : Ss)
  | for (it : It) (t : T) (b : Ss)
  | whl (c : E) (b : Ss)
  | ret (e : E) | retN | retP (e : E) | pard (i j : Nat) (tk : Bool) (a : E) | par3 (i j l : Nat) (a : E) | set3 (i j l : Nat) (a b d : E)
  | rai (c : Nat) (e : E) | raiB (e : E) | ownf (i f : Nat) (es : Es)
  | sdp (a k e : E) | un2 (a b c k e : E) | rmr (a b : E)
  | sfl (c : Nat) (a : E) (f : Str) (e : E) | apr (a e : E) | unf (c : Nat) (a : E) (f : Str) (b : E) (g : Str) (e : E)
  | frz (i : Nat) | mv (i j : Nat)
  | nv
inductive Ss where
  | nil | cons (s : S) (r : Ss)
end

inductive Fl where
  | nx (e : Ev) | rt (d : D)

def putT (t : T) (d : D) (e : Ev) : Option Ev := match t with
  | .n i => if d.keep then some (e.put i (.v d)) else none
  | .t is => (match d with
    | .tup xs => if xs.length = is.length then some ((is.zip xs).foldl (fun e p => e.put p.1 (.v p.2)) e) else none
    | _ => none)
def rangeL (lo : Int) : Nat → List D
  | 0 => []
  | n + 1 => .int lo :: rangeL (lo + 1) n
def inB (i : Int) : Bool := decide (-(2 ^ 62) ≤ i ∧ i < 2 ^ 62)
def itRng (a b : D) : Option (List D) := match a, b with
  | .int i, .int j => if inB i && inB j && decide ((j - i).toNat ≤ 1000000) then some (rangeL i (j - i).toNat) else none
  | _, _ => none
def downL (hi : Int) : Nat → List D
  | 0 => []
  | n + 1 => .int hi :: downL (hi - 1) n
def itDown (a b c : D) : Option (List D) := match a, b, c with
  | .int i, .int j, .int k => if inB i && inB j && decide (k = -1) && decide ((i - j).toNat ≤ 1000000) then some (downL i (i - j).toNat) else none
  | _, _, _ => none
def zipD : List D → List D → List D
  | x :: xs, y :: ys => .tup [x, y] :: zipD xs ys
  | _, _ => []
def itZip (a b : D) : Option (List D) := match a, b with
  | .tup xs, .tup ys => some (zipD xs ys)
  | a, b => (match a.ls?, b.ls? with
    | some xs, some ys => some (zipD xs ys)
    | _, _ => none)
def zip3D : List D → List D → List D → List D
  | x :: xs, y :: ys, z :: zs => .tup [x, y, z] :: zip3D xs ys zs
  | _, _, _ => []
def itZip3 (a b c : D) : Option (List D) := match a.ls?, b.ls?, c.ls? with
  | some xs, some ys, some zs => some (zip3D xs ys zs)
  | _, _, _ => none
def enmD (i : Nat) : List D → List D
  | [] => []
  | x :: xs => .tup [.int i, x] :: enmD (i + 1) xs
def isBor : D → Bool
  | .bor _ => true
  | _ => false
def nb (t : Bool) (d : D) : Option D := if t && isBor d then none else some d
def itSeq (d : D) : Option (List D) := match d with
  | .str s => some (s.cps.toList.map fun c => .str ⟨#[c]⟩)
  | d => d.sq?
def compL (f : D → Hs → R (Option D)) : List D → Hs → R (List D)
  | [], h => .ok [] h
  | x :: xs, h => (f x h).bind fun o h => (compL f xs h).bind fun ys h => .ok (match o with | some y => y :: ys | none => ys) h
/-- a list's store -/
def setL {α : Type} (xs : List α) (i : Int) (x : α) : Option (List α) := (L2.ixN xs.length i).map fun j => xs.set j x
def kEq : D → D → Bool
  | .int i, .int j => i == j
  | .tup xs, .tup ys => PyData.eqvAll (D.pys xs) (D.pys ys)
  | _, _ => false
def kPut (k d : D) (kvs : List (D × D)) : List (D × D) := if (kvs.any fun p => kEq p.1 k) = true then kvs.map (fun p => if kEq p.1 k = true then (p.1, d) else p) else kvs ++ [(k, d)]
def isIT : D → Bool
  | .int _ => true
  | .tup xs => xs.all fun x => match x with
    | .int _ => true
    | _ => false
  | _ => false
/-- a key of the dict's make -/
def kOk (t : Bool) (d : D) : Bool := match t, d with
  | false, .int _ => true
  | true, .tup xs => xs.all fun x => match x with
    | .int _ => true
    | _ => false
  | _, _ => false
def kGet (kvs : List (D × D)) (k : D) : Option D := (kvs.find? fun p => kEq p.1 k).map (·.2)
def evV (e : Ev) (i : Nat) : Option D := match e.get i with
  | .v d => some d
  | .o xs => some (.bor xs)
  | _ => none
/-- what the text of an error is -/
def wordOf : D → Str
  | .exc c p => if c = 16 then "! broken " ++ PyData.shown p.py else
    "! " ++ ((["grounds", "standing", "catch", "course", "bed", "number", "book", "deed", "there", "gone", "lacking", "nothing", "many", "text", "word"] : List Str).getD (c - 1) "none of them")
  | _ => "! none of them"
def wordFits : D → Bool
  | .exc c p => (decide (1 ≤ c) && decide (c ≤ 15)) || (decide (c = 16) && p.shows && decide ((PyData.shown p.py).length ≤ 1000))
  | _ => false
mutual
/-- nothing that may change within -/
def D.tt : D → Bool
  | .non => true | .bl _ => true | .int _ => true | .str _ => true
  | .tup xs => D.tts xs
  | _ => false
def D.tts : List D → Bool
  | [] => true
  | x :: xs => D.tt x && D.tts xs
end
/-- a call whose list is the asker's own -/
def fClf (F : List D → Hs → R D) (ds : List D) (h : Hs) : R D := if D.tts ds = true then (match F ds [] with
    | .ok (.lst xs) _ => if D.tts xs = true then .ok (.lst xs) h else .bad
    | _ => .bad) else .bad

/-! ### instances -/
/-- a field's store -/
def putD (f : Str) (d : D) : List (Str × D) → List (Str × D)
  | [] => [(f, d)]
  | (g, x) :: r => if g = f then (g, d) :: r else (g, x) :: putD f d r
def isIns (c : Nat) (h : Hs) (x : D) : Option (Nat × List (Str × D)) := match x with
  | .ref i => (match h[i]? with
    | some (.ins c' fs) => if c' = c then some (i, fs) else none
    | _ => none)
  | _ => none
def isLst (h : Hs) (x : D) : Option (Nat × List D) := match x with
  | .ref i => (match h[i]? with
    | some (.lst xs) => some (i, xs)
    | _ => none)
  | _ => none
def fldO (c : Nat) (f : Str) (h : Hs) (x : D) : Option D := (isIns c h x).bind fun p => p.2.lookup f
def sflO (c : Nat) (f : Str) (d : D) (h : Hs) (x : D) : Option Hs := (isIns c h x).bind fun p => if p.2.length < 1000 ∧ d.keep = true then some (h.set p.1 (.ins c (putD f d p.2))) else none
def aprO (d : D) (h : Hs) (x : D) : Option Hs := (isLst h x).bind fun p => if p.2.length < LIM ∧ d.keep = true then some (h.set p.1 (.lst (p.2 ++ [d]))) else none
def poprO (h : Hs) (x : D) : Option (D × Hs) := (isLst h x).bind fun p => p.2.getLast?.map fun d => (d, h.set p.1 (.lst p.2.dropLast))
def lnrO (h : Hs) (x : D) : Option D := (isLst h x).map fun p => .int p.2.length
def iseO (h : Hs) (x : D) : Option D := (isLst h x).map fun p => .bl p.2.isEmpty
def dUp : D → Option D
  | .str s => if s.length ≤ 5592405 then some (.str (Txt.upper s)) else none
  | _ => none
def ingO (zs : List Str) : D → Option D
  | .str s => some (.bl (zs.any fun z => PyData.eqv (.str z) (.str s)))
  | _ => none
def isNonO : D → Option Unit
  | .non => some ()
  | _ => none

/-! ### the own methods behind len, repr, == -/
/-- what an own method is asked for: an instance of the class c; what it tells -/
def spR (c : Nat) (h : Hs) (x : D) (ok : D → Bool) (g : D → D) (r : R D) : R D := match isIns c h x with
  | some _ => (match r with
    | .ok d h' => if ok d = true then .ok (g d) h' else .bad
    | _ => .bad)
  | none => .bad
def okLen : D → Bool
  | .int n => decide (0 ≤ n ∧ n < 2 ^ 62)
  | _ => false
def okStr : D → Bool
  | .str _ => true
  | _ => false
def okBl : D → Bool
  | .bl _ => true
  | _ => false
def negD (n : Bool) : D → D
  | .bl b => .bl (n != b)
  | d => d
def idD (d : D) : D := d
/-- an instance of the class, or a thing that is none of any -/
def eqY (c : Nat) (h : Hs) : D → Bool
  | .ref i => (isIns c h (.ref i)).isSome
  | .exc _ _ => false
  | .bor _ => false
  | .scr _ => false
  | _ => true
def iscO (c : Nat) (h : Hs) (x : D) : Option D := if eqY c h x = true then some (.bl (isIns c h x).isSome) else none
def sameR : D → D → Bool
  | .ref i, .ref j => i == j
  | _, _ => false
def inmR (c : Nat) (h : Hs) (x y : D) (r : R D) : R D := if eqY c h x = true then (if sameR x y = true then (if (isIns c h y).isSome = true then .ok (.bl true) h else .bad) else spR c h y okBl idD r) else .bad
def eqmR (n : Bool) (c : Nat) (h : Hs) (x y : D) (r : R D) : R D := if eqY c h y = true then spR c h x okBl (negD n) r else .bad
def fstO (s t : Str) (d : D) : Option D := match d with
  | .tup _ => if d.shows && decide ((PyData.shown d.py).length + s.length + t.length ≤ 1000000) then some (.str (s ++ PyData.shown d.py ++ t)) else none
  | _ => none
/-- a list of the heap: one taken out by its place; one put out by what it equals; its items -/
def popiO (h : Hs) (x y : D) : Option (D × Hs) := (isLst h x).bind fun p => match y with
  | .int j => (match PySem.seqIndex? j p.2.length with
    | some k => if inB j = true then p.2[k]?.map fun d => (d, h.set p.1 (.lst (p.2.eraseIdx k))) else none
    | none => none)
  | _ => none
def rmrO (y : D) (h : Hs) (x : D) : Option Hs := (isLst h x).bind fun p => if (D.lst p.2).sound && y.sound && decide (p.2.length ≤ 100000) then (p.2.findIdx? fun z => PyData.eqv z.py y.py).map fun k => h.set p.1 (.lst (p.2.eraseIdx k)) else none
def lsrO (h : Hs) (x : D) : Option D := (isLst h x).map fun p => .lst p.2
def mklO (h : Hs) (x : D) : Option (List D) := if x.keep then x.sq?.bind fun xs => if xs.all D.keep && decide (xs.length ≤ 100000) then some xs else none else none

/-- an error's year -/
def xatO : D → Option D
  | .exc 16 (.int i) => some (.int i)
  | _ => none

/-! ### the heap's own lists and dicts -/
def keyL : List D → Option (List L2.Key)
  | [] => some []
  | .int i :: r => (keyL r).map (Sum.inl i :: ·)
  | .str s :: r => (keyL r).map (Sum.inr s :: ·)
  | _ :: _ => none
def keyD : D → Option (List L2.Key)
  | .tup xs => keyL xs
  | _ => none
def isDct (h : Hs) (x : D) : Option (Nat × List (List L2.Key × D)) := match x with
  | .ref i => (match h[i]? with
    | some (.dct kvs) => some (i, kvs)
    | _ => none)
  | _ => none
def valD (kvs : List (List L2.Key × D)) (k : List L2.Key) : Option D := (kvs.find? fun p => decide (p.1 = k)).map (·.2)
def putKD (kvs : List (List L2.Key × D)) (k : List L2.Key) (d : D) : List (List L2.Key × D) := if (kvs.any fun p => decide (p.1 = k)) = true then kvs.map (fun p => if p.1 = k then (p.1, d) else p) else kvs ++ [(k, d)]
def dgtO (h : Hs) (x k d : D) : Option D := (isDct h x).bind fun p => (keyD k).map fun q => (valD p.2 q).getD d
def dinO (n : Bool) (h : Hs) (x k : D) : Option D := (isDct h x).bind fun p => (keyD k).map fun q => .bl (n != (valD p.2 q).isSome)
def dputO (h : Hs) (x k d : D) : Option Hs := (isDct h x).bind fun p => (keyD k).bind fun q => if p.2.length < 100000 ∧ d.keep = true then some (h.set p.1 (.dct (putKD p.2 q d))) else none
def turO (h : Hs) (x : D) : Option D := (isLst h x).map fun p => .tup p.2
def ggtO (kvs : List (Str × Int)) : D → Option D
  | .str s => some (((kvs.find? fun p => decide (p.1 = s)).map fun p => D.int p.2).getD .non)
  | _ => none
def hAt (h : Hs) (r n i : Nat) : Option D := match h[r]? with
  | some (.lst xs) => if xs.length = n then xs[i]? else none
  | _ => none
def hLen (h : Hs) (r n : Nat) : Bool := match h[r]? with
  | some (.lst xs) => decide (xs.length = n)
  | _ => false
/-- a list's store -/
def putL (h : Hs) (x y z : D) : Option Hs := match x, y with
  | .ref r, .int j => if z.keep then (match h[r]? with
    | some (.lst xs) => (setL xs j z).map fun ys => h.set r (.lst ys)
    | _ => none) else none
  | _, _ => none
/-- a turn of a walk over a list of the heap -/
def hOne (f : D → Hs → R (Option D)) (r n : Nat) (j : Nat) (h : Hs) : R (Option D) := match hAt h r n j with
  | some x => f x h
  | none => .bad
def compN (f : Nat → Hs → R (Option D)) : List Nat → Hs → R (List D)
  | [], h => .ok [] h
  | x :: xs, h => (f x h).bind fun o h => (compN f xs h).bind fun ys h => .ok (match o with | some y => y :: ys | none => ys) h

/-- what a name holds behind its store: owned or not -/
def slOf (o : Bool) (d : D) : Option Sl := if o then (match d with
  | .lst xs => some (.o xs)
  | _ => none) else if d.keep then some (.v d) else none

section
variable (cl : Nat → List D → Hs → R D)
mutual
def evE : E → Ev → Hs → R D
  | .c d, _, h => .ok d h
  | .g _ d, _, h => .ok d h
  | .v i, e, h => R.of (evV e i) h
  | .bin o a b, e, h => (evE a e h).bind fun x h => (evE b e h).bind fun y h => R.of (dBin o x y) h
  | .neg a, e, h => (evE a e h).bind fun x h => match x with
    | .int i => .ok (.int (-i)) h
    | _ => .bad
  | .not a, e, h => (evE a e h).bind fun x h => R.of (x.tru.map fun b => .bl (!b)) h
  | .and a b, e, h => (evE a e h).bind fun x h => match x.tru with
    | some true => evE b e h
    | some false => .ok x h
    | none => .bad
  | .or a b, e, h => (evE a e h).bind fun x h => match x.tru with
    | some true => .ok x h
    | some false => evE b e h
    | none => .bad
  | .ite c a b, e, h => (evE c e h).bind fun x h => match x.tru with
    | some true => evE a e h
    | some false => evE b e h
    | none => .bad
  | .cmp o a b, e, h => (evE a e h).bind fun x h => (evE b e h).bind fun y h => R.of ((dCmp o x y).map .bl) h
  | .chn o p a b c, e, h => (evE a e h).bind fun x h => (evE b e h).bind fun y h => match dCmp o x y with
    | some true => (evE c e h).bind fun z h => R.of ((dCmp p y z).map .bl) h
    | some false => .ok (.bl false) h
    | none => .bad
  | .call f es, e, h => (evEs es e h).bind fun ds h => cl f ds h
  | .cld f es i, e, h => (evEs es e h).bind fun ds h => cl f (ds ++ [.int i]) h
  | .bi b es, e, h => (evEs es e h).bind fun ds h => R.of (dBi b ds) h
  | .me m a b, e, h => (evE a e h).bind fun x h => if rcvOk m x then (evE b e h).bind fun y h => R.of (dBi m [x, y]) h else .bad
  | .isi a t, e, h => (evE a e h).bind fun x h => R.of ((dIsi t x).map .bl) h
  | .ix a b, e, h => (evE a e h).bind fun x h => (evE b e h).bind fun y h => (match x with
    | .ref i => (match h[i]? with
      | some (.lst xs) => (match y with
        | .int j => R.of (L2.atI xs j) h
        | _ => .bad)
      | _ => .bad)
    | x => R.of (dIx x y) h)
  | .sl a lo hi, e, h => (evE a e h).bind fun x h => (evE lo e h).bind fun y h => (match y with
    | .int i => (evE hi e h).bind fun z h => (match z with
      | .int j => R.of (dSl x (some i) (some j)) h
      | _ => .bad)
    | _ => .bad)
  | .slf a lo, e, h => (evE a e h).bind fun x h => (evE lo e h).bind fun y h => (match y with
    | .int i => R.of (dSl x (some i) none) h
    | _ => .bad)
  | .slt a hi, e, h => (evE a e h).bind fun x h => (evE hi e h).bind fun z h => (match z with
    | .int j => R.of (dSl x none (some j)) h
    | _ => .bad)
  | .rev a, e, h => (evE a e h).bind fun x h => R.of (dRev x) h
  | .tup es, e, h => (evEs es e h).bind fun ds h => if ds.all D.keep then .ok (.tup ds) h else .bad
  | .lst es, e, h => (evEs es e h).bind fun ds h => if ds.all D.keep then .ok (.lst ds) h else .bad
  | .mls es, e, h => (evEs es e h).bind fun ds h => if ds.all D.keep then .ok (.ref h.length) (h ++ [.lst ds]) else .bad
  | .dic kvs, _, h => .ok (.dct kvs) h
  | .comp it t w cnd elt, e, h => (evI false it e h).bind fun xs h => if xs.length ≤ LIM then (compL (fun x h => match putT t x (e.wipe w) with
      | none => .bad
      | some e' => (evE cnd e' h).bind fun c h => match c.tru with
        | some true => (evE elt e' h).bind fun y h => if y.keep then .ok (some y) h else .bad
        | some false => .ok none h
        | none => .bad) xs h).calm.bind fun ys h => .ok (.lst ys) h else .bad
  | .said a, e, h => match evE a e h with
    | .ok d h => if d.shows then .ok (.str (PyData.shown d.py)) h else .bad
    | .exc x h => if wordFits x then .ok (.str (wordOf x)) h else .bad
    | .bad => .bad
  | .kg i a, e, h => (match e.get i with
    | .k t kvs => (evE a e h).bind fun y h => if kOk t y then R.of (kGet kvs y) h else .bad
    | _ => .bad)
  | .kin n i a, e, h => (evE a e h).bind fun y h => (match e.get i with
    | .k t kvs => if kOk t y then .ok (.bl (n != (kGet kvs y).isSome)) h else .bad
    | _ => .bad)
  | .fld c a f, e, h => (evE a e h).bind fun x h => R.of (fldO c f h x) h
  | .new c f, _, h => (cl f [.ref h.length] (h ++ [.ins c []])).bind fun d h' => (R.of (isNonO d) h').bind fun _ h' => .ok (.ref h.length) h'
  | .mc c f m a es, e, h => (evE a e h).bind fun x h => (match isIns c h x with
    | some p => if p.2.lookup m = none then (evEs es e h).bind fun ds h => cl f (x :: ds) h else .bad
    | none => .bad)
  | .mkc it t w cnd elt, e, h => ((evI false it e h).bind fun xs h => if xs.length ≤ LIM then (compL (fun x h => match putT t x (e.wipe w) with
      | none => .bad
      | some e' => (evE cnd e' h).bind fun c h => match c.tru with
        | some true => (evE elt e' h).bind fun y h => if y.keep then .ok (some y) h else .bad
        | some false => .ok none h
        | none => .bad) xs h).calm.bind fun ys h => R.ok (D.lst ys) h else R.bad).bind fun x h => (match x with
    | .lst ds => if ds.all D.keep then .ok (.ref h.length) (h ++ [.lst ds]) else .bad
    | _ => .bad)
  | .mkm es b, e, h => (((evEs es e h).bind fun ds h => if ds.all D.keep then R.ok (D.lst ds) h else R.bad).bind fun x h => (evE b e h).bind fun y h => R.of (dBin .mul x y) h).bind fun x h => (match x with
    | .lst ds => if ds.all D.keep then .ok (.ref h.length) (h ++ [.lst ds]) else .bad
    | _ => .bad)
  | .mkd, _, h => .ok (.ref h.length) (h ++ [.dct []])
  | .dgt a k d, e, h => (evE a e h).bind fun x h => if (isDct h x).isSome then (evE k e h).bind fun y h => (evE d e h).bind fun z h => R.of (dgtO h x y z) h else .bad
  | .din n a k, e, h => (evE k e h).bind fun y h => (evE a e h).bind fun x h => R.of (dinO n h x y) h
  | .tur a, e, h => (evE a e h).bind fun x h => R.of (turO h x) h
  | .ggt _ kvs a, e, h => (evE a e h).bind fun x h => R.of (ggtO kvs x) h
  | .hcomp a t w cnd elt, e, h => (evE a e h).bind fun x h => (match isLst h x with
    | some p => if p.2.length ≤ LIM then (compN (hOne (fun x h => match putT t x (e.wipe w) with
      | none => .bad
      | some e' => (evE cnd e' h).bind fun c h => match c.tru with
        | some true => (evE elt e' h).bind fun y h => if y.keep then .ok (some y) h else .bad
        | some false => .ok none h
        | none => .bad) p.1 p.2.length) (List.range p.2.length) h).calm.bind fun ys h => if hLen h p.1 p.2.length then .ok (.lst ys) h else .bad else .bad
    | none => .bad)
  | .popr a, e, h => (evE a e h).bind fun x h => (match poprO h x with
    | some p => .ok p.1 p.2
    | none => .bad)
  | .lnr a, e, h => (evE a e h).bind fun x h => R.of (lnrO h x) h
  | .mcd c f m a es i, e, h => (evE a e h).bind fun x h => (match isIns c h x with
    | some p => if p.2.lookup m = none then (evEs es e h).bind fun ds h => cl f (x :: (ds ++ [.int i])) h else .bad
    | none => .bad)
  | .isc c a, e, h => (evE a e h).bind fun x h => R.of (iscO c h x) h
  | .fst a s t, e, h => (evE a e h).bind fun x h => R.of (fstO s t x) h
  | .lnm c f a, e, h => (evE a e h).bind fun x h => spR c h x okLen idD (cl f [x] h)
  | .rpm c f a, e, h => (evE a e h).bind fun x h => spR c h x okStr idD (cl f [x] h)
  | .eqm n c f a b, e, h => (evE a e h).bind fun x h => (evE b e h).bind fun y h => eqmR n c h x y (cl f [x, y] h)
  | .inm c f a b, e, h => (evE a e h).bind fun x h => (evE b e h).bind fun y h => inmR c h x y (cl f [y, x] h)
  | .popi a b, e, h => (evE a e h).bind fun x h => (match isLst h x with
    | some _ => (evE b e h).bind fun y h => (match popiO h x y with
      | some p => .ok p.1 p.2
      | none => .bad)
    | none => .bad)
  | .lsr a, e, h => (evE a e h).bind fun x h => R.of (lsrO h x) h
  | .mkl a, e, h => (evE a e h).bind fun x h => (match mklO h x with
    | some ds => .ok (.ref h.length) (h ++ [.lst ds])
    | none => .bad)
  | .ise a, e, h => (evE a e h).bind fun x h => R.of (iseO h x) h
  | .ing a _ zs, e, h => (evE a e h).bind fun x h => R.of (ingO zs x) h
  | .up a, e, h => (evE a e h).bind fun x h => R.of (dUp x) h
  | .mkx c a, e, h => (evE a e h).bind fun d h => .ok (.exc c d) h
  | .mkb a, e, h => (evE a e h).bind fun d h => (match d with
    | .int i => .ok (.exc 16 (.int i)) h
    | _ => .bad)
  | .isx j a, e, h => (evE a e h).bind fun d h => R.of ((dIsi (.exc j) d).map .bl) h
  | .isv a, e, h => (evE a e h).bind fun d h => R.of ((dIsi .value d).map .bl) h
  | .xat a, e, h => (evE a e h).bind fun d h => R.of (xatO d) h
  | .nv, _, _ => .bad
def evEs : Es → Ev → Hs → R (List D)
  | .nil, _, h => .ok [] h
  | .cons a r, e, h => (evE a e h).bind fun x h => (evEs r e h).bind fun xs h => .ok (x :: xs) h
def evI (st : Bool) : It → Ev → Hs → R (List D)
  | .seq a, e, h => (evE a e h).bind fun x h => R.of ((nb st x).bind itSeq) h
  | .rng a, e, h => (evE a e h).bind fun x h => R.of (itRng (.int 0) x) h
  | .rngs a b, e, h => (evE a e h).bind fun x h => (evE b e h).bind fun y h => R.of (itRng x y) h
  | .rng3 a b c, e, h => (evE a e h).bind fun x h => (evE b e h).bind fun y h => (evE c e h).bind fun z h => R.of (itDown x y z) h
  | .zip a b, e, h => (evE a e h).bind fun x h => (evE b e h).bind fun y h => R.of ((nb st x).bind fun x => (nb st y).bind fun y => itZip x y) h
  | .enm a, e, h => (evE a e h).bind fun x h => R.of ((nb st x).bind fun x => x.sq?.map (enmD 0)) h
  | .zip3 a b c, e, h => (evE a e h).bind fun x h => (evE b e h).bind fun y h => (evE c e h).bind fun z h => R.of ((nb st x).bind fun x => (nb st y).bind fun y => (nb st z).bind fun z => itZip3 x y z) h
end

def R.fl (r : R Fl) (f : Ev → Hs → R Fl) : R Fl := match r with
  | .ok (.nx e) h => f e h
  | .ok (.rt d) h => .ok (.rt d) h
  | .exc x h => .exc x h
  | .bad => .bad
@[simp] theorem R.fl_nx (e : Ev) (h : Hs) (f : Ev → Hs → R Fl) : (R.ok (Fl.nx e) h).fl f = f e h := rfl
@[simp] theorem R.fl_rt (d : D) (h : Hs) (f : Ev → Hs → R Fl) : (R.ok (Fl.rt d) h).fl f = .ok (.rt d) h := rfl
@[simp] theorem R.fl_exc (x : D) (h : Hs) (f : Ev → Hs → R Fl) : (R.exc x h).fl f = .exc x h := rfl
@[simp] theorem R.fl_bad (f : Ev → Hs → R Fl) : (R.bad).fl f = .bad := rfl
def forL (f : D → Ev → Hs → R Fl) : List D → Ev → Hs → R Fl
  | [], e, h => .ok (.nx e) h
  | x :: xs, e, h => (f x e h).fl fun e h => forL f xs e h
def whlL (c : Ev → Hs → R Bool) (b : Ev → Hs → R Fl) : Nat → Ev → Hs → R Fl
  | 0, _, _ => .bad
  | n + 1, e, h => (c e h).bind fun t h => if t then (b e h).fl fun e h => whlL c b n e h else .ok (.nx e) h
/-- at the end of a def nothing is borrowed any more -/
def Sl.fin : Sl → Sl
  | .o xs => .v (.lst xs)
  | .k _ _ => .u
  | s => s
def Ev.fin (e : Ev) : Ev := e.map Sl.fin
abbrev turns : Nat := 1000000
mutual
def exS : S → Ev → Hs → R Fl
  | .set i a, e, h => (evE cl a e h).bind fun x h => if x.keep then .ok (.nx (e.put i (.v x))) h else .bad
  | .own i a, e, h => (evE cl a e h).bind fun x h => (match x with
    | .lst xs => if xs.all D.keep then .ok (.nx (e.put i (.o xs))) h else .bad
    | _ => .bad)
  | .ownd i tk, e, h => .ok (.nx (e.put i (.k tk []))) h
  | .unp is a, e, h => (evE cl a e h).bind fun x h => match putT (.t is) x e with
    | some e' => .ok (.nx e') h
    | none => .bad
  | .par i oi j oj a b, e, h => (evE cl a e h).bind fun x h => (evE cl b e h).bind fun y h => (match oi, oj with
    | false, false => if x.keep && y.keep then .ok (.nx ((e.put i (.v x)).put j (.v y))) h else .bad
    | true, false => (match x with
      | .lst xs => if xs.all D.keep && y.keep then .ok (.nx ((e.put i (.o xs)).put j (.v y))) h else .bad
      | _ => .bad)
    | false, true => (match y with
      | .lst ys => if x.keep && ys.all D.keep then .ok (.nx ((e.put i (.v x)).put j (.o ys))) h else .bad
      | _ => .bad)
    | true, true => (match x, y with
      | .lst xs, .lst ys => if xs.all D.keep && ys.all D.keep then .ok (.nx ((e.put i (.o xs)).put j (.o ys))) h else .bad
      | _, _ => .bad))
  | .pard i j tk a, e, h => (evE cl a e h).bind fun x h => (match x with
    | .lst xs => if xs.all D.keep then .ok (.nx ((e.put i (.o xs)).put j (.k tk []))) h else .bad
    | _ => .bad)
  | .retP a, e, h => (evE cl a e h).bind fun x h => if x.keep then .ok (.rt x) h else .bad
  | .set3 i j l a b d, e, h => (evE cl a e h).bind fun x h => (evE cl b e h).bind fun y h => (evE cl d e h).bind fun z h => if x.keep && (y.keep && z.keep) then .ok (.nx (((e.put i (.v x)).put j (.v y)).put l (.v z))) h else .bad
  | .par3 i j l a, e, h => (evE cl a e h).bind fun x h => if x.keep then .ok (.nx (((e.put i (.o [])).put j (.o [])).put l (.v x))) h else .bad
  | .sd2 a b i c, e, h => (evE cl c e h).bind fun z h => (match z with
    | .tup [p, q] => (evE cl a e h).bind fun x h => (evE cl b e h).bind fun y h => (match x, y with
      | .ref r, .int j => (match h[r]? with
        | some (.lst xs) => (match setL xs j p with
          | some ys => .ok (.nx (e.put i (.v q))) (h.set r (.lst ys))
          | none => .bad)
        | _ => .bad)
      | _, _ => .bad)
    | _ => .bad)
  | .sr a b c, e, h => (evE cl c e h).bind fun z h => (evE cl a e h).bind fun x h => (evE cl b e h).bind fun y h => (match x, y with
    | .ref r, .int j => if z.keep then (match h[r]? with
      | some (.lst xs) => (match setL xs j z with
        | some ys => .ok (.nx e) (h.set r (.lst ys))
        | none => .bad)
      | _ => .bad) else .bad
    | _, _ => .bad)
  | .si i b c, e, h => (match e.get i with
    | .o xs => (evE cl c e h).bind fun z h => (evE cl b e h).bind fun y h => (match y with
      | .int j => if z.keep then (match setL xs j z with
        | some ys => .ok (.nx (e.put i (.o ys))) h
        | none => .bad) else .bad
      | _ => .bad)
    | _ => .bad)
  | .sk i b c, e, h => (match e.get i with
    | .k t kvs => (evE cl c e h).bind fun z h => (evE cl b e h).bind fun y h => if z.keep && kOk t y && decide (kvs.length < 100000) then .ok (.nx (e.put i (.k t (kPut y z kvs)))) h else .bad
    | _ => .bad)
  | .app i a, e, h => (match e.get i with
    | .o xs => (evE cl a e h).bind fun x h => if x.keep && decide (xs.length < LIM) then .ok (.nx (e.put i (.o (xs ++ [x])))) h else .bad
    | _ => .bad)
  | .ext i a, e, h => (match e.get i with
    | .o xs => (evE cl a e h).bind fun x h => (match x with
      | .lst ys => if ys.all D.keep && decide (xs.length + ys.length ≤ LIM) then .ok (.nx (e.put i (.o (xs ++ ys)))) h else .bad
      | _ => .bad)
    | _ => .bad)
  | .pop i, e, h => (match e.get i with
    | .o xs => if xs.isEmpty then .bad else .ok (.nx (e.put i (.o xs.dropLast))) h
    | _ => .bad)
  | .popu i is, e, h => (match e.get i with
    | .o (x :: xs) => (match putT (.t is) x (e.put i (.o xs)) with
      | some e' => .ok (.nx e') h
      | none => .bad)
    | _ => .bad)
  | .ex a, e, h => (evE cl a e h).bind fun _ h => .ok (.nx e) h
  | .ite c a b, e, h => (evE cl c e h).bind fun x h => match x.tru with
    | some true => exB a e h
    | some false => exB b e h
    | none => .bad
  | .for it t b, e, h => (evI cl true it e h).bind fun xs h => forL (fun x e h => match putT t x e with
      | none => .bad
      | some e' => exB b e' h) xs e h
  | .whl c b, e, h => whlL (fun e h => (evE cl c e h).bind fun x h => R.of x.tru h) (fun e h => exB b e h) turns e h
  | .ret a, e, h => (evE cl a e.fin h).bind fun x h => if x.keep then .ok (.rt x) h else .bad
  | .retN, _, h => .ok (.rt .non) h
  | .rai c a, e, h => (evE cl a e h).bind fun x h => .exc (.exc c x) h
  | .raiB a, e, h => (evE cl a e h).bind fun x h => (match x with
    | .int i => .exc (.exc 16 (.int i)) h
    | _ => .bad)
  | .ownf i f es, e, h => ((evEs cl es e h).bind (fClf (cl f))).bind fun x h => (match x with
    | .lst xs => if xs.all D.keep then .ok (.nx (e.put i (.o xs))) h else .bad
    | _ => .bad)
  | .frz i, e, h => (match e.get i with
    | .o xs => .ok (.nx (e.put i (.v (.lst xs)))) h
    | _ => .bad)
  | .mv i j, e, h => (match e.get j with
    | .o xs => .ok (.nx ((e.put j .u).put i (.o xs))) h
    | _ => .bad)
  | .sdp a k b, e, h => (evE cl b e h).bind fun z h => (evE cl a e h).bind fun x h => (evE cl k e h).bind fun y h => (match dputO h x y z with
    | some h' => .ok (.nx e) h'
    | none => .bad)
  | .rmr a b, e, h => (evE cl a e h).bind fun x h => (match isLst h x with
    | some _ => (evE cl b e h).bind fun y h => (match rmrO y h x with
      | some h' => .ok (.nx e) h'
      | none => .bad)
    | none => .bad)
  | .un2 a b c k d, e, h => (evE cl d e h).bind fun z h => (match z with
    | .tup [p, q] => (evE cl a e h).bind fun x h => (evE cl b e h).bind fun y h => (match putL h x y p with
      | some h => (evE cl c e h).bind fun x h => (evE cl k e h).bind fun y h => (match dputO h x y q with
        | some h' => .ok (.nx e) h'
        | none => .bad)
      | none => .bad)
    | _ => .bad)
  | .sfl c a f b, e, h => (evE cl b e h).bind fun y h => (evE cl a e h).bind fun x h => (match sflO c f y h x with
    | some h' => .ok (.nx e) h'
    | none => .bad)
  | .apr a b, e, h => (evE cl a e h).bind fun x h => (match isLst h x with
    | some _ => (evE cl b e h).bind fun y h => (match aprO y h x with
      | some h' => .ok (.nx e) h'
      | none => .bad)
    | none => .bad)
  | .unf c a f b g d, e, h => (evE cl d e h).bind fun z h => (match z with
    | .tup [p, q] => (evE cl a e h).bind fun x h => (match sflO c f p h x with
      | some h => (evE cl b e h).bind fun y h => (match sflO c g q h y with
        | some h' => .ok (.nx e) h'
        | none => .bad)
      | none => .bad)
    | _ => .bad)
  | .nv, _, _ => .bad
def exB : Ss → Ev → Hs → R Fl
  | .nil, e, h => .ok (.nx e) h
  | .cons s r, e, h => (exS s e h).fl fun e h => exB r e h
end
end
def R.out (r : R Fl) : R D := match r with
  | .ok (.nx _) h => .ok .non h
  | .ok (.rt d) h => .ok d h
  | .exc x h => .exc x h
  | .bad => .bad

/-- a def: how many parameters, how many names, its rows -/
structure Fn where
  np : Nat
  nn : Nat
  body : Ss
def startE (n : Nat) (ds : List D) : Ev := ds.map Sl.v ++ List.replicate (n - ds.length) .u
/-- what a def is handed in: borrowed things to be read alone -/
def D.hand : D → D
  | .bor xs => .scr xs
  | d => d
def runF (P : Nat → Option Fn) : Nat → Nat → List D → Hs → R D
  | 0, _, _, _ => .bad
  | k + 1, f, ds, h => match P f with
    | none => .bad
    | some fn => if ds.length = fn.np then
        (exB (runF P k) fn.body (startE fn.nn (ds.map D.hand)) h).out
      else .bad
end Tv
end

section
set_option autoImplicit false
set_option maxHeartbeats 1000000
/-! How the small language's values lie in the layer's heap. -/
namespace Tv
open PySem PySem.Spec PyProof.Rows L2

/-- what may change: the heap's own objects, the lists that names own; pr: what is not ours to touch -/
structure Wd where
  hp : List Addr
  ow : List (Option Addr)
  pr : Addr → Prop
def Wd.forb (w : Wd) (a : Addr) : Prop := a ∈ w.hp ∨ some a ∈ w.ow ∨ w.pr a

def exA (K : PySem.W.Frag) (c : Nat) : Addr := He.ga K (exN c)
mutual
inductive VR (K : PySem.W.Frag) (w : Wd) (H : Hp) : D → V → Prop
  | non : VR K w H .non .non
  | bl (b : Bool) : VR K w H (.bl b) (.bl b)
  | int (i : Int) : VR K w H (.int i) (.int i)
  | str (s : Str) : VR K w H (.str s) (.str s)
  | tup {a : Addr} {xs : List V} {ds : List D} : H a = some (.tup xs) → VRs K w H ds xs → VR K w H (.tup ds) (.ref a)
  | lst {a : Addr} {xs : List V} {ds : List D} : ¬ w.forb a → H a = some (.lst xs) → VRs K w H ds xs → VR K w H (.lst ds) (.ref a)
  | dct {a : Addr} {kvs : List (Int × Int)} : ¬ w.forb a → (kvs.map (·.1)).Nodup → H a = some (.dK (kvs.map fun p => (Sum.inl p.1, V.int p.2))) → VR K w H (.dct kvs) (.ref a)
  | ref {i : Nat} {a : Addr} : w.hp[i]? = some a → VR K w H (.ref i) (.ref a)
  | exc {c : Nat} {p : D} {a : Addr} : ¬ w.forb a → c ≤ 15 → H a = some (ExO (.ref (exA K c)) a) → VR K w H (.exc c p) (.ref a)
  | exb {i : Int} {a dx : Addr} : ¬ w.forb a → ¬ w.forb dx → H a = some (exo a (exA K 16) (some dx)) → H dx = some (exd dx [("at", .int i)]) → VR K w H (.exc 16 (.int i)) (.ref a)
inductive VRs (K : PySem.W.Frag) (w : Wd) (H : Hp) : List D → List V → Prop
  | nil : VRs K w H [] []
  | cons {d : D} {v : V} {ds : List D} {vs : List V} : VR K w H d v → VRs K w H ds vs → VRs K w H (d :: ds) (v :: vs)
end

/-- a list of the base's own -/
def KL (K : PySem.W.Frag) (a : Addr) (xs : List V) : Prop := ∃ (o : Obj) (its : Array Value) (n : Nat), K.lookup a = some o ∧ o.cls = .type "list" ∧ o.dict = none ∧ o.data = .seq its n ∧ its.size ≤ sizeLine ∧ Vals xs its.toList
/-- what a name may hold: a list that is not ours may be read -/
inductive VS (K : PySem.W.Frag) (w : Wd) (H : Hp) : D → V → Prop
  | of {d : D} {v : V} : VR K w H d v → VS K w H d v
  | scr {a : Addr} {xs : List V} {ds : List D} : a ∉ w.hp → some a ∉ w.ow → Rd H a (.lst xs) → VRs K w H ds xs → VS K w H (.scr ds) (.ref a)
  | scrK {a : Addr} {xs : List V} {ds : List D} : KL K a xs → VRs K w H ds xs → VS K w H (.scr ds) (.ref a)
/-- what an expression gives: a list that a name owns may be read -/
inductive VT (K : PySem.W.Frag) (w : Wd) (H : Hp) : D → V → Prop
  | of {d : D} {v : V} : VS K w H d v → VT K w H d v
  | bor {a : Addr} {xs : List V} {ds : List D} : some a ∈ w.ow → a ∉ w.hp → H a = some (.lst xs) → VRs K w H ds xs → VT K w H (.bor ds) (.ref a)
inductive VTs (K : PySem.W.Frag) (w : Wd) (H : Hp) : List D → List V → Prop
  | nil : VTs K w H [] []
  | cons {d : D} {v : V} {ds : List D} {vs : List V} : VT K w H d v → VTs K w H ds vs → VTs K w H (d :: ds) (v :: vs)

/-- from one state to a later one, the names' own lists as they were -/
structure Ext (w : Wd) (H : Hp) (w' : Wd) (H' : Hp) : Prop where
  pre : ∃ n, w'.hp = w.hp ++ n ∧ ∀ a ∈ n, H a = none
  ow : w'.ow = w.ow
  pr : ∀ a, w.pr a → w'.pr a
  prf : ∀ a, w'.pr a → w.pr a ∨ H a = none
  keep : ∀ a o, H a = some o → a ∉ w.hp → (∀ ps, o ≠ .tbl ps) → H' a = some o
  tups : ∀ a xs, H a = some (.tup xs) → H' a = some (.tup xs)
  dom : ∀ a, H' a = none → H a = none

variable {K : PySem.W.Frag}

theorem Ext.refl (w : Wd) (H : Hp) : Ext w H w H := ⟨⟨[], by simp, fun _ h => by cases h⟩, rfl, fun _ h => h, fun _ h => .inl h, fun _ _ h _ _ => h, fun _ _ h => h, fun _ h => h⟩
theorem Ext.trans {w w1 w2 : Wd} {H H1 H2 : Hp} (a : Ext w H w1 H1) (b : Ext w1 H1 w2 H2) : Ext w H w2 H2 := by
  obtain ⟨n1, e1, f1⟩ := a.pre
  obtain ⟨n2, e2, f2⟩ := b.pre
  refine ⟨⟨n1 ++ n2, by rw [e2, e1, List.append_assoc], fun c hc => ?_⟩, b.ow.trans a.ow, fun c h => b.pr c (a.pr c h), fun c h => ?_, fun c o h hn ht => ?_, fun c xs h => b.tups c xs (a.tups c xs h), fun c h => a.dom c (b.dom c h)⟩
  · rcases List.mem_append.mp hc with h | h
    · exact f1 c h
    · exact a.dom c (f2 c h)
  · rcases b.prf c h with q | q
    · exact a.prf c q
    · exact .inr (a.dom c q)
  · refine b.keep c o (a.keep c o h hn ht) ?_ ht
    rw [e1]
    intro hm
    rcases List.mem_append.mp hm with q | q
    · exact hn q
    · rw [f1 c q] at h; cases h
theorem Ext.forb {w w' : Wd} {H H' : Hp} (e : Ext w H w' H') {a : Addr} (h : w'.forb a) : w.forb a ∨ H a = none := by
  obtain ⟨n, e1, f⟩ := e.pre
  rcases h with h | h | h
  · rw [e1] at h
    rcases List.mem_append.mp h with q | q
    · exact .inl (.inl q)
    · exact .inr (f a q)
  · rw [e.ow] at h; exact .inl (.inr (.inl h))
  · rcases e.prf a h with q | q
    · exact .inl (.inr (.inr q))
    · exact .inr q

/-- from one state to a later one, by whatever -/
structure ExtS (w : Wd) (H : Hp) (w' : Wd) (H' : Hp) : Prop where
  pre : ∃ n, w'.hp = w.hp ++ n ∧ ∀ a ∈ n, H a = none
  fo : ∀ a, w'.forb a → w.forb a ∨ H a = none
  keep : ∀ a o, H a = some o → a ∉ w.hp → some a ∉ w.ow → (∀ ps, o ≠ .tbl ps) → H' a = some o
  tups : ∀ a xs, H a = some (.tup xs) → H' a = some (.tup xs)
  mi : ∀ a, some a ∈ w'.ow → some a ∈ w.ow ∨ H a = none
  pr : ∀ a, w.pr a → w'.pr a
  dom : ∀ a, H' a = none → H a = none
theorem Ext.s {w w' : Wd} {H H' : Hp} (e : Ext w H w' H') : ExtS w H w' H' := ⟨e.pre, fun _ => e.forb, fun a o h1 h2 _ h3 => e.keep a o h1 h2 h3, e.tups, fun a h => .inl (by rw [← e.ow]; exact h), e.pr, e.dom⟩
theorem ExtS.refl (w : Wd) (H : Hp) : ExtS w H w H := (Ext.refl w H).s
theorem ExtS.trans {w w1 w2 : Wd} {H H1 H2 : Hp} (a : ExtS w H w1 H1) (b : ExtS w1 H1 w2 H2) : ExtS w H w2 H2 := by
  obtain ⟨n1, e1, f1⟩ := a.pre
  obtain ⟨n2, e2, f2⟩ := b.pre
  refine ⟨⟨n1 ++ n2, by rw [e2, e1, List.append_assoc], fun c hc => ?_⟩, fun c h => ?_, fun c o h hn hm ht => ?_, fun c xs h => b.tups c xs (a.tups c xs h), fun c h => ?_, fun c h => b.pr c (a.pr c h), fun c h => a.dom c (b.dom c h)⟩
  · rcases List.mem_append.mp hc with h | h
    · exact f1 c h
    · exact a.dom c (f2 c h)
  · rcases b.fo c h with q | q
    · exact a.fo c q
    · exact .inr (a.dom c q)
  · refine b.keep c o (a.keep c o h hn hm ht) ?_ (fun z => ?_) ht
    · rw [e1]
      intro q
      rcases List.mem_append.mp q with q | q
      · exact hn q
      · rw [f1 c q] at h; cases h
    · rcases a.mi c z with q | q
      · exact hm q
      · rw [q] at h; cases h
  · rcases b.mi c h with q | q
    · exact a.mi c q
    · exact .inr (a.dom c q)
mutual
theorem VR.exts {w w' : Wd} {H H' : Hp} (e : ExtS w H w' H') : ∀ {d : D} {v : V}, VR K w H d v → VR K w' H' d v
  | _, _, .non => .non
  | _, _, .bl b => .bl b
  | _, _, .int i => .int i
  | _, _, .str s => .str s
  | _, _, .tup (a := a) q r => by
    exact .tup (e.tups _ _ q) (VRs.exts e r)
  | _, _, .lst (a := a) n q r => by
    refine .lst (fun z => ?_) (e.keep _ _ q (fun z => n (.inl z)) (fun z => n (.inr (.inl z))) fun ps e => by cases e) (VRs.exts e r)
    rcases e.fo a z with z | z
    · exact n z
    · rw [z] at q; cases q
  | _, _, .dct (a := a) n nd q => by
    refine .dct (fun z => ?_) nd (e.keep _ _ q (fun z => n (.inl z)) (fun z => n (.inr (.inl z))) fun ps e => by cases e)
    rcases e.fo a z with z | z
    · exact n z
    · rw [z] at q; cases q
  | _, _, .exc n l q => by
    refine .exc (fun z => ?_) l (e.keep _ _ q (fun z => n (.inl z)) (fun z => n (.inr (.inl z))) fun ps e => by cases e)
    rcases e.fo _ z with z | z
    · exact n z
    · rw [z] at q; cases q
  | _, _, .exb n n2 q q2 => by
    refine .exb (fun z => ?_) (fun z => ?_) (e.keep _ _ q (fun z => n (.inl z)) (fun z => n (.inr (.inl z))) fun ps e => by cases e) (e.keep _ _ q2 (fun z => n2 (.inl z)) (fun z => n2 (.inr (.inl z))) fun ps e => by cases e)
    · rcases e.fo _ z with z | z
      · exact n z
      · rw [z] at q; cases q
    · rcases e.fo _ z with z | z
      · exact n2 z
      · rw [z] at q2; cases q2
  | _, _, .ref q => by
    obtain ⟨m, e, _⟩ := e.pre
    refine .ref ?_
    rw [e, List.getElem?_append_left (List.getElem?_eq_some_iff.mp q).1]
    exact q
theorem VRs.exts {w w' : Wd} {H H' : Hp} (e : ExtS w H w' H') : ∀ {ds : List D} {vs : List V}, VRs K w H ds vs → VRs K w' H' ds vs
  | _, _, .nil => .nil
  | _, _, .cons a b => .cons (VR.exts e a) (VRs.exts e b)
end
theorem not_pre {w w' : Wd} {H : Hp} (h : ∃ n, w'.hp = w.hp ++ n ∧ ∀ a ∈ n, H a = none) {a : Addr} (hn : a ∉ w.hp) (ha : H a ≠ none) : a ∉ w'.hp := by
  obtain ⟨m, e, f⟩ := h
  rw [e]
  intro z
  rcases List.mem_append.mp z with z | z
  · exact hn z
  · exact ha (f a z)
theorem Rd.some {H : Hp} {a : Addr} {u : HO} (h : Rd H a u) : H a ≠ none := by
  rcases h with h | ⟨o, h⟩ <;> rw [h] <;> simp
theorem VS.exts {w w' : Wd} {H H' : Hp} (e : ExtS w H w' H') {d : D} {v : V} (h : VS K w H d v) : VS K w' H' d v := by
  cases h with
  | of h => exact .of (h.exts e)
  | scrK q r => exact .scrK q (r.exts e)
  | @scr a xs ds n1 n2 q r =>
    refine .scr (not_pre e.pre n1 (Rd.some q)) (fun z => ?_) ?_ (r.exts e)
    · rcases e.mi a z with z | z
      · exact n2 z
      · exact Rd.some q z
    · rcases q with q | ⟨o, q⟩
      · exact .inl (e.keep _ _ q n1 n2 fun ps e => by cases e)
      · exact .inr ⟨o, e.keep _ _ q n1 n2 fun ps e => by cases e⟩
theorem VR.ext {w w' : Wd} {H H' : Hp} (e : Ext w H w' H') {d : D} {v : V} (h : VR K w H d v) : VR K w' H' d v := h.exts e.s
theorem VRs.ext {w w' : Wd} {H H' : Hp} (e : Ext w H w' H') {ds : List D} {vs : List V} (h : VRs K w H ds vs) : VRs K w' H' ds vs := h.exts e.s
theorem VS.ext {w w' : Wd} {H H' : Hp} (e : Ext w H w' H') {d : D} {v : V} (h : VS K w H d v) : VS K w' H' d v := h.exts e.s
theorem VT.ext {w w' : Wd} {H H' : Hp} (e : Ext w H w' H') {d : D} {v : V} (h : VT K w H d v) : VT K w' H' d v := by
  cases h with
  | of h => exact .of (h.ext e)
  | @bor a xs ds m n q r => exact .bor (by rw [e.ow]; exact m) (not_pre e.pre n (by rw [q]; simp)) (e.keep _ _ q n fun ps e => by cases e) (r.ext e)
theorem VTs.ext {w w' : Wd} {H H' : Hp} (e : Ext w H w' H') : ∀ {ds : List D} {vs : List V}, VTs K w H ds vs → VTs K w' H' ds vs
  | _, _, .nil => .nil
  | _, _, .cons a r => .cons (a.ext e) (r.ext e)
theorem VT.keep {w : Wd} {H : Hp} {d : D} {v : V} (h : VT K w H d v) (k : d.keep = true) : VR K w H d v := by
  cases h with
  | of h =>
    cases h with
    | of h => exact h
    | scr => cases k
    | scrK => cases k
  | bor => cases k
theorem VTs.keep {w : Wd} {H : Hp} : ∀ {ds : List D} {vs : List V}, VTs K w H ds vs → ds.all D.keep = true → VRs K w H ds vs
  | _, _, .nil, _ => .nil
  | _, _, .cons a r, k => by
    rw [List.all_cons, Bool.and_eq_true] at k
    exact .cons (a.keep k.1) (r.keep k.2)
theorem VTs.of {w : Wd} {H : Hp} : ∀ {ds : List D} {vs : List V}, VRs K w H ds vs → VTs K w H ds vs
  | _, _, .nil => .nil
  | _, _, .cons a r => .cons (.of (.of a)) (VTs.of r)
/-- a list that may be read -/
theorem VT.ls {w : Wd} {H : Hp} {d : D} {v : V} (h : VT K w H d v) {ds : List D} (k : d.ls? = some ds) : ∃ a xs, v = .ref a ∧ SqL K H a xs ∧ VRs K w H ds xs := by
  cases h with
  | of h =>
    cases h with
    | of h =>
      cases h with
      | lst n q r => cases k; exact ⟨_, _, rfl, .inl (.inl q), r⟩
      | _ => cases k
    | scr n1 n2 q r => cases k; exact ⟨_, _, rfl, .inl q, r⟩
    | scrK q r => cases k; exact ⟨_, _, rfl, .inr q, r⟩
  | bor m n q r => cases k; exact ⟨_, _, rfl, .inl (.inl q), r⟩
theorem VT.la {w : Wd} {H : Hp} {d : D} {v : V} (h : VT K w H d v) {ds : List D} (k : d.la? = some ds) : ∃ a xs, v = .ref a ∧ Rd H a (.lst xs) ∧ VRs K w H ds xs := by
  cases h with
  | of h =>
    cases h with
    | of h =>
      cases h with
      | lst n q r => cases k; exact ⟨_, _, rfl, .inl q, r⟩
      | _ => cases k
    | scr n1 n2 q r => cases k
    | scrK q r => cases k
  | bor m n q r => cases k; exact ⟨_, _, rfl, .inl q, r⟩
theorem VT.sq {w : Wd} {H : Hp} {d : D} {v : V} (h : VT K w H d v) {ds : List D} (k : d.sq? = some ds) : ∃ a xs, v = .ref a ∧ (SqL K H a xs ∨ SqT K H a xs) ∧ VRs K w H ds xs := by
  cases h with
  | of h =>
    cases h with
    | of h =>
      cases h with
      | lst n q r => cases k; exact ⟨_, _, rfl, .inl (.inl (.inl q)), r⟩
      | tup q r => cases k; exact ⟨_, _, rfl, .inr (.inl (.inl q)), r⟩
      | _ => cases k
    | scr n1 n2 q r => cases k; exact ⟨_, _, rfl, .inl (.inl q), r⟩
    | scrK q r => cases k; exact ⟨_, _, rfl, .inl (.inr q), r⟩
  | bor m n q r => cases k; exact ⟨_, _, rfl, .inl (.inl (.inl q)), r⟩

theorem VT.sqS {w : Wd} {H : Hp} {d : D} {v : V} (h : VT K w H d v) {ds : List D} (k : d.sq? = some ds) : ∃ a xs, v = .ref a ∧ (SqL K H a xs ∨ H a = some (.tup xs)) ∧ VRs K w H ds xs := by
  cases h with
  | of h =>
    cases h with
    | of h =>
      cases h with
      | lst n q r => cases k; exact ⟨_, _, rfl, .inl (.inl (.inl q)), r⟩
      | tup q r => cases k; exact ⟨_, _, rfl, .inr q, r⟩
      | _ => cases k
    | scr n1 n2 q r => cases k; exact ⟨_, _, rfl, .inl (.inl q), r⟩
    | scrK q r => cases k; exact ⟨_, _, rfl, .inl (.inr q), r⟩
  | bor m n q r => cases k; exact ⟨_, _, rfl, .inl (.inl (.inl q)), r⟩

/-- what may change: lists, dicts, instances -/
def muB : HO → Bool
  | .lst _ => true | .dK _ => true | .dT _ => true | .ins _ _ _ => true
  | _ => false
/-- the classes of instances, by numbers -/
def clN : Nat → Str
  | 0 => "Beds"
  | 1 => "Tally"
  | _ => "Desk"
def clsA (K : PySem.W.Frag) (c : Nat) : Addr := He.ga K (clN c)
/-- an instance's fields -/
def FsR {κ : Type} (K : PySem.W.Frag) (w : Wd) (H : Hp) (fs : List (κ × D)) (vs : List (κ × V)) : Prop := Paired (fun p q => p.1 = q.1 ∧ VR K w H p.2 q.2) fs vs
theorem FsR.map {w w' : Wd} {H H' : Hp} (f : ∀ {d : D} {v : V}, VR K w H d v → VR K w' H' d v) {κ : Type} {fs : List (κ × D)} {vs : List (κ × V)} (r : FsR K w H fs vs) : FsR K w' H' fs vs := Paired.mapP r fun _ _ ⟨a, b⟩ => ⟨a, f b⟩
/-- an object of the small heap -/
def OR (K : PySem.W.Frag) (w : Wd) (H : Hp) (a : Addr) : Ob → Prop
  | .lst ds => ∃ xs, H a = some (.lst xs) ∧ VRs K w H ds xs ∧ ds.all D.keep = true
  | .ins c fs => ∃ dx vs, H a = some (.ins (clsA K c) dx vs) ∧ FsR K w H fs vs
  | .dct kvs => ∃ ks, H a = some (.dT ks) ∧ FsR K w H kvs ks
structure HR (K : PySem.W.Frag) (w : Wd) (h : Hs) (H : Hp) : Prop where
  len : w.hp.length = h.length
  nd : w.hp.Nodup
  ob : ∀ (i : Nat) (a : Addr) (o : Ob), w.hp[i]? = some a → h[i]? = some o → OR K w H a o
  sep : ∀ a : Addr, a ∈ w.hp → some a ∉ w.ow ∧ ¬ w.pr a
  prd : ∀ a, w.pr a → H a ≠ none
theorem HR.there {w : Wd} {h : Hs} {H : Hp} (r : HR K w h H) {a : Addr} (m : a ∈ w.hp) : ∃ u, H a = some u ∧ muB u = true := by
  obtain ⟨i, hi⟩ := List.mem_iff_getElem?.mp m
  have hl : i < h.length := by rw [← r.len]; exact (List.getElem?_eq_some_iff.mp hi).1
  have q := r.ob i a h[i] hi (List.getElem?_eq_getElem hl)
  cases e : h[i] with
  | lst ds => rw [e] at q; obtain ⟨xs, q, _⟩ := q; exact ⟨_, q, rfl⟩
  | ins c fs => rw [e] at q; obtain ⟨dx, vs, q, _⟩ := q; exact ⟨_, q, rfl⟩
  | dct kvs => rw [e] at q; obtain ⟨ks, q, _⟩ := q; exact ⟨_, q, rfl⟩
def KR1 (K : PySem.W.Frag) (w : Wd) (H : Hp) (p : D × D) (q : Key × V) : Prop := ∃ i, p.1 = .int i ∧ q.1 = Sum.inl i ∧ VR K w H p.2 q.2
def KR2 (K : PySem.W.Frag) (w : Wd) (H : Hp) (p : D × D) (q : List Key × V) : Prop := ∃ is : List Int, p.1 = .tup (is.map .int) ∧ q.1 = is.map Sum.inl ∧ VR K w H p.2 q.2
/-- what a dict holds -/
def KvR (K : PySem.W.Frag) (w : Wd) (H : Hp) (kvs : List (D × D)) : Bool → HO → Prop
  | false, o => ∃ ks, o = .dK ks ∧ Paired (KR1 K w H) kvs ks
  | true, o => ∃ ks, o = .dT ks ∧ Paired (KR2 K w H) kvs ks
theorem KvR.mapP {w w' : Wd} {H H' : Hp} (f : ∀ {d : D} {v : V}, VR K w H d v → VR K w' H' d v) {kvs : List (D × D)} : ∀ {t : Bool} {o : HO}, KvR K w H kvs t o → KvR K w' H' kvs t o
  | false, _, ⟨ks, h1, h2⟩ => ⟨ks, h1, Paired.mapP h2 fun _ _ ⟨i, a, b, c⟩ => ⟨i, a, b, f c⟩⟩
  | true, _, ⟨ks, h1, h2⟩ => ⟨ks, h1, Paired.mapP h2 fun _ _ ⟨i, a, b, c⟩ => ⟨i, a, b, f c⟩⟩
theorem KvR.nt {w : Wd} {H : Hp} {kvs : List (D × D)} : ∀ {t : Bool} {o : HO}, KvR K w H kvs t o → ∀ ps, o ≠ .tbl ps
  | false, _, ⟨_, h, _⟩, _, e => by rw [h] at e; cases e
  | true, _, ⟨_, h, _⟩, _, e => by rw [h] at e; cases e
def SlR (K : PySem.W.Frag) (w : Wd) (H : Hp) (i : Nat) (s : Option (Option V)) : Sl → Prop
  | .u => True
  | .v d => ∃ v, s = some (some v) ∧ VS K w H d v
  | .o ds => ∃ a xs, s = some (some (.ref a)) ∧ w.ow[i]? = some (some a) ∧ H a = some (.lst xs) ∧ VRs K w H ds xs ∧ ds.all D.keep = true
  | .k t kvs => ∃ a o, s = some (some (.ref a)) ∧ w.ow[i]? = some (some a) ∧ H a = some o ∧ KvR K w H kvs t o
structure ER (K : PySem.W.Frag) (w : Wd) (e : Ev) (σ : L2.St) (H : Hp) : Prop where
  len : e.length = σ.length
  wl : w.ow.length = σ.length
  sl : ∀ i, SlR K w H i σ[i]? (e.get i)
  inj : ∀ (i j : Nat) (a : Addr), w.ow[i]? = some (some a) → w.ow[j]? = some (some a) → i = j
  ot : ∀ (i : Nat) (a : Addr), w.ow[i]? = some (some a) → H a ≠ none ∧ ¬ w.pr a
theorem SlR.ext {w w' : Wd} {H H' : Hp} (e : Ext w H w' H') (sep : ∀ a, a ∈ w.hp → some a ∉ w.ow) {i : Nat} {s : Option (Option V)} : ∀ {x : Sl}, SlR K w H i s x → SlR K w' H' i s x
  | .u, _ => trivial
  | .v d, ⟨v, h1, h2⟩ => ⟨v, h1, h2.ext e⟩
  | .o ds, ⟨a, xs, h1, h2, h3, h4, h5⟩ => ⟨a, xs, h1, by rw [e.ow]; exact h2, e.keep a _ h3 (fun m => sep a m (List.mem_iff_getElem?.mpr ⟨i, h2⟩)) (fun ps q => by cases q), h4.ext e, h5⟩
  | .k t kvs, ⟨a, o, h1, h2, h3, h4⟩ => by
    have hm : a ∉ w.hp := fun m => sep a m (List.mem_iff_getElem?.mpr ⟨i, h2⟩)
    exact ⟨a, o, h1, by rw [e.ow]; exact h2, e.keep a _ h3 hm h4.nt, h4.mapP fun z => z.ext e⟩
theorem ER.ext {w w' : Wd} {H H' : Hp} (e : Ext w H w' H') (sep : ∀ a, a ∈ w.hp → some a ∉ w.ow) {v : Ev} {σ : L2.St} (r : ER K w v σ H) : ER K w' v σ H' where
  len := r.len
  wl := by rw [e.ow]; exact r.wl
  sl := fun i => (r.sl i).ext e sep
  inj := by rw [e.ow]; exact r.inj
  ot := fun i a h => by
    rw [e.ow] at h
    have q := r.ot i a h
    refine ⟨fun z => q.1 (e.dom a z), fun z => ?_⟩
    rcases e.prf a z with z | z
    · exact q.2 z
    · exact q.1 z

/-- the tables of code objects, the classes of errors -/
structure Px where
  T : List (Addr × Str)
  ex : Nat → Addr
structure RR (K : PySem.W.Frag) (px : Px) (w : Wd) (e : Ev) (h : Hs) (σ : L2.St) (H : Hp) : Prop where
  hr : HR K w h H
  er : ER K w e σ H
  tb : LamX.Tabs px.T H
theorem RR.ext {px : Px} {w w' : Wd} {H H' : Hp} {e : Ev} {h h' : Hs} {σ : L2.St} (r : RR K px w e h σ H) (x : Ext w H w' H') (hr : HR K w' h' H') (tb : LamX.Tabs px.T H') : RR K px w' e h' σ H' :=
  ⟨hr, r.er.ext x fun a m => (r.hr.sep a m).1, tb⟩
def XR (px : Px) (H : Hp) : D → Value → Option Addr → Prop
  | .exc c p, cls, dd => cls = .ref (px.ex c) ∧ (c ≠ 16 → dd = none) ∧ (c = 16 → ∃ a i, dd = some a ∧ p = .int i ∧ H a = some (.xd [("at", .int i)]))
  | _, _, _ => False

/-- what must hold so that a computed thing r is what is wanted -/
def Post {α β : Type} (K : PySem.W.Frag) (px : Px) (W : WX) (σ : L2.St) (rel : Wd → Hp → α → β → Prop) (w : Wd) (H : Hp) (Q : β → Hp → Prop) : R α → Prop
  | .ok a h' => ∀ b w' H', Ext w H w' H' → HR K w' h' H' → LamX.Tabs px.T H' → rel w' H' a b → Q b H'
  | .exc x h' => ∀ cls dd w' H', Ext w H w' H' → HR K w' h' H' → LamX.Tabs px.T H' → XR px H' x cls dd → W cls dd σ H'
  | .bad => False
abbrev relV (K : PySem.W.Frag) : Wd → Hp → D → V → Prop := fun w H d v => VT K w H d v
abbrev relVs (K : PySem.W.Frag) : Wd → Hp → List D → List V → Prop := fun w H d v => VTs K w H d v
abbrev relB : Wd → Hp → Bool → Bool → Prop := fun _ _ a b => a = b
structure Pre {α β : Type} (K : PySem.W.Frag) (px : Px) (W : WX) (σ : L2.St) (rel : Wd → Hp → α → β → Prop) (w : Wd) (e : Ev) (h : Hs) (H : Hp) (Q : β → Hp → Prop) (r : R α) : Prop where
  rr : RR K px w e h σ H
  po : Post K px W σ rel w H Q r
section
variable {α β γ δ : Type} {px : Px} {W : WX} {σ : L2.St} {rel : Wd → Hp → α → β → Prop} {rel' : Wd → Hp → γ → δ → Prop} {w : Wd} {e : Ev} {h : Hs} {H : Hp} {Q Q' : β → Hp → Prop} {r : R α}
theorem Pre.imp (p : Pre K px W σ rel w e h H Q r) (i : ∀ b H', Q b H' → Q' b H') : Pre K px W σ rel w e h H Q' r := ⟨p.rr, by
  have q := p.po
  cases r with
  | ok a h' => exact fun b w' H' x1 x2 x3 x4 => i _ _ (q b w' H' x1 x2 x3 x4)
  | exc x h' => exact q
  | bad => exact q⟩
/-- one part, then the next -/
theorem Pre.bind {k : α → Hs → R γ} {Q : δ → Hp → Prop} (p : Pre K px W σ rel' w e h H Q (r.bind k)) :
    Pre K px W σ rel w e h H (fun v H1 => ∃ d h1 w1, r = .ok d h1 ∧ Ext w H w1 H1 ∧ rel w1 H1 d v ∧ Pre K px W σ rel' w1 e h1 H1 Q (k d h1)) r := ⟨p.rr, by
  have q := p.po
  cases r with
  | ok a h' =>
    intro v w1 H1 x1 x2 x3 x4
    refine ⟨a, h', w1, rfl, x1, x4, p.rr.ext x1 x2 x3, ?_⟩
    have q : Post K px W σ rel' w H Q (k a h') := q
    cases e1 : k a h' with
    | ok c h2 => rw [e1] at q; exact fun b w' H' y1 => q b w' H' (x1.trans y1)
    | exc x h2 => rw [e1] at q; exact fun cls dd w' H' y1 => q cls dd w' H' (x1.trans y1)
    | bad => rw [e1] at q; exact q
  | exc x h' => exact q
  | bad => exact q⟩
theorem Post.later {w1 : Wd} {H1 : Hp} (q : Post K px W σ rel w H Q r) (x1 : Ext w H w1 H1) : Post K px W σ rel w1 H1 Q r := by
  cases r with
  | ok a h' => exact fun b w' H' y1 => q b w' H' (x1.trans y1)
  | exc x h' => exact fun cls dd w' H' y1 => q cls dd w' H' (x1.trans y1)
  | bad => exact q
/-- the same from a later state -/
theorem Pre.later {w1 : Wd} {H1 : Hp} (p : Pre K px W σ rel w e h H Q r) (x1 : Ext w H w1 H1) (x2 : HR K w1 h H1) (x3 : LamX.Tabs px.T H1) : Pre K px W σ rel w1 e h H1 Q r := ⟨p.rr.ext x1 x2 x3, p.po.later x1⟩
theorem Pre.done {d : α} (p : Pre K px W σ rel w e h H Q (.ok d h)) {v : β} (q : rel w H d v) : Q v H := p.po v w H (Ext.refl w H) p.rr.hr p.rr.tb q
theorem Pre.nobad {o : Option α} (p : Pre K px W σ rel w e h H Q (R.of o h)) : ∃ d, o = some d ∧ Pre K px W σ rel w e h H Q (.ok d h) := by
  cases o with
  | none => exact p.po.elim
  | some d => exact ⟨d, rfl, p⟩
end
/-- readings -/
def rdE (K : PySem.W.Frag) (px : Px) (W : WX) (f : Ev → Hs → R D) : TE := fun σ H Q => ∃ w e h, Pre K px W σ (relV K) w e h H Q (f e h)
def rdA (K : PySem.W.Frag) (px : Px) (W : WX) (f : Ev → Hs → R (List D)) : TA := fun σ H Q => ∃ w e h, Pre K px W σ (relVs K) w e h H Q (f e h)
def rdT (K : PySem.W.Frag) (px : Px) (W : WX) (f : Ev → Hs → R Bool) : TT := fun σ H Q => ∃ w e h, Pre K px W σ relB w e h H Q (f e h)
def tst (f : Ev → Hs → R D) : Ev → Hs → R Bool := fun e h => (f e h).bind fun x h => R.of x.tru h

/-! ### new objects -/
section
variable {px : Px} {w : Wd} {e : Ev} {h : Hs} {σ : L2.St} {H : Hp}
theorem Ext.new {p : Addr} {o : HO} (hp : H p = none) (hr : HR K w h H) : Ext w H w (upd H p o) := by
  refine ⟨⟨[], by simp, fun _ h => by cases h⟩, rfl, fun _ h => h, fun _ h => .inl h, fun a u q _ _ => by rw [upd_ne (ne_of_none q hp)]; exact q, fun a xs q => ?_, fun a q => ?_⟩
  · rw [upd_ne (ne_of_none q hp)]; exact q
  · by_cases ha : a = p
    · rw [ha]; exact hp
    · rw [upd_ne ha] at q; exact q
theorem HR.mono {w' : Wd} {H' : Hp} (r : HR K w h H) (x : Ext w H w' H') (hw : w' = w) (hk : ∀ a, a ∈ w.hp → H' a = H a) : HR K w' h H' := by
  subst hw
  refine ⟨r.len, r.nd, fun i a o h1 h2 => ?_, r.sep, fun a q z => r.prd a q (x.dom a z)⟩
  have q := r.ob i a o h1 h2
  cases o with
  | lst ds =>
    obtain ⟨xs, q1, q2, q3⟩ := q
    exact ⟨xs, by rw [hk a (List.mem_iff_getElem?.mpr ⟨i, h1⟩)]; exact q1, q2.ext x, q3⟩
  | ins c fs =>
    obtain ⟨dx, vs, q1, q2⟩ := q
    exact ⟨dx, vs, by rw [hk a (List.mem_iff_getElem?.mpr ⟨i, h1⟩)]; exact q1, q2.map fun z => z.ext x⟩
  | dct kvs =>
    obtain ⟨ks, q1, q2⟩ := q
    exact ⟨ks, by rw [hk a (List.mem_iff_getElem?.mpr ⟨i, h1⟩)]; exact q1, q2.map fun z => z.ext x⟩
theorem HR.new {p : Addr} {o : HO} (r : HR K w h H) (hp : H p = none) : HR K w h (upd H p o) :=
  r.mono (Ext.new hp r) rfl fun a ha => by
    obtain ⟨xs, q, _⟩ := r.there ha
    exact upd_ne (ne_of_none q hp)
theorem RR.new {p : Addr} {o : HO} (r : RR K px w e h σ H) (hp : H p = none) : RR K px w e h σ (upd H p o) := by
  refine r.ext (Ext.new hp r.hr) (r.hr.new hp) (r.tb.ext fun b u q => ?_)
  rw [upd_ne (ne_of_none q hp)]; exact q
theorem RR.free {p : Addr} (r : RR K px w e h σ H) (hp : H p = none) : ¬ w.forb p := by
  rintro (q | q | q)
  · obtain ⟨xs, z, _⟩ := r.hr.there q; rw [hp] at z; cases z
  · obtain ⟨i, hi⟩ := List.mem_iff_getElem?.mp q
    exact (r.er.ot i p hi).1 hp
  · exact r.hr.prd p q hp
/-- a new object at p: what is wanted holds of it -/
theorem Pre.new {α β : Type} {W : WX} {rel : Wd → Hp → α → β → Prop} {Q : β → Hp → Prop} {d : α} (p : Pre K px W σ rel w e h H Q (.ok d h)) {a : Addr} (ha : H a = none) (o : HO) {v : β} (q : rel w (upd H a o) d v) : Q v (upd H a o) :=
  p.po v w _ (Ext.new ha p.rr.hr) (p.rr.new ha).hr (p.rr.new ha).tb q
end
end Tv
end

section
set_option autoImplicit false
set_option maxHeartbeats 1000000
/-! enumerate over a tuple. -/
namespace Tv
open PySem PySem.Spec PyProof.Rows L2
/-- what enumerate(v) makes, v told by what begins its walk -/
theorem mk_enum {v : Value} {o : Obj} {H : Heap → Prop} (B : PySem.Begins v o H) :
    Meets (Builtin.«enumerate.__new__» ⟨[.type "enumerate", v], []⟩) (fun _ R s => H s.heap ∧
      R (.ok (.ret (.ref (s.heap.push o).objs.size))) { s with heap := (s.heap.push o).push { cls := .type "enumerate", data := .fields #[.none, .bool false, .ref s.heap.objs.size, rawInt 0, .none, .none] } }) := .of_wp fun prog w A R s h => by
  obtain ⟨hp, g, d, tk, os⟩ := s; obtain ⟨h1, h⟩ := h
  have hsub := sub_enumerate; have q1 : ∀ {A' : Around} {E : Value → Shared → Prop} {Q : Value → Shared → Prop}, Q (.ref hp.objs.size) ⟨hp.push o, g, d, tk, os⟩ → wpAny (model prog w) A' (pyIter v) Q E ⟨hp, g, d, tk, os⟩ := fun q => B.iter prog w _ _ ⟨hp, g, d, tk, os⟩ _ h1 q
  wp_walk using q1
  refine wpAny_stack_any fun st => wpAny_pure ?_
  split
  · rename_i c _ _ _ _ _
    cases (c == Value.type "enumerate")
    · wp_walk using q1; exact ⟨_, rfl, h⟩
    · wp_walk using q1; exact ⟨_, rfl, h⟩
  · wp_walk using q1; exact ⟨_, rfl, h⟩
section
variable {prog : Program} {w : World} {A : Around} {E : Value → Shared → Prop} {s : Shared}
theorem call_enumB {v : Value} {o : Obj} {H : Heap → Prop} {Q : Value → Shared → Prop} (B : PySem.Begins v o H) (h1 : H s.heap)
    (h : ∀ h', IsEnum h' (s.heap.objs.size + 1) s.heap.objs.size 0 .none → h'.get? s.heap.objs.size = some o → (∀ b u, s.heap.get? b = some u → h'.get? b = some u) → Q (.ref (s.heap.objs.size + 1)) { s with heap := h' }) : wpAny (model prog w) A (call (.type "enumerate") [v]) Q E s := by
  refine callType_new F.called_enumerate (by decide) (F.typeCall_enumerate_1 _) (F.newCall_enumerate_1 _) (fun obj => F.args_object_init_2 obj _) F.entry_enumerate_new (mk_enum B) ⟨h1, ?_⟩
  have hz : (s.heap.push o).objs.size = s.heap.objs.size + 1 := Heap.size_push ..
  show _ ∧ _
  rw [hz]
  have he : IsEnum ((s.heap.push o).push { cls := .type "enumerate", data := .fields #[.none, .bool false, .ref s.heap.objs.size, rawInt 0, .none, .none] }) (s.heap.objs.size + 1) s.heap.objs.size 0 .none := by
    have := Heap.get?_push_size (s.heap.push o) (o := { cls := .type "enumerate", data := .fields #[.none, .bool false, .ref s.heap.objs.size, rawInt 0, .none, .none] }) rfl
    rw [hz] at this; exact this
  exact ⟨⟨_, he, rfl⟩, h _ he (Heap.get?_push_of_some _ (Heap.get?_push_size _ B.free)) fun b o x => Heap.get?_push_of_some _ (Heap.get?_push_of_some _ x)⟩
end
/-- the tuple at a, each item in a new pair -/
def IteT (K : PySem.W.Frag) (a : Addr) : L2.It :=
  ⟨fun i H => ∃ (xs : List V) (x : V), SqT K H a xs ∧ xs[i]? = some x, fun i H v H' => ∃ T x, v = .ref T ∧ H T = none ∧ H' = upd H T (.tup [.int (i : Nat), x]) ∧ ∀ xs, SqT K H a xs → xs[i]? = some x, fun i H => ∃ xs : List V, SqT K H a xs ∧ xs.length = i⟩
theorem turn_enumT {P : Program} {w : World} {K : PySem.W.Frag} {elts : List Expr} {kk : Nat} {tpos : Pos} (a e it : Addr) (hai : a ≠ it) :
    Turn P w K (.Tuple elts kk tpos) (IteT K a) [e, it] e (fun i h => (∃ old, IsEnum h e it ((i : Nat) : Int) old) ∧ h.IsTupleIter it a i ∧ e ≠ it ∧ e ≠ a) where
  mem := by simp
  obj := fun i h st b hb => by
    obtain ⟨⟨old, he⟩, ⟨o, ho, hc, hd⟩, _⟩ := st
    rcases (by simpa using hb : b = e ∨ b = it) with z | z
    · rw [z]; exact ⟨_, he, fun v q => nomatch q⟩
    · rw [z]; exact ⟨o, ho, fun v q => by rw [hd] at q; cases q⟩
  keep := fun i h h' st k => let ⟨⟨old, he⟩, hi, hne⟩ := st; ⟨⟨old, k e (by simp) _ he⟩, hi.at fun o q => k it (by simp) o q, hne⟩
  item := by
    intro X hP hw hK hc i pins s σ H E I hf st hg
    subst hP hw hK
    obtain ⟨⟨old, he⟩, hit, hne, hea⟩ := st
    obtain ⟨xs, x, hq, hx⟩ := hg
    obtain ⟨its, rv, p, hz⟩ := I.tuple hq
    obtain ⟨u, hu, ru⟩ := rv.get hx
    have hel : e < s.heap.objs.size := Heap.lt_size he
    have hil : it < s.heap.objs.size := by obtain ⟨_, q, _⟩ := hit; exact Heap.lt_size q
    have D : Draws X.prog X.w X.A.in1 it [it, a] its.toArray.size (fun i v => its.toArray[i]? = some v) (fun i h => h.IsTupleIter it a i ∧ h.IsTuple a its.toArray) := Draws.tuple (A := X.A.in1) (show X.A.in1.handled = none from I.ok.hd hc) it a hai its.toArray
    have hlt : i < its.toArray.size := by
      have := (List.getElem?_eq_some_iff.mp hu).1
      simpa using this
    refine wpAny_pyNext_enum_itemD D he ⟨hit, p⟩ hlt hne (by simp [hne, hea]) fun x' h' tk hP ho hs' hT hsz hk => ?_
    have ex : x' = u := by
      have z : its.toArray[i]? = some u := by simpa using hu
      rw [z] at hP; exact (Option.some.inj hP).symm
    subst ex
    refine ⟨_, rfl, wpAny_letOwnedTupleGo_enum (s := { s with heap := h', toks := tk + 1 }) ho fun h'' he' sb => ?_⟩
    have hT2 : h''.get? s.heap.objs.size = some { cls := .type "tuple", data := .seq #[.int i tk, x'] } := (sb.2 _ (Nat.ne_of_gt hel)).trans hT
    have new : ObjOk X.prog X.w (upd H s.heap.objs.size (.tup [.int (i : Nat), x])) h'' s.heap.objs.size (.tup [.int (i : Nat), x]) := ⟨by show 2 ≤ sizeLine; decide, [.int i tk, x'], .cons ⟨_, rfl⟩ (.cons ru .nil), ⟨_, hT2, rfl, _, rfl⟩⟩
    have I1 : Inv X pins σ (upd H s.heap.objs.size (.tup [.int (i : Nat), x])) { s with heap := h'', toks := tk + 1 } := I.turnedNew (ch := [e, it]) (fun b ob hb q => (sb.2 b (fun z => hb (by simp [z]))).trans (hk b ob (fun z => hb (by simp [z])) (fun z => hb (by simp [z])) q)) hf (Nat.le_refl _) new
    refine ⟨.ref s.heap.objs.size, _, I1, rfl, ⟨_, x, rfl, I.hok.fresh (Nat.le_refl _), rfl, fun ys hy => by rw [I.tuple_inj hy hq]; exact hx⟩, ⟨⟨x', ?_⟩, hs'.1.at fun o q => (sb.2 it (Ne.symm hne)).trans q, hne, hea⟩, fun b hb => ?_⟩
    · rw [show ((i + 1 : Nat) : Int) = (i : Int) + 1 by omega]; exact he'
    · have hb' : b < s.heap.objs.size := by
        rcases (by simpa using hb : b = e ∨ b = it) with z | z
        · rw [z]; exact hel
        · rw [z]; exact hil
      rw [upd_ne (Nat.ne_of_lt hb')]
      exact (hf b hb).1
  done := by
    intro X hP hw hK hc i pins s σ H E I hf st hg
    subst hP hw hK
    obtain ⟨⟨old, he⟩, hit, hne, hea⟩ := st
    obtain ⟨xs, hq, hx⟩ := hg
    obtain ⟨its, rv, p, hz⟩ := I.tuple hq
    obtain ⟨f0, f1, f2, f3, f4, f5⟩ := hf it (by simp)
    have hl := rv.length
    have D : Draws X.prog X.w X.A.in1 it [it, a] its.toArray.size (fun i v => its.toArray[i]? = some v) (fun i h => h.IsTupleIter it a i ∧ h.IsTuple a its.toArray) := Draws.tuple (A := X.A.in1) (show X.A.in1.handled = none from I.ok.hd hc) it a hai its.toArray
    have hn : its.toArray.size = i := by simp; omega
    refine wpAny_pyNext_enum_endD D he (by rw [hn]; exact ⟨hit, p⟩) fun h' eb => ⟨rfl, I.turned (t' := s.toks) (fun b o hb q => eb b o hb q) f0 f1 f3 f4 f5⟩
  self := fun A i s Q E st h => let ⟨⟨_, he⟩, _⟩ := st; wpAny_pyIter_enum he h
/-- enumerate over a list or a tuple -/
def iEnumA (K : PySem.W.Frag) (ta : TA) : TI := fun σ H R => ta σ H fun vs H1 => ∃ a xs, vs = [.ref a] ∧ ((SqL K H1 a xs ∧ R (Ite K a) H1) ∨ (SqT K H1 a xs ∧ R (IteT K a) H1))
theorem pi_enumA {X : Cx} {e : Expr} {ta : TA} {p pos tpos : Pos} {elts : List Expr} {kk : Nat} (hg : Gl X "enumerate") (hm : X.mg "enumerate" = none) (ha : PA X [e] ta) (hs : starEach [e] X.env = [(false, eval e X.env)]) :
    PI X (.Tuple elts kk tpos) (.Call (.Name "enumerate" p) [e] [] pos) (iEnumA X.K ta) := by
  refine ⟨fun pins s σ H R I h => ?_⟩
  refine Call_ (ld_blt I hg hm boot_enumerate (PyProof.Rows.callWith_type1 (thn (ha.run pos pins s σ H _ I h) fun us s1 ⟨vs, H1, I1, r1, q1⟩ => ?_) hs rfl))
  obtain ⟨a, xs, ex, hq⟩ := q1
  subst ex
  cases r1 with
  | cons r rr =>
    cases rr
    cases r
    have fp : ∀ b ∈ [s1.heap.objs.size + 1, s1.heap.objs.size], s1.heap.objs.size ≤ b := fun b hb => by
      rcases (by simpa using hb : b = s1.heap.objs.size + 1 ∨ b = s1.heap.objs.size) with z | z
      · rw [z]; exact Nat.le_add_right _ _
      · rw [z]; exact Nat.le_refl _
    rcases hq with ⟨hq, q⟩ | ⟨hq, q⟩
    · obtain ⟨its, rv, p', hz⟩ := I1.list hq
      refine call_enumerate_list p'.isList fun h' he hit hsz hk => wpAny_pyIter_enum he ?_
      have I2 : Inv X pins σ H1 { s1 with heap := h' } := I1.kept (t' := s1.toks) hk
      exact ⟨s1.heap.objs.size + 1, [s1.heap.objs.size + 1, s1.heap.objs.size], _, _, H1, rfl, I2, turn_enum a (s1.heap.objs.size + 1) s1.heap.objs.size, ⟨⟨.none, he⟩, hit, Nat.succ_ne_self _⟩, fun b hb => I1.fpOk (fp b hb) (I1.hok.fresh (fp b hb)), q⟩
    · obtain ⟨its, rv, p', hz⟩ := I1.tuple hq
      have hal : a < s1.heap.objs.size := by
        obtain ⟨_, q, _⟩ := id p'
        exact Heap.lt_size q
      refine call_enumB (begins_tuple a its.toArray) p' fun h' he hit hk => wpAny_pyIter_enum he ?_
      have I2 : Inv X pins σ H1 { s1 with heap := h' } := I1.kept (t' := s1.toks) hk
      exact ⟨s1.heap.objs.size + 1, [s1.heap.objs.size + 1, s1.heap.objs.size], _, _, H1, rfl, I2, turn_enumT a (s1.heap.objs.size + 1) s1.heap.objs.size (Nat.ne_of_lt hal), ⟨⟨.none, he⟩, ⟨_, hit, rfl, rfl⟩, Nat.succ_ne_self _, Nat.ne_of_gt (Nat.lt_succ_of_lt hal)⟩, fun b hb => I1.fpOk (fp b hb) (I1.hok.fresh (fp b hb)), q⟩
theorem walk_enumT {K : PySem.W.Frag} {a : Addr} {xs : List V} : Walk (IteT K a) xs.length (fun H => SqT K H a xs) (YPair (fun i => some (.int (i : Nat))) (fun i => xs[i]?)) := by
  refine ⟨fun i _ hi q => ⟨xs, xs[i], q, by simp [hi]⟩, fun _ q => ⟨xs, q, rfl⟩, fun i H v H' _ q y => ?_⟩
  obtain ⟨T, x, h1, h2, h3, h4⟩ := y
  exact ⟨T, .int (i : Nat), x, h1, h2, h3, rfl, h4 xs q⟩
end Tv
end

section
set_option autoImplicit false
set_option maxHeartbeats 1000000
/-! Operations by values. -/
namespace Tv
open PySem PySem.Spec PyProof.Rows L2

section
variable {X : Cx} {pins : List (Addr × Obj)} {σ : L2.St} {H : Hp} {s : Shared} {w : Wd}

theorem reads_ints {h : Heap} : ∀ {es : List DictEntry} {kvs : List (Int × Int)} {vs : List (Key × Value)}, Pairs (mixKind X.prog X.w) es vs → KV (kvs.map fun p => ((Sum.inl p.1 : Key), V.int p.2)) vs →
    ReadsAll h (es.map (·.key)) (kvs.map fun p => PyData.int p.1) [] ∧ ReadsAll h (es.map (·.val)) (kvs.map fun p => PyData.int p.2) []
  | _, [], _, p, r => by
    cases r
    cases p
    exact ⟨.nil, .nil⟩
  | [], (a, b) :: kvs, _, p, r => by
    cases p
    cases r
  | e :: es, (a, b) :: kvs, [], p, r => by cases r
  | e :: es, (a, b) :: kvs, (k, v) :: vs, p, r => by
    cases r with
    | cons r1 r2 =>
      cases p with
      | cons p1 p2 p3 =>
        obtain ⟨h1, h2⟩ := reads_ints p3 r2
        obtain ⟨e1, e2⟩ := r1
        have e1 : (Sum.inl a : Key) = k := e1
        subst e1
        obtain ⟨t, ht⟩ := Value.isInt_shape (k := a) (v := e.key) p1
        obtain ⟨t2, ht2⟩ : ∃ t, v = Value.int b t := e2
        have ev : e.val = v := p2
        refine ⟨?_, ?_⟩
        · simp only [List.map_cons]
          rw [ht]
          exact .cons (.int a t) h1
        · simp only [List.map_cons]
          rw [ev, ht2]
          exact .cons (.int b t2) h2

mutual
theorem VR.reads (I : Inv X pins σ H s) : ∀ (d : D) (v : V) (u : Value), VR X.K w H d v → RelV v u → d.pl = true → ∃ as, Reads s.heap u d.py as ∧ ∀ a ∈ as, H a ≠ none
  | .non, _, _, h, r, _ => by cases h; cases r; exact ⟨[], .none, fun _ z => by cases z⟩
  | .bl b, _, _, h, r, _ => by cases h; cases r; exact ⟨[], .bool b, fun _ z => by cases z⟩
  | .int i, _, _, h, r, _ => by cases h; obtain ⟨t, rfl⟩ := r; exact ⟨[], .int i t, fun _ z => by cases z⟩
  | .str x, _, _, h, r, _ => by cases h; obtain ⟨t, rfl⟩ := r; exact ⟨[], .str x t, fun _ z => by cases z⟩
  | .tup ds, _, _, h, r, hn => by
    cases h with
    | tup hs ha =>
      cases r
      obtain ⟨its, rv, ⟨o, ho, hc, n, hd⟩, _⟩ := I.tuple (.inl (.inl hs))
      obtain ⟨as, hr, ht⟩ := VR.readsAll I ds _ its ha rv hn
      exact ⟨_, Reads.tuple ho hc hd hr, ht⟩
  | .lst ds, _, _, h, r, hn => by
    cases h with
    | lst _ hs ha =>
      cases r
      obtain ⟨its, rv, ⟨o, n, ho, hc, _, hd⟩, _⟩ := I.list (.inl (.inl hs))
      obtain ⟨as, hr, ht⟩ := VR.readsAll I ds _ its ha rv hn
      exact ⟨_, Reads.list ho hc hd hr, fun b hb => by
        rcases List.mem_cons.mp hb with rfl | hb
        · rw [hs]; simp
        · exact ht b hb⟩
  | .bor _, _, _, _, _, hn => by cases hn
  | .scr _, _, _, _, _, hn => by cases hn
  | .dct kvs, _, _, h, r, _ => by
    cases h with
    | @dct a _ _ _ hs =>
      cases r
      obtain ⟨_, _, vs, rv, o, es, ep, ho, hx, hd, _, hp, _⟩ := I.hok _ _ hs
      obtain ⟨r1, r2⟩ := reads_ints (X := X) (h := s.heap) hp rv
      rw [D.py]
      refine ⟨_, Reads.dict (kvs := kvs.map fun p => (PyData.int p.1, PyData.int p.2)) ho hx.1 hd (as := []) (bs := []) ?_ ?_, fun b hb => ?_⟩
      · rw [List.map_map]; exact r1
      · rw [List.map_map]; exact r2
      · have hb : b = a := by simpa using hb
        rw [hb, hs]; simp
  | .ref _, _, _, _, _, hn => by cases hn
  | .exc _ _, _, _, _, _, hn => by cases hn
theorem VR.readsAll (I : Inv X pins σ H s) : ∀ (ds : List D) (vs : List V) (us : List Value), VRs X.K w H ds vs → Vals vs us → D.pls ds = true → ∃ as, ReadsAll s.heap us (D.pys ds) as ∧ ∀ a ∈ as, H a ≠ none
  | [], _, _, h, r, _ => by
    cases h
    cases r
    exact ⟨[], .nil, fun _ z => by cases z⟩
  | d :: ds, _, _, h, r, hn => by
    cases h with
    | cons h1 h2 =>
      cases r with
      | cons r1 r2 =>
        rw [D.pls, Bool.and_eq_true] at hn
        obtain ⟨as, q1, t1⟩ := VR.reads I d _ _ h1 r1 hn.1
        obtain ⟨bs, q2, t2⟩ := VR.readsAll I ds _ _ h2 r2 hn.2
        exact ⟨_, .cons q1 q2, fun b hb => (List.mem_append.mp hb).elim (t1 b) (t2 b)⟩
end
end

section
variable {X : Cx} {pins : List (Addr × Obj)} {σ : L2.St} {H : Hp} {s : Shared} {w : Wd}
theorem VT.readsT (I : Inv X pins σ H s) {d : D} {v : V} {u : Value} (h : VT X.K w H d v) (r : RelV v u) (k : d.rd = true) : ∃ as, Reads s.heap u d.py as ∧ ∀ a ∈ as, H a ≠ none ∨ ∃ o, X.K.lookup a = some o ∧ o.cls = .type "list" := by
  have go : ∀ {a : Addr} {xs : List V} {ds : List D}, SqL X.K H a xs → VRs X.K w H ds xs → RelV (.ref a) u → D.pls ds = true → ∃ as, Reads s.heap u (.list (D.pys ds)) as ∧ ∀ a ∈ as, H a ≠ none ∨ ∃ o, X.K.lookup a = some o ∧ o.cls = .type "list" := by
    intro a xs ds hs ha r hn
    cases r
    obtain ⟨its, rv, ⟨o, n, ho, hc, _, hd⟩, _⟩ := I.list hs
    obtain ⟨as, hr, ht⟩ := VR.readsAll I ds _ its ha rv hn
    exact ⟨_, Reads.list ho hc hd hr, fun b hb => by
      rcases List.mem_cons.mp hb with rfl | hb
      · rcases hs with hs | ⟨o, its, n, h1, h2, _⟩
        · exact .inl (Rd.some hs)
        · exact .inr ⟨o, h1, h2⟩
      · exact .inl (ht b hb)⟩
  cases h with
  | of h =>
    cases h with
    | of h =>
      obtain ⟨as, q1, q2⟩ := VR.reads I d v u h r (by cases h <;> exact k)
      exact ⟨as, q1, fun a ha => .inl (q2 a ha)⟩
    | scr n1 n2 q ha => exact go (.inl q) ha r k
    | scrK q ha => exact go (.inr q) ha r k
  | bor m n q ha => exact go (.inl (.inl q)) ha r k
theorem VT.reads (I : Inv X pins σ H s) {d : D} {v : V} {u : Value} (h : VT X.K w H d v) (r : RelV v u) (k : d.rd = true) : ∃ as, Reads s.heap u d.py as :=
  let ⟨as, q, _⟩ := h.readsT I r k; ⟨as, q⟩
end

/-! ### lists of related things -/
section
variable {K : PySem.W.Frag} {w : Wd} {H : Hp}
theorem VRs.length : ∀ {ds : List D} {vs : List V}, VRs K w H ds vs → ds.length = vs.length
  | _, _, .nil => rfl
  | _, _, .cons _ r => by rw [List.length_cons, List.length_cons, r.length]
theorem VRs.append : ∀ {ds es : List D} {vs us : List V}, VRs K w H ds vs → VRs K w H es us → VRs K w H (ds ++ es) (vs ++ us)
  | _, _, _, _, .nil, s => s
  | _, _, _, _, .cons a r, s => .cons a (r.append s)
theorem VRs.get : ∀ {ds : List D} {vs : List V} {i : Nat} {d : D}, VRs K w H ds vs → ds[i]? = some d → ∃ v, vs[i]? = some v ∧ VR K w H d v
  | _, _, _, _, .nil, e => by simp at e
  | _, _, 0, _, .cons a _, e => by simp at e; subst e; exact ⟨_, rfl, a⟩
  | _, _, i + 1, _, .cons _ r, e => by
    obtain ⟨v, h1, h2⟩ := r.get (i := i) (by simpa using e)
    exact ⟨v, by simpa using h1, h2⟩
theorem VRs.getV : ∀ {ds : List D} {vs : List V} {i : Nat} {v : V}, VRs K w H ds vs → vs[i]? = some v → ∃ d, ds[i]? = some d ∧ VR K w H d v
  | _, _, _, _, .nil, e => by simp at e
  | _, _, 0, _, .cons a _, e => by simp at e; subst e; exact ⟨_, rfl, a⟩
  | _, _, i + 1, _, .cons _ r, e => by
    obtain ⟨v, h1, h2⟩ := r.getV (i := i) (by simpa using e)
    exact ⟨v, by simpa using h1, h2⟩
theorem VRs.take : ∀ {ds : List D} {vs : List V} (n : Nat), VRs K w H ds vs → VRs K w H (ds.take n) (vs.take n)
  | _, _, 0, _ => .nil
  | _, _, _ + 1, .nil => .nil
  | _, _, n + 1, .cons a r => .cons a (r.take n)
theorem VRs.drop : ∀ {ds : List D} {vs : List V} (n : Nat), VRs K w H ds vs → VRs K w H (ds.drop n) (vs.drop n)
  | _, _, 0, r => r
  | _, _, _ + 1, .nil => .nil
  | _, _, n + 1, .cons _ r => r.drop n
theorem VRs.set {d : D} {v : V} (q : VR K w H d v) : ∀ {ds : List D} {vs : List V} (i : Nat), VRs K w H ds vs → VRs K w H (ds.set i d) (vs.set i v)
  | _, _, _, .nil => .nil
  | _, _, 0, .cons _ r => .cons q r
  | _, _, i + 1, .cons a r => .cons a (r.set q i)
theorem VRs.flat {ds : List D} {vs : List V} (r : VRs K w H ds vs) : ∀ n : Nat, VRs K w H (List.replicate n ds).flatten (List.replicate n vs).flatten
  | 0 => .nil
  | n + 1 => by rw [List.replicate_succ, List.replicate_succ, List.flatten_cons, List.flatten_cons]; exact r.append (r.flat n)
theorem VRs.snoc {ds : List D} {vs : List V} {d : D} {v : V} (r : VRs K w H ds vs) (q : VR K w H d v) : VRs K w H (ds ++ [d]) (vs ++ [v]) := r.append (.cons q .nil)
theorem VRs.reverse : ∀ {ds : List D} {vs : List V}, VRs K w H ds vs → VRs K w H ds.reverse vs.reverse
  | _, _, .nil => .nil
  | _, _, .cons a r => by rw [List.reverse_cons, List.reverse_cons]; exact r.reverse.snoc a
theorem VRs.isEmpty {ds : List D} {vs : List V} (r : VRs K w H ds vs) : ds.isEmpty = vs.isEmpty := by cases r <;> rfl
theorem VRs.cut {ds : List D} {vs : List V} (r : VRs K w H ds vs) (lo hi : Option Int) : VRs K w H (cutD ds lo hi) (cutV vs lo hi) := by
  unfold cutD cutV
  rw [r.length]
  exact (r.drop _).take _
theorem VRs.at {ds : List D} {vs : List V} (r : VRs K w H ds vs) {i : Int} {d : D} (e : L2.atI ds i = some d) : ∃ v, L2.atI vs i = some v ∧ VR K w H d v := by
  unfold L2.atI at e ⊢
  rw [r.length] at e
  cases q : L2.ixN vs.length i with
  | none => rw [q] at e; cases e
  | some j =>
    rw [q] at e
    exact r.get e
end
section
variable {K : PySem.W.Frag} {px : Px} {W : WX} {σ : L2.St} {w : Wd} {e : Ev} {h : Hs} {H : Hp} {Q : VK}
theorem Pre.newL {ds : List D} (p : Pre K px W σ (relV K) w e h H Q (.ok (.lst ds) h)) {a : Addr} (ha : H a = none) {xs : List V} (r : VRs K w H ds xs) : Q (.ref a) (upd H a (.lst xs)) :=
  p.new ha _ (.of (.of (.lst (p.rr.free ha) upd_same (r.ext (Ext.new ha p.rr.hr)))))
theorem Pre.newT {ds : List D} (p : Pre K px W σ (relV K) w e h H Q (.ok (.tup ds) h)) {a : Addr} (ha : H a = none) {xs : List V} (r : VRs K w H ds xs) : Q (.ref a) (upd H a (.tup xs)) :=
  p.new ha _ (.of (.of (.tup upd_same (r.ext (Ext.new ha p.rr.hr)))))
end
/-- an operation of two values -/
def rV2 (K : PySem.W.Frag) (px : Px) (W : WX) (op : D → D → Option D) : R2 := fun x y H Q => ∃ σ w e h d1 d2, VT K w H d1 x ∧ VT K w H d2 y ∧ Pre K px W σ (relV K) w e h H Q (R.of (op d1 d2) h)
section
variable {X : Cx} {px : Px} {W : WX}
theorem Inv.rdL {pins : List (Addr × Obj)} {σ : L2.St} {H : Hp} {s : Shared} {l : Addr} {xs : List V} (I : Inv X pins σ H s) (h : Rd H l (.lst xs)) : xs.length ≤ sizeLine ∧ ∃ (its : List Value) (n : Nat), Vals xs its ∧ s.heap.get? l = some { cls := .type "list", data := .seq its.toArray n } := h.ok I.hok
/-- xs + ys, read -/
theorem op_catR : OpR X (binaryOp .Add) (fun x y H Q => ∃ l b xs zs, x = .ref l ∧ y = .ref b ∧ Rd H l (.lst xs) ∧ Rd H b (.lst zs) ∧ xs.length + zs.length ≤ sizeLine ∧ ∀ p, H p = none → Q (.ref p) (upd H p (.lst (xs ++ zs)))) := by
  intro pins s σ H x y v u Q I rx ry h
  obtain ⟨l, b, xs, zs, rfl, rfl, q1, q2, hz, q⟩ := h
  cases rx
  cases ry
  obtain ⟨_, its, n, r1, e1⟩ := Inv.rdL I q1
  obtain ⟨_, its2, n2, r2, e2⟩ := Inv.rdL I q2
  have l1 := r1.length
  have l2 := r2.length
  refine PySem.P.add_list e1 e2 ?_ (by rw [List.size_toArray, List.size_toArray, ← l1, ← l2]; exact hz)
  rw [show its.toArray ++ its2.toArray = (its ++ its2).toArray by simp]
  exact ⟨.ref _, _, I.lnew (t' := s.toks) (r1.append r2) (by rw [List.length_append]; exact hz), rfl, q _ I.fresh⟩
theorem LIM_eq : LIM = sizeLine := by rw [sizeLine_eq]
theorem ofLen_some {n : Nat} {d d' : D} (h : ofLen n d = some d') : d' = d ∧ n ≤ sizeLine := by
  unfold ofLen at h
  split at h
  · rename_i hn
    cases h
    exact ⟨rfl, by rw [← LIM_eq]; exact hn⟩
  · cases h
theorem catL {pins : List (Addr × Obj)} {s : Shared} {σ σ' : L2.St} {H : Hp} {v u : Value} {Q : VK} {w : Wd} {e : Ev} {h : Hs} {a b : Addr} {xs ys : List V} {ds es : List D} {d : D} (I : Inv X pins σ H s) (rx : RelV (.ref a) v) (ry : RelV (.ref b) u)
    (ha : Rd H a (.lst xs)) (hb : Rd H b (.lst ys)) (ra : VRs X.K w H ds xs) (rb : VRs X.K w H es ys) (ed : ofLen (ds.length + es.length) (.lst (ds ++ es)) = some d) (p : Pre X.K px W σ' (relV X.K) w e h H Q (.ok d h)) :
    wpAny (model X.prog X.w) X.A (binaryOp .Add v u) (EP X pins σ Q) X.xe s := by
  obtain ⟨rfl, hz⟩ := ofLen_some ed
  exact op_catR pins s σ H _ _ v u Q I rx ry ⟨a, b, xs, ys, rfl, rfl, ha, hb, by rw [← ra.length, ← rb.length]; exact hz, fun p' hp' => p.newL hp' (ra.append rb)⟩
theorem vInt {K : PySem.W.Frag} {w : Wd} {H : Hp} {i : Int} {v : V} (h : VT K w H (.int i) v) : v = .int i := by
  cases h with | of h => cases h with | of h => cases h; rfl
theorem vBl {K : PySem.W.Frag} {w : Wd} {H : Hp} {i : Bool} {v : V} (h : VT K w H (.bl i) v) : v = .bl i := by
  cases h with | of h => cases h with | of h => cases h; rfl
theorem vStr {K : PySem.W.Frag} {w : Wd} {H : Hp} {i : Str} {v : V} (h : VT K w H (.str i) v) : v = .str i := by
  cases h with | of h => cases h with | of h => cases h; rfl
theorem vNon {K : PySem.W.Frag} {w : Wd} {H : Hp} {v : V} (h : VT K w H .non v) : v = .non := by
  cases h with | of h => cases h with | of h => cases h; rfl
theorem sqt {K : PySem.W.Frag} {H : Hp} {a : Addr} {xs : List V} (h : H a = some (.tup xs)) : SqT K H a xs := .inl (.inl h)
theorem vTup {K : PySem.W.Frag} {w : Wd} {H : Hp} {ds : List D} {v : V} (h : VT K w H (.tup ds) v) : ∃ a xs, v = .ref a ∧ H a = some (.tup xs) ∧ VRs K w H ds xs := by
  cases h with | of h => cases h with | of h => cases h with | tup q r => exact ⟨_, _, rfl, q, r⟩
theorem vLst {K : PySem.W.Frag} {w : Wd} {H : Hp} {ds : List D} {v : V} (h : VT K w H (.lst ds) v) : ∃ a xs, v = .ref a ∧ ¬ w.forb a ∧ H a = some (.lst xs) ∧ VRs K w H ds xs := by
  cases h with | of h => cases h with | of h => cases h with | lst n q r => exact ⟨_, _, rfl, n, q, r⟩
theorem VT.non {K : PySem.W.Frag} {w : Wd} {H : Hp} : VT K w H .non .non := .of (.of .non)
theorem VT.bl {K : PySem.W.Frag} {w : Wd} {H : Hp} (b : Bool) : VT K w H (.bl b) (.bl b) := .of (.of (.bl b))
theorem VT.int {K : PySem.W.Frag} {w : Wd} {H : Hp} (b : Int) : VT K w H (.int b) (.int b) := .of (.of (.int b))
theorem VT.str {K : PySem.W.Frag} {w : Wd} {H : Hp} (b : Str) : VT K w H (.str b) (.str b) := .of (.of (.str b))
theorem op_addD : OpR X (binaryOp .Add) (rV2 X.K px W dAdd) := by
  intro pins s σ H x y v u Q I rx ry q
  obtain ⟨σ', w, e, h, d1, d2, v1, v2, p0⟩ := q
  obtain ⟨d, ed, p⟩ := p0.nobad
  clear p0
  unfold dAdd at ed
  split at ed
  · obtain rfl := vInt v1; obtain rfl := vInt v2; cases ed; exact op_add pins s σ H _ _ v u Q I rx ry ⟨_, _, rfl, rfl, p.done (.int _)⟩
  · obtain rfl := vBl v1; obtain rfl := vInt v2; cases ed
    cases rx
    obtain ⟨t, rfl⟩ := ry
    exact IntBool.add_bool_int ⟨.int _, H, I.tok _, ⟨_, rfl⟩, p.done (.int _)⟩
  · obtain rfl := vInt v1; obtain rfl := vBl v2; cases ed; exact op_add_ib pins s σ H _ _ v u Q I rx ry ⟨_, _, rfl, rfl, p.done (.int _)⟩
  · obtain rfl := vStr v1; obtain rfl := vStr v2
    obtain ⟨rfl, hz⟩ := ofLen_some ed
    exact op_add_str pins s σ H _ _ v u Q I rx ry ⟨_, _, rfl, rfl, hz, p.done (.str _)⟩
  · obtain ⟨a, xs, rfl, h1, r1⟩ := vTup v1
    obtain ⟨b, ys, rfl, h2, r2⟩ := vTup v2
    obtain ⟨rfl, hz⟩ := ofLen_some ed
    refine op_catA pins s σ H _ _ v u Q I rx ry ⟨_, _, _, _, rfl, rfl, sqt h1, sqt h2, by rw [← r1.length, ← r2.length]; exact hz, fun ex => ?_, fun _ ey => ?_, fun _ _ p' hp' => p.newT hp' (r1.append r2)⟩
    · subst ex
      cases r1
      exact p.done (.of (.of (.tup h2 r2)))
    · subst ey
      cases r2
      rw [List.append_nil] at p
      exact p.done (.of (.of (.tup h1 r1)))
  · split at ed
    · rename_i q1 q2
      obtain ⟨a, xs, rfl, h1, r1⟩ := v1.la q1
      obtain ⟨b, ys, rfl, h2, r2⟩ := v2.la q2
      exact catL I rx ry h1 h2 r1 r2 ed p
    · cases ed
theorem op_subD : OpR X (binaryOp .Sub) (rV2 X.K px W dSub) := by
  intro pins s σ H x y v u Q I rx ry q
  obtain ⟨σ', w, e, h, d1, d2, v1, v2, p0⟩ := q
  obtain ⟨d, ed, p⟩ := p0.nobad
  clear p0
  unfold dSub at ed
  split at ed
  · obtain rfl := vInt v1; obtain rfl := vInt v2; cases ed; exact op_sub pins s σ H _ _ v u Q I rx ry ⟨_, _, rfl, rfl, p.done (.int _)⟩
  · obtain rfl := vBl v1; obtain rfl := vInt v2; cases ed
    cases rx
    obtain ⟨t, rfl⟩ := ry
    exact IntBool.sub_bool_int ⟨.int _, H, I.tok _, ⟨_, rfl⟩, p.done (.int _)⟩
  · obtain rfl := vInt v1; obtain rfl := vBl v2; cases ed
    obtain ⟨t, rfl⟩ := rx
    cases ry
    exact IntBool.sub_int_bool ⟨.int _, H, I.tok _, ⟨_, rfl⟩, p.done (.int _)⟩
  · cases ed
theorem flat_len {α : Type} (xs : List α) (n : Nat) : (List.replicate n xs).flatten.length = n * xs.length := by
  rw [List.length_flatten, List.map_replicate, List.sum_replicate_nat]
theorem rep_fit {n : Nat} {j : Int} (h1 : 0 ≤ j) (h2 : j ≤ 1000) (h3 : n ≤ 1000) : n * j.toNat ≤ sizeLine := by
  have h4 : j.toNat ≤ 1000 := by omega
  have h5 : n * j.toNat ≤ 1000 * 1000 := Nat.mul_le_mul h3 h4
  rw [sizeLine_eq]; omega
theorem op_repR : OpR X (binaryOp .Mult) (fun x y H Q => ∃ l k xs, x = .ref l ∧ y = .int k ∧ H l = some (.lst xs) ∧ 0 ≤ k ∧ k ≤ 1000 ∧ xs.length ≤ 1000 ∧ ∀ p, H p = none → Q (.ref p) (upd H p (.lst (List.replicate k.toNat xs).flatten))) := by
  intro pins s σ H x y v u Q I rx ry ⟨l, k, xs, e1, e2, h1, h2, h3, h4, q⟩
  exact op_rep pins s σ H x y v u Q I rx ry ⟨l, k, xs, e1, e2, h1, by omega, by omega, rep_fit h2 h3 h4, q⟩
theorem tuple_mul1W (l : Addr) (items : Array Value) (n : Nat) (dd : Option Addr) (sl : Array (Option Value)) (u : Tok) :
    Meets (Builtin.«tuple.__mul__» ⟨[.ref l, .int 1 u], []⟩) (fun _ R s => s.heap.get? l = some { cls := .type "tuple", dict := dd, data := .seq items n, slots := sl } ∧
      R (.ok (.ret (Value.ref l))) s) :=
  .of_wp fun prog w A R s h => by
    obtain ⟨hp, g, d, tk, os⟩ := s
    obtain ⟨hl, h⟩ := h
    have f1 := AutoSeq1.idx_int
    have c1 : (items.isEmpty || (1 : Int) == 1) = true := by simp
    have c0 : ¬ (((1 : Int) < -(2 ^ 63) || (1 : Int) ≥ 2 ^ 63) = true) := by decide
    wp_walk using wpAny_loadPart' hl
    repeat (first
      | (refine wpAny_ite_true (decide_eq_true c1) ?_; wp_walk using wpAny_loadPart' hl)
      | (refine wpAny_ite_false (decide_eq_false (by decide)) ?_; wp_walk using wpAny_loadPart' hl))
    exact ⟨_, rfl, h⟩
theorem op_repT1 : OpR X (binaryOp .Mult) (fun x y H Q => ∃ l xs, x = .ref l ∧ y = .int 1 ∧ SqT X.K H l xs ∧ xs ≠ [] ∧ Q (.ref l) H) := by
  intro pins s σ H x y v u Q I rx ry h
  obtain ⟨l, xs, rfl, rfl, hT, hne, q⟩ := h
  cases rx
  obtain ⟨t, rfl⟩ := ry
  obtain ⟨its, r, ⟨⟨cls, dd, data, sl⟩, ho, hc, n, hd⟩, hs⟩ := I.tuple hT
  simp only at hc hd
  subst hc hd
  refine wpAny_binaryOp_repeat_ref (T := "tuple") (U := "int") (by decide) ⟨_, ho, rfl⟩ (fun s' => typeIs_int s' 1 t) noFill_tuple_mul F.fills_int_mul F.slot_int_rmul repeat_tuple F.slot_int_index.lookup
    (call_meets F.slot_int_rmul (typeIs_int s 1 t) F.entry_int_rmul (F.args_int_rmul_2 _ _) (int_rmul_tuple 1 t l its.toArray n dd sl)
      ⟨ho, rfl, ⟨_, ho, rfl⟩, call_meets F.slot_tuple_mul ⟨_, ho, rfl⟩ F.entry_tuple_mul (F.args_tuple_mul_2 _ _) (tuple_mul1W l its.toArray n dd sl t) ⟨ho, ?_⟩⟩)
  exact ⟨.ref l, H, I, rfl, q⟩
theorem tuple_mul0W (l : Addr) (items : Array Value) (n : Nat) (dd : Option Addr) (sl : Array (Option Value)) (x : Int) (u : Tok) (he : items.isEmpty = true) (c0 : (decide (x < -(2 ^ 63)) || decide (x ≥ 2 ^ 63)) = false) :
    Meets (Builtin.«tuple.__mul__» ⟨[.ref l, .int x u], []⟩) (fun _ R s => s.heap.get? l = some { cls := .type "tuple", dict := dd, data := .seq items n, slots := sl } ∧
      R (.ok (.ret (Value.ref l))) s) :=
  .of_wp fun prog w A R s h => by
    obtain ⟨hp, g, d, tk, os⟩ := s
    obtain ⟨hl, h⟩ := h
    have f1 := AutoSeq1.idx_int
    have c1 : (items.isEmpty || x == 1) = true := by rw [he]; rfl
    wp_walk using wpAny_loadPart' hl
    repeat (first
      | (refine wpAny_ite_false (decide_eq_false (by rw [c0]; exact Bool.false_ne_true)) ?_; wp_walk using wpAny_loadPart' hl)
      | (refine wpAny_ite_true (decide_eq_true c1) ?_; wp_walk using wpAny_loadPart' hl))
    exact ⟨_, rfl, h⟩
theorem op_repT0 : OpR X (binaryOp .Mult) (fun x y H Q => ∃ l k, x = .ref l ∧ y = .int k ∧ 0 ≤ k ∧ k ≤ 1000 ∧ SqT X.K H l [] ∧ Q (.ref l) H) := by
  intro pins s σ H x y v u Q I rx ry h
  obtain ⟨l, k, rfl, rfl, k0, k1, hT, q⟩ := h
  cases rx
  obtain ⟨t, rfl⟩ := ry
  obtain ⟨its, r, ⟨⟨cls, dd, data, sl⟩, ho, hc, n, hd⟩, hs⟩ := I.tuple hT
  simp only at hc hd
  subst hc hd
  cases r
  have c0 : (decide (k < -(2 ^ 63)) || decide (k ≥ 2 ^ 63)) = false := by
    rw [Bool.or_eq_false_iff, decide_eq_false_iff_not, decide_eq_false_iff_not]
    omega
  refine wpAny_binaryOp_repeat_ref (T := "tuple") (U := "int") (by decide) ⟨_, ho, rfl⟩ (fun s' => typeIs_int s' k t) noFill_tuple_mul F.fills_int_mul F.slot_int_rmul repeat_tuple F.slot_int_index.lookup
    (call_meets F.slot_int_rmul (typeIs_int s k t) F.entry_int_rmul (F.args_int_rmul_2 _ _) (int_rmul_tuple k t l #[] n dd sl)
      ⟨ho, rfl, ⟨_, ho, rfl⟩, call_meets F.slot_tuple_mul ⟨_, ho, rfl⟩ F.entry_tuple_mul (F.args_tuple_mul_2 _ _) (tuple_mul0W l #[] n dd sl k t rfl c0) ⟨ho, ?_⟩⟩)
  exact ⟨.ref l, H, I, rfl, q⟩
theorem op_mulD : OpR X (binaryOp .Mult) (rV2 X.K px W dMul) := by
  intro pins s σ H x y v u Q I rx ry q
  obtain ⟨σ', w, e, h, d1, d2, v1, v2, p0⟩ := q
  obtain ⟨d, ed, p⟩ := p0.nobad
  clear p0
  unfold dMul at ed
  split at ed
  · split at ed
    · rename_i hc
      obtain rfl := vInt v1; obtain rfl := vInt v2; cases ed
      exact op_mul pins s σ H _ _ v u Q I rx ry ⟨_, _, rfl, rfl, hc, p.done (.int _)⟩
    · cases ed
  · split at ed
    · rename_i hc
      obtain ⟨a, xs, rfl, n1, h1, r1⟩ := vLst v1
      obtain rfl := vInt v2
      cases ed
      exact op_repR pins s σ H _ _ v u Q I rx ry ⟨_, _, _, rfl, rfl, h1, hc.1, hc.2.1, by rw [← r1.length]; exact hc.2.2, fun p' hp' => p.newL hp' (r1.flat _)⟩
    · cases ed
  · split at ed
    · rename_i hc
      obtain ⟨a, xs, rfl, h1, r1⟩ := vTup v1
      obtain rfl := vInt v2
      cases ed
      rename_i xs0 j0
      by_cases j1 : j0 = 1
      · subst j1
        refine op_repT1 pins s σ H _ _ v u Q I rx ry ⟨_, _, rfl, rfl, sqt h1, ?_, p.done (by
          have e : (List.replicate (1 : Int).toNat xs0).flatten = xs0 := by simp
          rw [e]; exact v1)⟩
        rintro rfl
        cases r1
        exact absurd hc.1 (by simp)
      refine op_repT pins s σ H _ _ v u Q I rx ry ⟨_, _, _, rfl, rfl, sqt h1, ?_, by have := hc.2.1; omega, hc.2.2.1, by rw [← r1.length]; exact hc.2.2.2, fun p' hp' => p.newT hp' (r1.flat _)⟩
      rintro rfl
      cases r1
      exact absurd hc.1 (by simp)
    · split at ed
      · rename_i hc
        have v0 := v1
        obtain ⟨a, xs, rfl, h1, r1⟩ := vTup v1
        obtain rfl := vInt v2
        cases ed
        rename_i xs0 j0 _
        have e : xs0 = [] := List.isEmpty_iff.mp hc.1
        subst e
        cases r1
        exact op_repT0 pins s σ H _ _ v u Q I rx ry ⟨_, _, rfl, rfl, hc.2.1, hc.2.2, sqt h1, p.done v0⟩
      · cases ed
  · cases ed
theorem op_divD : OpR X (binaryOp .FloorDiv) (rV2 X.K px W dDiv) := by
  intro pins s σ H x y v u Q I rx ry q
  obtain ⟨σ', w, e, h, d1, d2, v1, v2, p0⟩ := q
  obtain ⟨d, ed, p⟩ := p0.nobad
  clear p0
  unfold dDiv at ed
  split at ed
  · split at ed
    · rename_i hc
      obtain rfl := vInt v1; obtain rfl := vInt v2; cases ed
      exact op_fdiv pins s σ H _ _ v u Q I rx ry ⟨_, _, rfl, rfl, hc, p.done (.int _)⟩
    · cases ed
  · cases ed
theorem op_modD : OpR X (binaryOp .Mod) (rV2 X.K px W dMod) := by
  intro pins s σ H x y v u Q I rx ry q
  obtain ⟨σ', w, e, h, d1, d2, v1, v2, p0⟩ := q
  obtain ⟨d, ed, p⟩ := p0.nobad
  clear p0
  unfold dMod at ed
  split at ed
  · split at ed
    · rename_i hc
      obtain rfl := vInt v1; obtain rfl := vInt v2; cases ed
      exact op_mod pins s σ H _ _ v u Q I rx ry ⟨_, _, rfl, rfl, hc, p.done (.int _)⟩
    · cases ed
  · cases ed
theorem op_powD : OpR X (binaryOp .Pow) (rV2 X.K px W dPow) := by
  intro pins s σ H x y v u Q I rx ry q
  obtain ⟨σ', w, e, h, d1, d2, v1, v2, p0⟩ := q
  obtain ⟨d, ed, p⟩ := p0.nobad
  clear p0
  unfold dPow at ed
  split at ed
  · split at ed
    · rename_i hc
      obtain rfl := vInt v1; obtain rfl := vInt v2; cases ed
      exact op_pow pins s σ H _ _ v u Q I rx ry ⟨_, _, rfl, rfl, hc, p.done (.int _)⟩
    · cases ed
  · cases ed
def bopOf : Bop → Operator
  | .add => .Add | .sub => .Sub | .mul => .Mult | .fdiv => .FloorDiv | .mod => .Mod | .pow => .Pow
theorem op_binD (o : Bop) : OpR X (binaryOp (bopOf o)) (rV2 X.K px W (dBin o)) := by
  cases o
  · exact op_addD
  · exact op_subD
  · exact op_mulD
  · exact op_divD
  · exact op_modD
  · exact op_powD

/-! ### comparisons -/
def rC2 (K : PySem.W.Frag) (px : Px) (W : WX) (op : D → D → Option Bool) : R2 := rV2 K px W fun x y => (op x y).map .bl
theorem op_eqD (hu : X.A.units + 64 < cLine) : OpR X (compareOp .Eq) (rC2 X.K px W dEq) := by
  intro pins s σ H x y v u Q I rx ry q
  obtain ⟨σ', w, e, h, d1, d2, v1, v2, p0⟩ := q
  obtain ⟨d, ed, p⟩ := p0.nobad
  clear p0
  unfold dEq at ed
  dsimp only at ed
  split at ed
  · rename_i hs
    cases ed
    simp only [D.sound, Bool.and_eq_true, decide_eq_true_eq] at hs
    obtain ⟨as, r1⟩ := v1.reads I rx hs.1.1.1
    obtain ⟨bs, r2⟩ := v2.reads I ry hs.2.1.1
    exact SeqAt.eq_plain r1 r2 hs.1.1.2 hs.2.1.2 (by have := Nat.min_le_left d1.py.depth d2.py.depth; omega) ⟨.bl _, H, I, rfl, p.done (.bl _)⟩
  · cases ed
theorem op_eq0D (hu : X.A.units + 64 < cLine) : OpR X (compareOp .Eq) (rC2 X.K px W dEq0) := by
  intro pins s σ H x y v u Q I rx ry q
  obtain ⟨σ', w, e, h, d1, d2, v1, v2, p0⟩ := q
  obtain ⟨d, ed, p⟩ := p0.nobad
  clear p0
  unfold dEq0 at ed
  dsimp only at ed
  split at ed
  · split at ed
    · rename_i hk
      cases ed
      obtain ⟨as, r1⟩ := v1.reads I rx hk
      obtain ⟨a, xs, rfl, h1, r⟩ := vTup v2
      cases r
      cases ry
      obtain ⟨its, r', ho, hs⟩ := I.tuple (sqt h1)
      cases r'
      exact rcAt_empty r1 ho rfl (by omega) _ _ _ _ ⟨.bl _, H, I, rfl, p.done (.bl _)⟩
    · cases ed
  · cases ed
theorem strPy_of {z : Str} {d : D} (h : d.rd = true) : strPy z d.py = strIs z d := by
  cases d <;> first | rfl | cases h
theorem op_ninS (hu : X.A.units + 64 < cLine) : OpR X (compareOp .NotIn) (rC2 X.K px W fun x y => (dInS x y).map (!·)) := by
  intro pins s σ H x y v u Q I rx ry q
  obtain ⟨σ', w, e, h, d1, d2, v1, v2, p0⟩ := q
  obtain ⟨d, ed, p⟩ := p0.nobad
  clear p0
  obtain ⟨b0, e0, rfl⟩ := Option.map_eq_some_iff.mp ed
  obtain ⟨b, eb, rfl⟩ := Option.map_eq_some_iff.mp e0
  clear e0 ed
  unfold dInS at eb
  split at eb
  case h_2 => cases eb
  rename_i xs
  split at eb
  case isFalse => cases eb
  rename_i hk
  obtain ⟨ss, es, rfl⟩ := Option.map_eq_some_iff.mp eb
  obtain ⟨as, r1⟩ := v1.reads I rx hk
  obtain ⟨a, vs, rfl, h1, r⟩ := vTup v2
  cases ry
  obtain ⟨its, r', ho, hs⟩ := I.tuple (sqt h1)
  have all : ∀ {xs : List D} {ss : List Str} {vs : List V} {its : List Value}, tStrs xs = some ss → VRs X.K w H xs vs → Vals vs its → (its.any fun i => match i with | .str z _ => strIs z d1 | _ => false) = (ss.any fun z => strIs z d1) ∧ ∀ i ∈ its, ∃ z t, i = .str z t := by
    intro xs
    induction xs with
    | nil => intro ss vs its e1 e2 e3; cases e1; cases e2; cases e3; exact ⟨rfl, fun i hi => by cases hi⟩
    | cons x xs ih =>
      intro ss vs its e1 e2 e3
      cases x <;> first | (cases e1; done) | skip
      rename_i z
      obtain ⟨s2, e4, rfl⟩ := Option.map_eq_some_iff.mp e1
      cases e2 with
      | cons a1 a2 =>
        cases e3 with
        | cons b1 b2 =>
          cases a1
          obtain ⟨t, rfl⟩ := b1
          obtain ⟨q1, q2⟩ := ih e4 a2 b2
          refine ⟨by rw [List.any_cons, List.any_cons, q1], fun i hi => ?_⟩
          rcases List.mem_cons.mp hi with rfl | hi
          · exact ⟨_, _, rfl⟩
          · exact q2 i hi
  obtain ⟨q1, q2⟩ := all es r r'
  refine SeqAt.notIn_tupleAt (fun i => match i with | .str z _ => strIs z d1 | _ => false) ho (fun i hi => ?_) ?_
  · obtain ⟨z, t, rfl⟩ := q2 i (by simpa using hi)
    have := eqAt_str (A := X.A.in1) (z := z) (t := t) r1 (show X.A.units + 1 < cLine by omega)
    rw [strPy_of hk] at this
    exact this
  · rw [List.any_toArray, q1]
    exact ⟨.bl _, H, I, rfl, p.done (.bl _)⟩
theorem op_neD (hu : X.A.units + 64 < cLine) : OpR X (compareOp .NotEq) (rC2 X.K px W fun x y => (dEq x y).map (!·)) := by
  intro pins s σ H x y v u Q I rx ry q
  obtain ⟨σ', w, e, h, d1, d2, v1, v2, p0⟩ := q
  obtain ⟨d, ed, p⟩ := p0.nobad
  clear p0
  unfold dEq at ed
  dsimp only at ed
  split at ed
  · rename_i hs
    cases ed
    simp only [D.sound, Bool.and_eq_true, decide_eq_true_eq] at hs
    obtain ⟨as, r1⟩ := v1.reads I rx hs.1.1.1
    obtain ⟨bs, r2⟩ := v2.reads I ry hs.2.1.1
    exact SeqAt.ne_plain r1 r2 hs.1.1.2 hs.2.1.2 (by have := Nat.min_le_left d1.py.depth d2.py.depth; omega) ⟨.bl _, H, I, rfl, p.done (.bl _)⟩
  · cases ed
theorem op_cmpI {op : CmpOp} {f : Int → Int → Bool} (hr : OpR X (compareOp op) (rI0 fun i j => .bl (f i j))) : OpR X (compareOp op) (rC2 X.K px W (dCmpI f)) := by
  intro pins s σ H x y v u Q I rx ry q
  obtain ⟨σ', w, e, h, d1, d2, v1, v2, p0⟩ := q
  obtain ⟨d, ed, p⟩ := p0.nobad
  clear p0
  cases d1 <;> cases d2 <;> simp only [dCmpI, reduceCtorEq, Option.map_none] at ed
  obtain rfl := vInt v1; obtain rfl := vInt v2; cases ed
  exact hr pins s σ H _ _ v u Q I rx ry ⟨_, _, rfl, rfl, p.done (.bl _)⟩
theorem op_ltD (hu : X.A.units + 64 < cLine) : OpR X (compareOp .Lt) (rC2 X.K px W dLt) := by
  intro pins s σ H x y v u Q I rx ry q
  obtain ⟨σ', w, e, h, d1, d2, v1, v2, p0⟩ := q
  obtain ⟨d, ed, p⟩ := p0.nobad
  clear p0
  cases d1 <;> cases d2 <;> simp only [dLt, reduceCtorEq, Option.map_none] at ed
  case int.int => obtain rfl := vInt v1; obtain rfl := vInt v2; cases ed; exact op_lt pins s σ H _ _ v u Q I rx ry ⟨_, _, rfl, rfl, p.done (.bl _)⟩
  case tup.tup xs ys =>
    split at ed
    · rename_i hs
      cases ed
      simp only [D.sound, Bool.and_eq_true, decide_eq_true_eq] at hs
      obtain ⟨as, r1⟩ := v1.reads I rx hs.1.1.1.1
      obtain ⟨bs, r2⟩ := v2.reads I ry hs.1.2.1.1
      refine PySem.W.rcLt_alike _ _ _ _ _ _ as bs r1 r2 hs.2 (by simp [D.py]) (by have := Nat.min_le_left (D.tup xs).py.depth (D.tup ys).py.depth; omega) X.prog X.w _ _ ⟨.bl _, H, I, rfl, p.done (.bl _)⟩
    · cases ed
theorem any_pys (d : D) : ∀ xs : List D, (D.pys xs).any (fun z => PyData.eqv z d.py) = xs.any fun z => PyData.eqv z.py d.py
  | [] => rfl
  | x :: xs => by rw [D.pys, List.any_cons, List.any_cons, any_pys d xs]
theorem in_units {u : Nat} {xs : List D} {d : D} (hu : u + 64 < cLine) (h2 : PyData.depth d.py ≤ 60) : u + 1 + min (PyData.depthAll (D.pys xs)) d.py.depth < cLine := by
  have := Nat.min_le_right (PyData.depthAll (D.pys xs)) d.py.depth
  omega
theorem py_sq {d : D} {xs : List D} (h : d.sq? = some xs) : d.py = .list (D.pys xs) ∨ d.py = .tuple (D.pys xs) := by
  cases d <;> cases h <;> first | exact .inl rfl | exact .inr rfl
theorem op_inD (hu : X.A.units + 64 < cLine) : OpR X (compareOp .In) (rC2 X.K px W dIn) := by
  intro pins s σ H x y v u Q I rx ry q
  obtain ⟨σ', w, e, h, d1, d2, v1, v2, p0⟩ := q
  obtain ⟨d, ed, p⟩ := p0.nobad
  clear p0
  unfold dIn at ed
  dsimp only at ed
  split at ed
  · obtain rfl := vStr v1; obtain rfl := vStr v2; cases ed
    exact op_in_str pins s σ H _ _ v u Q I rx ry ⟨_, _, rfl, rfl, p.done (.bl _)⟩
  · split at ed
    · rename_i xs hq
      split at ed
      · rename_i hs
        cases ed
        simp only [D.sound, Bool.and_eq_true, decide_eq_true_eq] at hs
        obtain ⟨as, r1⟩ := v1.reads I rx hs.1.1.1
        obtain ⟨bs, r2⟩ := v2.reads I ry hs.2.1.1
        rcases py_sq hq with ep | ep
        · rw [ep] at r2
          have hp := hs.2.1.2
          rw [ep] at hp
          exact SeqAt.in_list_data (xs := D.pys xs) r2 r1 hp hs.1.1.2 (in_units hu hs.1.2) (by rw [any_pys]; exact ⟨.bl _, H, I, rfl, p.done (.bl _)⟩)
        · rw [ep] at r2
          have hp := hs.2.1.2
          rw [ep] at hp
          exact SeqAt.in_tuple_data (xs := D.pys xs) r2 r1 hp hs.1.1.2 (in_units hu hs.1.2) (by rw [any_pys]; exact ⟨.bl _, H, I, rfl, p.done (.bl _)⟩)
      · cases ed
    · cases ed
theorem op_notinD (hu : X.A.units + 64 < cLine) : OpR X (compareOp .NotIn) (rC2 X.K px W fun x y => (dIn x y).map (!·)) := by
  intro pins s σ H x y v u Q I rx ry q
  obtain ⟨σ', w, e, h, d1, d2, v1, v2, p0⟩ := q
  obtain ⟨d, ed, p⟩ := p0.nobad
  clear p0
  unfold dIn at ed
  dsimp only at ed
  split at ed
  · obtain rfl := vStr v1; obtain rfl := vStr v2; cases ed
    exact op_notin_str pins s σ H _ _ v u Q I rx ry ⟨_, _, rfl, rfl, p.done (.bl _)⟩
  · split at ed
    · rename_i xs hq
      split at ed
      · rename_i hs
        cases ed
        simp only [D.sound, Bool.and_eq_true, decide_eq_true_eq] at hs
        obtain ⟨as, r1⟩ := v1.reads I rx hs.1.1.1
        obtain ⟨bs, r2⟩ := v2.reads I ry hs.2.1.1
        rcases py_sq hq with ep | ep
        · rw [ep] at r2
          have hp := hs.2.1.2
          rw [ep] at hp
          exact SeqAt.notIn_list_data (xs := D.pys xs) r2 r1 hp hs.1.1.2 (in_units hu hs.1.2) (by rw [any_pys]; exact ⟨.bl _, H, I, rfl, p.done (.bl _)⟩)
        · rw [ep] at r2
          have hp := hs.2.1.2
          rw [ep] at hp
          exact SeqAt.notIn_tuple_data (xs := D.pys xs) r2 r1 hp hs.1.1.2 (in_units hu hs.1.2) (by rw [any_pys]; exact ⟨.bl _, H, I, rfl, p.done (.bl _)⟩)
      · cases ed
    · cases ed
theorem isN_v {K : PySem.W.Frag} {w : Wd} {H : Hp} {d : D} {v : V} (r : VT K w H d v) : decide (v = .non) = dIsN d := by
  cases r with
  | of r =>
    cases r with
    | of r => cases r <;> first | rfl | exact decide_eq_false (fun z => by cases z)
    | scr => exact decide_eq_false (fun z => by cases z)
    | scrK => exact decide_eq_false (fun z => by cases z)
  | bor => exact decide_eq_false (fun z => by cases z)
theorem op_isND : OpR X (compareOp .Is) (rC2 X.K px W fun a b => if dIsN b then some (dIsN a) else none) := by
  intro pins s σ H x y v u Q I rx ry q
  obtain ⟨σ', w, e, h, d1, d2, v1, v2, p0⟩ := q
  obtain ⟨d, ed, p⟩ := p0.nobad
  clear p0
  cases d2 <;> simp only [dIsN, reduceCtorEq, Option.map_none, if_true, Bool.false_eq_true, if_false, Option.map_some] at ed
  obtain rfl := vNon v2
  cases ed
  exact op_isN pins s σ H _ _ v u Q I rx ry ⟨rfl, by rw [isN_v v1]; exact p.done (.bl _)⟩
theorem op_notND : OpR X (compareOp .IsNot) (rC2 X.K px W fun a b => if dIsN b then some (!dIsN a) else none) := by
  intro pins s σ H x y v u Q I rx ry q
  obtain ⟨σ', w, e, h, d1, d2, v1, v2, p0⟩ := q
  obtain ⟨d, ed, p⟩ := p0.nobad
  clear p0
  cases d2 <;> simp only [dIsN, reduceCtorEq, Option.map_none, if_true, Bool.false_eq_true, if_false, Option.map_some] at ed
  obtain rfl := vNon v2
  cases ed
  exact op_notN pins s σ H _ _ v u Q I rx ry ⟨rfl, by rw [isN_v v1]; exact p.done (.bl _)⟩
theorem op_notBD : OpR X (compareOp .IsNot) (rC2 X.K px W dNotB) := by
  intro pins s σ H x y v u Q I rx ry q
  obtain ⟨σ', w, e, h, d1, d2, v1, v2, p0⟩ := q
  obtain ⟨d, ed, p⟩ := p0.nobad
  clear p0
  unfold dNotB at ed
  dsimp only at ed
  split at ed
  · cases ed
    obtain rfl := vBl v1
    obtain rfl := vBl v2
    exact op_notBl pins s σ H _ _ v u Q I rx ry ⟨_, _, rfl, rfl, p.done (.bl _)⟩
  · cases ed
def copOf : Cop → CmpOp
  | .eq => .Eq | .ne => .NotEq | .lt => .Lt | .le => .LtE | .gt => .Gt | .ge => .GtE | .isin => .In | .notin => .NotIn | .isN => .Is | .notN => .IsNot | .eq0 => .Eq | .notB => .IsNot | .ninS => .NotIn
theorem op_cmpD (hu : X.A.units + 64 < cLine) (o : Cop) : OpR X (compareOp (copOf o)) (rC2 X.K px W (dCmp o)) := by
  cases o
  · exact op_eqD hu
  · exact op_neD hu
  · exact op_ltD hu
  · exact op_cmpI op_le
  · exact op_cmpI op_gt
  · exact op_cmpI op_ge
  · exact op_inD hu
  · exact op_notinD hu
  · exact op_isND
  · exact op_notND
  · exact op_eq0D hu
  · exact op_notBD
  · exact op_ninS hu
end
/-- what every rule asks of the place where it is used -/
structure Cz (X : Cx) : Prop where
  un : X.A.units + 200 < cLine
  gd : X.A.guards = some []
  sm : ∃ o, X.base.get? sysModules = some o ∧ o.cls ≠ .type "list"
section
variable {X : Cx} {px : Px} {W : WX}
/-! ### isinstance -/
def tyOf : Ty → String
  | .int => "int" | .bool => "bool" | .tuple => "tuple" | .str => "str" | .list => "list" | .exc _ => "" | .value => "ValueError"
def isL : Ty → Bool
  | .list => true | _ => false
def plainTy : Ty → Bool
  | .exc _ => false | .value => false | _ => true
theorem nr_reads {pins : List (Addr × Obj)} {σ : L2.St} {H : Hp} {s : Shared} {w : Wd} (I : Inv X pins σ H s) {d : D} {v : V} {u : Value} {Q : Value → Shared → Prop} {E : Value → Shared → Prop} (h : VT X.K w H d v) (r : RelV v u) {t : Ty} {b : Bool} (ht : plainTy t = true) (e : dIsi t d = some b) (q : ∀ tk, Q (.bool b) { s with toks := tk }) :
    wpAny (model X.prog X.w) X.A (call (.builtin "isinstance") [u, .type (tyOf t)]) Q E s := by
  have lstC : ∀ {a : Addr} {xs : List V}, (SqL X.K H a xs) → RelV (.ref a) u → ∃ o, u = .ref a ∧ s.heap.get? a = some o ∧ o.cls = .type "list" := by
    intro a xs hq r
    cases r
    obtain ⟨its, rv, ⟨o, n, ho, hc, _, hd⟩, _⟩ := I.list hq
    exact ⟨o, rfl, ho, hc⟩
  have onL : ∀ {a : Addr} {xs : List V}, (SqL X.K H a xs) → RelV (.ref a) u → isL t = b → wpAny (model X.prog X.w) X.A (call (.builtin "isinstance") [u, .type (tyOf t)]) Q E s := by
    intro a xs hq r hb
    obtain ⟨o, rfl, ho, hc⟩ := lstC hq r
    cases t <;> first | cases ht | skip
    · subst hb; exact IsiPair.list_int ho hc (q _)
    · subst hb; exact IsiPair.list_bool ho hc (q _)
    · subst hb; exact IsiPair.list_tuple ho hc (q _)
    · subst hb; exact IsiPair.list_str ho hc (q _)
    · subst hb; exact IsiPair.list_list ho hc (q _)
  cases h with
  | bor m n hq ha => exact onL (.inl (.inl hq)) r (by cases t <;> first | (cases ht; done) | (cases e; rfl))
  | of h =>
    cases h with
    | scr n1 n2 hq ha => exact onL (.inl hq) r (by cases t <;> first | (cases ht; done) | (cases e; rfl))
    | scrK hq ha => exact onL (.inr hq) r (by cases t <;> first | (cases ht; done) | (cases e; rfl))
    | of h =>
      cases h with
      | non => cases r; cases t <;> first | cases ht | skip
               · cases e; exact IsiPair.NoneType_int (q _)
               · cases e; exact IsiPair.NoneType_bool (q _)
               · cases e; exact IsiPair.NoneType_tuple (q _)
               · cases e; exact IsiPair.NoneType_str (q _)
               · cases e; exact IsiPair.NoneType_list (q _)
      | bl b => cases r; cases t <;> first | cases ht | skip
                · cases e; exact IsiPair.bool_int (q s.toks)
                · cases e; exact IsiPair.bool_bool (q s.toks)
                · cases e; exact IsiPair.bool_tuple (q _)
                · cases e; exact IsiPair.bool_str (q _)
                · cases e; exact IsiPair.bool_list (q _)
      | int i => obtain ⟨tk, rfl⟩ := r; cases t <;> first | cases ht | skip
                 · cases e; exact IsiPair.int_int (q s.toks)
                 · cases e; exact IsiPair.int_bool (q _)
                 · cases e; exact IsiPair.int_tuple (q _)
                 · cases e; exact IsiPair.int_str (q _)
                 · cases e; exact IsiPair.int_list (q _)
      | str i => obtain ⟨tk, rfl⟩ := r; cases t <;> first | cases ht | skip
                 · cases e; exact IsiPair.str_int (q _)
                 · cases e; exact IsiPair.str_bool (q _)
                 · cases e; exact IsiPair.str_tuple (q _)
                 · cases e; exact IsiPair.str_str (q s.toks)
                 · cases e; exact IsiPair.str_list (q _)
      | tup hq ha =>
        cases r
        obtain ⟨its, rv, ⟨o, ho, hc, n, hd⟩, _⟩ := I.tuple (.inl (.inl hq))
        cases t <;> first | cases ht | skip
        · cases e; exact IsiPair.tuple_int ho hc (q _)
        · cases e; exact IsiPair.tuple_bool ho hc (q _)
        · cases e; exact IsiPair.tuple_tuple ho hc (q _)
        · cases e; exact IsiPair.tuple_str ho hc (q _)
        · cases e; exact IsiPair.tuple_list ho hc (q _)
      | lst n hq ha => exact onL (.inl (.inl hq)) r (by cases t <;> first | (cases ht; done) | (cases e; rfl))
      | dct n nd hq =>
        cases r
        obtain ⟨_, _, vs, rv, o, es, ep, ho, hx, hd, _⟩ := I.hok _ _ hq
        cases t <;> first | cases ht | skip
        · cases e; exact IsiPair.dict_int ho hx.1 (q _)
        · cases e; exact IsiPair.dict_bool ho hx.1 (q _)
        · cases e; exact IsiPair.dict_tuple ho hx.1 (q _)
        · cases e; exact IsiPair.dict_str ho hx.1 (q _)
        · cases e; exact IsiPair.dict_list ho hx.1 (q _)
      | ref hq => cases t <;> first | (cases ht; done) | (cases e; done)
      | exc n l q => cases t <;> first | (cases ht; done) | (cases e; done)
      | exb n n2 q q2 => cases t <;> first | (cases ht; done) | (cases e; done)
/-- truth -/
theorem VT.tru {K : PySem.W.Frag} {w : Wd} {H : Hp} {d : D} {v : V} {k : Bool} (h : VT K w H d v) (e : d.tru = some k) : TruV K v H k := by
  have go : ∀ {ds : List D} {a : Addr} {xs : List V}, (SqL K H a xs ∨ SqT K H a xs) → VRs K w H ds xs → some (!ds.isEmpty) = some k → TruV K (.ref a) H k := by
    intro ds a xs hq r e
    cases e
    rw [r.isEmpty]
    rcases hq with hq | hq
    · exact .inl ⟨xs, hq, rfl⟩
    · exact .inr (.inl ⟨xs, hq, rfl⟩)
  cases h with
  | bor m n q r => exact go (.inl (.inl (.inl q))) r e
  | of h =>
    cases h with
    | scr n1 n2 q r => exact go (.inl (.inl q)) r e
    | scrK q r => exact go (.inl (.inr q)) r e
    | of h =>
      cases h with
      | non => cases e; rfl
      | bl b => cases e; rfl
      | int b => cases e; rfl
      | str b =>
        have e : (if b.length ≤ LIM then some (b.length != 0) else none) = some k := e
        split at e
        · rename_i hl
          cases e
          refine ⟨by rw [← LIM_eq]; exact hl, ?_⟩
          by_cases h0 : b.length = 0
          · simp [h0]
          · have : ((b.length : Int) != 0) = true := by simp; omega
            rw [this]; simp [h0]
        · cases e
      | tup q r => exact go (.inr (.inl (.inl q))) r e
      | lst n q r => exact go (.inl (.inl (.inl q))) r e
      | dct n nd q => cases e
      | ref q => cases e
      | exc n l q => cases e
      | exb n n2 q q2 => cases e
end
end Tv
end

section
set_option autoImplicit false
set_option maxHeartbeats 2000000
/-! The least of four numbers. -/
namespace Tv
open PySem PySem.Spec PyProof.Rows L2
section
variable {prog : Program} {w : World} {A : Around} {E : Value → Shared → Prop} {s : Shared}
theorem args_min4 (a b c d : Value) : argsOk "min" ⟨[a, b, c, d], []⟩ := by unfold argsOk; kernel_rfl
theorem call_min_four {a b c d : Value} {Q : Value → Shared → Prop}
    (h : wpAny (model prog w) A.in1 (pyIter (.ref s.heap.objs.size)) (fun it s₂ => ∃ I fp wr n P St bt, it = .ref I ∧ Walks prog w A.in1 I fp wr n P St ∧ St 0 s₂.heap ∧ (∀ b ∈ fp, b < s₂.heap.objs.size) ∧ 0 < n ∧ CmpOf prog w A.in1 .Lt P bt ∧
      ∀ v h' tk, P (argBest bt (n - 1)) v → (∀ b o, b ∉ wr → s₂.heap.get? b = some o → h'.get? b = some o) → Q v { s₂ with heap := h', toks := tk }) E
      { s with heap := s.heap.push { cls := .type "tuple", data := .seq #[a, b, c, d] } }) :
    wpAny (model prog w) A (call (.builtin "min") [a, b, c, d]) Q E s := by
  have hname : (toString "min" ++ toString ".loop" : String) = "min.loop" := by decide
  refine call_function_tree F.kind_min F.plain_min F.entry_min (args_min4 _ _ _ _) ?_
  show wpAny _ A.in1 (Builtin.Builtins.bindParams "min" ["key", "default"] 0 ⟨[], []⟩ >>= _) _ _ s
  refine wpAny_bind (wpAny_of_eq (show Builtin.Builtins.bindParams "min" ["key", "default"] 0 ⟨[], []⟩ = pure [none, none] from rfl) ?_)
  show wpAny _ A.in1 (newTuple [a, b, c, d] >>= _) _ _ s
  refine wpAny_bind (wpAny_newObj_type ?_)
  refine wpAny_bind (wpAny_mono h (fun it s₂ h₂ => ?_) fun _ _ e => e)
  obtain ⟨I, fp, wr, n, P, St, bt, rfl, W, hst, hfp, hn, hcmp, hQ⟩ := h₂
  refine wpAny_bind (wpAny_newObj_type ?_)
  have hSf : s₂.heap.objs.size ∉ fp := fun hm => Nat.lt_irrefl _ (hfp _ hm)
  rw [hname]
  refine wpAny_pure ⟨plainId_quiet F.plain_min_loop _, codeAny_min_loop_first W bt hcmp s₂.heap.objs.size hSf hn (W.frame _ _ _ hst fun b _ o e => Heap.get?_push_of_some _ e) (Heap.get?_push_size _ rfl) fun v h' tk hP hk => ?_⟩
  exact hQ v h' tk hP fun b o hbw e => hk b o hbw (Nat.ne_of_lt (Heap.lt_size e)) (Heap.get?_push_of_some _ e)
theorem m4_best {a b c d : Int} {t u x y : Tok} {v : Value} (hP : (intItems #[(a, t), (b, u), (c, x), (d, y)])[argBest (fun i j => decide (numAt #[(a, t), (b, u), (c, x), (d, y)] i < numAt #[(a, t), (b, u), (c, x), (d, y)] j)) 3]? = some v) : ∃ z, v = .int (m4 a b c d) z := by
  by_cases h1 : b < a
  · by_cases h2 : c < b
    · by_cases h3 : d < c
      · simp [argBest, numAt, intItems, h1, h2, h3] at hP; exact ⟨y, by rw [← hP]; simp [m4, h1, h2, h3]⟩
      · simp [argBest, numAt, intItems, h1, h2, h3] at hP; exact ⟨x, by rw [← hP]; simp [m4, h1, h2, h3]⟩
    · by_cases h3 : d < b
      · simp [argBest, numAt, intItems, h1, h2, h3] at hP; exact ⟨y, by rw [← hP]; simp [m4, h1, h2, h3]⟩
      · simp [argBest, numAt, intItems, h1, h2, h3] at hP; exact ⟨u, by rw [← hP]; simp [m4, h1, h2, h3]⟩
  · by_cases h2 : c < a
    · by_cases h3 : d < c
      · simp [argBest, numAt, intItems, h1, h2, h3] at hP; exact ⟨y, by rw [← hP]; simp [m4, h1, h2, h3]⟩
      · simp [argBest, numAt, intItems, h1, h2, h3] at hP; exact ⟨x, by rw [← hP]; simp [m4, h1, h2, h3]⟩
    · by_cases h3 : d < a
      · simp [argBest, numAt, intItems, h1, h2, h3] at hP; exact ⟨y, by rw [← hP]; simp [m4, h1, h2, h3]⟩
      · simp [argBest, numAt, intItems, h1, h2, h3] at hP; exact ⟨t, by rw [← hP]; simp [m4, h1, h2, h3]⟩
theorem min_four_ints {a b c d : Int} {t u x y : Tok} {Q : Value → Shared → Prop} (hh : A.handled = none)
    (h : ∀ h' tk z, (∀ d o, s.heap.get? d = some o → h'.get? d = some o) → Q (.int (m4 a b c d) z) { s with heap := h', toks := tk }) :
    wpAny (model prog w) A (call (.builtin "min") [.int a t, .int b u, .int c x, .int d y]) Q E s := by
  have hT : (s.heap.push { cls := .type "tuple", data := .seq #[.int a t, .int b u, .int c x, .int d y] }).IsTuple s.heap.objs.size (intItems #[(a, t), (b, u), (c, x), (d, y)]) := ⟨_, Heap.get?_push_size _ rfl, rfl, 0, by simp [intItems]⟩
  refine call_min_four (wpAny_pyIter_tuple hT ?_)
  have hsz : (s.heap.push { cls := .type "tuple", data := .seq #[.int a t, .int b u, .int c x, .int d y] }).objs.size = s.heap.objs.size + 1 := Heap.size_push ..
  refine ⟨_, [_, s.heap.objs.size], [_], _, _, _, _, rfl, Walks.tuple (A := A.in1) hh _ s.heap.objs.size (by rw [hsz]; exact Nat.ne_of_lt (Nat.lt_succ_self _)) (intItems #[(a, t), (b, u), (c, x), (d, y)]),
    ⟨⟨_, Heap.get?_push_size _ rfl, rfl, rfl⟩, hT.push _⟩, fun d hd => ?_, by simp [intItems], CmpOf.ints_lt (numAt #[(a, t), (b, u), (c, x), (d, y)]) (fun _ _ => intItems_at), fun v h' tk hP hk => ?_⟩
  · show d < ((s.heap.push _).push _).objs.size
    rw [Heap.size_push, hsz]
    rcases List.mem_cons.mp hd with rfl | hd
    · rw [hsz]; exact Nat.lt_succ_self _
    · rcases List.mem_cons.mp hd with rfl | hd
      · exact Nat.lt_succ_of_lt (Nat.lt_succ_self _)
      · cases hd
  · have hold : ∀ d o, s.heap.get? d = some o → h'.get? d = some o := fun d o e => by
      refine hk d o (fun hm => ?_) (Heap.get?_push_of_some _ (Heap.get?_push_of_some _ e))
      rcases List.mem_cons.mp hm with e1 | hm
      · have := Heap.lt_size e; rw [e1, hsz] at this; exact Nat.lt_irrefl _ (Nat.lt_of_succ_lt this)
      · cases hm
    have hP' : (intItems #[(a, t), (b, u), (c, x), (d, y)])[argBest (fun i j => decide (numAt #[(a, t), (b, u), (c, x), (d, y)] i < numAt #[(a, t), (b, u), (c, x), (d, y)] j)) 3]? = some v := by
      have hsz2 : (intItems #[(a, t), (b, u), (c, x), (d, y)]).size - 1 = 3 := by simp [intItems]
      rw [← hsz2]; exact hP
    obtain ⟨z, rfl⟩ := m4_best hP'
    exact h h' tk z hold
end
theorem call_min4 {X : Cx} (hc : X.calm = true) : CallR X (.builtin "min") (fun xs H Q => ∃ i j k l, xs = [.int i, .int j, .int k, .int l] ∧ Q (.int (m4 i j k l)) H) := by
  intro pins s σ H xs us Q I r h
  obtain ⟨i, j, k, l, rfl, q⟩ := h
  cases r with
  | cons r1 r =>
    cases r with
    | cons r2 r =>
      cases r with
      | cons r3 r =>
        cases r with
        | cons r4 r =>
          cases r
          obtain ⟨t1, rfl⟩ := r1
          obtain ⟨t2, rfl⟩ := r2
          obtain ⟨t3, rfl⟩ := r3
          obtain ⟨t4, rfl⟩ := r4
          exact min_four_ints (I.ok.hd hc) fun h' tk z kk => ⟨.int (m4 i j k l), H, I.kept kk, ⟨z, rfl⟩, q⟩
end Tv
end

section
set_option autoImplicit false
set_option maxHeartbeats 1000000
/-! Built-in functions by values; subscripts; truth. -/
namespace Tv
open PySem PySem.Spec PyProof.Rows L2
/-- a call of a built-in -/
def rBi (K : PySem.W.Frag) (px : Px) (W : WX) (b : Bi) : List V → Hp → VK → Prop := fun vs H Q => ∃ σ w e h ds, VTs K w H ds vs ∧ Pre K px W σ (relV K) w e h H Q (R.of (dBi b ds) h)
section
variable {X : Cx} {px : Px} {W : WX} {K : PySem.W.Frag} {w : Wd} {H : Hp}
theorem one {ds : List D} {vs : List V} {f : D → Option D} {d : D} (h : VTs K w H ds vs) (e : ar1 f ds = some d) : ∃ x v, vs = [v] ∧ VT K w H x v ∧ f x = some d := by
  cases h with
  | nil => cases e
  | cons a r =>
    cases r with
    | nil => exact ⟨_, _, rfl, a, e⟩
    | cons _ _ => cases e
theorem two {ds : List D} {vs : List V} {f : D → D → Option D} {d : D} (h : VTs K w H ds vs) (e : ar2 f ds = some d) : ∃ x y v u, vs = [v, u] ∧ VT K w H x v ∧ VT K w H y u ∧ f x y = some d := by
  cases h with
  | nil => cases e
  | cons a r =>
    cases r with
    | nil => cases e
    | cons b r =>
      cases r with
      | nil => exact ⟨_, _, _, _, rfl, a, b, e⟩
      | cons _ _ => cases e
theorem onL_of {f : List D → Option D} {x d : D} {v : V} (h : VT K w H x v) (e : onL f x = some d) : ∃ a xs ds, v = .ref a ∧ SqL K H a xs ∧ VRs K w H ds xs ∧ x.ls? = some ds ∧ f ds = some d := by
  unfold onL at e
  split at e
  · rename_i ds q
    obtain ⟨a, xs, h1, h2, h3⟩ := h.ls q
    exact ⟨a, xs, ds, h1, h2, h3, q, e⟩
  · cases e
theorem onQ_of {f : List D → Option D} {x d : D} {v : V} (h : VT K w H x v) (e : onQ f x = some d) : ∃ a xs ds, v = .ref a ∧ (SqL K H a xs ∨ SqT K H a xs) ∧ VRs K w H ds xs ∧ f ds = some d := by
  cases x with
  | tup ds =>
    obtain ⟨a, xs, rfl, h1, r⟩ := vTup h
    exact ⟨a, xs, ds, rfl, .inr (sqt h1), r, e⟩
  | _ =>
    first
    | cases e
    | (obtain ⟨a, xs, ds, h1, h2, h3, _, h4⟩ := onL_of (f := f) h e
       exact ⟨a, xs, ds, h1, .inl h2, h3, h4⟩)
theorem allB_of : ∀ {ds : List D} {vs : List V} {bs : List Bool}, VRs K w H ds vs → allB ds = some bs → vs = bs.map V.bl
  | _, _, _, .nil, e => by cases e; rfl
  | .bl b :: r, _, bs, .cons a q, e => by
    rw [allB] at e
    cases e1 : allB r with
    | none => rw [e1] at e; cases e
    | some cs =>
      rw [e1] at e
      cases e
      rw [allB_of q e1]
      cases a
      rfl
  | .non :: _, _, _, .cons _ _, e => by cases e
  | .int _ :: _, _, _, .cons _ _, e => by cases e
  | .str _ :: _, _, _, .cons _ _, e => by cases e
  | .tup _ :: _, _, _, .cons _ _, e => by cases e
  | .lst _ :: _, _, _, .cons _ _, e => by cases e
  | .dct _ :: _, _, _, .cons _ _, e => by cases e
  | .ref _ :: _, _, _, .cons _ _, e => by cases e
theorem allI_of : ∀ {ds : List D} {vs : List V} {bs : List Int}, VRs K w H ds vs → allI ds = some bs → vs = bs.map V.int
  | _, _, _, .nil, e => by cases e; rfl
  | .int b :: r, _, bs, .cons a q, e => by
    rw [allI] at e
    cases e1 : allI r with
    | none => rw [e1] at e; cases e
    | some cs =>
      rw [e1] at e
      cases e
      rw [allI_of q e1]
      cases a
      rfl
  | .non :: _, _, _, .cons _ _, e => by cases e
  | .bl _ :: _, _, _, .cons _ _, e => by cases e
  | .str _ :: _, _, _, .cons _ _, e => by cases e
  | .tup _ :: _, _, _, .cons _ _, e => by cases e
  | .lst _ :: _, _, _, .cons _ _, e => by cases e
  | .dct _ :: _, _, _, .cons _ _, e => by cases e
  | .ref _ :: _, _, _, .cons _ _, e => by cases e
theorem allS_of : ∀ {ds : List D} {vs : List V} {bs : List Str}, VRs K w H ds vs → allS ds = some bs → vs = bs.map V.str
  | _, _, _, .nil, e => by cases e; rfl
  | .str b :: r, _, bs, .cons a q, e => by
    rw [allS] at e
    cases e1 : allS r with
    | none => rw [e1] at e; cases e
    | some cs =>
      rw [e1] at e
      cases e
      rw [allS_of q e1]
      cases a
      rfl
  | .non :: _, _, _, .cons _ _, e => by cases e
  | .bl _ :: _, _, _, .cons _ _, e => by cases e
  | .int _ :: _, _, _, .cons _ _, e => by cases e
  | .tup _ :: _, _, _, .cons _ _, e => by cases e
  | .lst _ :: _, _, _, .cons _ _, e => by cases e
  | .dct _ :: _, _, _, .cons _ _, e => by cases e
  | .ref _ :: _, _, _, .cons _ _, e => by cases e
theorem maxL_spec : ∀ (is : List Int) (i : Int), maxL i is ∈ i :: is ∧ ∀ y ∈ i :: is, y ≤ maxL i is
  | [], i => by simp [maxL]
  | x :: xs, i => by
    obtain ⟨h1, h2⟩ := maxL_spec xs (if i < x then x else i)
    rw [maxL]
    refine ⟨?_, fun y hy => ?_⟩
    · rcases List.mem_cons.mp h1 with h | h
      · rw [h]; split <;> simp
      · exact List.mem_cons_of_mem _ (List.mem_cons_of_mem _ h)
    · have h3 := h2 (if i < x then x else i) List.mem_cons_self
      have h4 : i ≤ maxL (if i < x then x else i) xs ∧ x ≤ maxL (if i < x then x else i) xs := by
        by_cases q : i < x
        · simp only [q, if_true] at h3 ⊢; omega
        · simp only [q, if_false] at h3 ⊢; omega
      rcases List.mem_cons.mp hy with rfl | hy
      · exact h4.1
      · rcases List.mem_cons.mp hy with rfl | hy
        · exact h4.2
        · exact h2 y (List.mem_cons_of_mem _ hy)
theorem maxL_uniq {is : List Int} {i m : Int} (h1 : m ∈ i :: is) (h2 : ∀ y ∈ i :: is, y ≤ m) : m = maxL i is := by
  obtain ⟨h3, h4⟩ := maxL_spec is i
  have := h2 _ h3
  have := h4 _ h1
  omega
theorem bi_len : CallR X (.builtin "len") (rBi X.K px W .len) := by
  intro pins s σ H vs us Q I r q
  obtain ⟨σ', w, e, h, ds, v, p0⟩ := q
  obtain ⟨d, ed, p⟩ := p0.nobad
  clear p0
  obtain ⟨x, u, rfl, hv, ed⟩ := one v ed
  unfold dLen at ed
  split at ed
  · rename_i st
    split at ed
    · rename_i hl
      obtain rfl := vStr hv
      cases ed
      exact call_len_str pins s σ H _ us Q I r ⟨st, rfl, by rw [← LIM_eq]; exact hl, p.done (.int _)⟩
    · cases ed
  · cases q1 : x.sq? with
    | none => rw [q1] at ed; cases ed
    | some ys =>
      rw [q1] at ed
      cases ed
      obtain ⟨a, xs, rfl, h1, h2⟩ := hv.sq q1
      exact call_len_seq pins s σ H _ us Q I r ⟨a, xs, rfl, h1, by rw [← h2.length]; exact p.done (.int _)⟩
theorem bi_all (hc : X.calm = true) : CallR X (.builtin "all") (rBi X.K px W .all) := by
  intro pins s σ H vs us Q I r q
  obtain ⟨σ', w, e, h, ds, v, p0⟩ := q
  obtain ⟨d, ed, p⟩ := p0.nobad
  clear p0
  obtain ⟨x, u, rfl, hv, ed⟩ := one v ed
  obtain ⟨a, xs, es, rfl, h1, h2, _, ed⟩ := onL_of hv ed
  cases q1 : allB es with
  | none => rw [q1] at ed; cases ed
  | some bs =>
    rw [q1] at ed
    cases ed
    obtain rfl := allB_of h2 q1
    exact cr_all hc pins s σ H _ us Q I r ⟨a, bs, rfl, h1, p.done (.bl _)⟩
theorem bi_any (hc : X.calm = true) : CallR X (.builtin "any") (rBi X.K px W .any) := by
  intro pins s σ H vs us Q I r q
  obtain ⟨σ', w, e, h, ds, v, p0⟩ := q
  obtain ⟨d, ed, p⟩ := p0.nobad
  clear p0
  obtain ⟨x, u, rfl, hv, ed⟩ := one v ed
  obtain ⟨a, xs, es, rfl, h1, h2, _, ed⟩ := onL_of hv ed
  cases q1 : allB es with
  | none => rw [q1] at ed; cases ed
  | some bs =>
    rw [q1] at ed
    cases ed
    obtain rfl := allB_of h2 q1
    exact cr_any hc pins s σ H _ us Q I r ⟨a, bs, rfl, h1, p.done (.bl _)⟩
theorem bi_sum (hc : X.calm = true) : CallR X (.builtin "sum") (rBi X.K px W .sum) := by
  intro pins s σ H vs us Q I r q
  obtain ⟨σ', w, e, h, ds, v, p0⟩ := q
  obtain ⟨d, ed, p⟩ := p0.nobad
  clear p0
  obtain ⟨x, u, rfl, hv, ed⟩ := one v ed
  obtain ⟨a, xs, es, rfl, h1, h2, _, ed⟩ := onL_of hv ed
  cases q1 : allI es with
  | none => rw [q1] at ed; cases ed
  | some bs =>
    rw [q1] at ed
    cases ed
    obtain rfl := allI_of h2 q1
    exact cr_sum hc pins s σ H _ us Q I r ⟨a, bs, rfl, h1, p.done (.int _)⟩
theorem bi_max1 (hc : X.calm = true) : CallR X (.builtin "max") (rBi X.K px W .max1) := by
  intro pins s σ H vs us Q I r q
  obtain ⟨σ', w, e, h, ds, v, p0⟩ := q
  obtain ⟨d, ed, p⟩ := p0.nobad
  clear p0
  obtain ⟨x, u, rfl, hv, ed⟩ := one v ed
  obtain ⟨a, xs, es, rfl, h1, h2, _, ed⟩ := onL_of hv ed
  unfold dMaxL at ed
  split at ed
  · rename_i i is q1
    cases ed
    obtain rfl := allI_of h2 q1
    exact cr_max hc pins s σ H _ us Q I r ⟨a, i :: is, rfl, h1, by simp, fun m m1 m2 => by rw [maxL_uniq m1 m2]; exact p.done (.int _)⟩
  · cases ed
theorem bi_max2 (hc : X.calm = true) : CallR X (.builtin "max") (rBi X.K px W .max2) := by
  intro pins s σ H vs us Q I r q
  obtain ⟨σ', w, e, h, ds, v, p0⟩ := q
  obtain ⟨d, ed, p⟩ := p0.nobad
  clear p0
  obtain ⟨x, y, u1, u2, rfl, v1, v2, ed⟩ := two v ed
  cases x <;> cases y <;> simp only [dMax2, reduceCtorEq] at ed
  obtain rfl := vInt v1; obtain rfl := vInt v2; cases ed
  exact call_max2 hc pins s σ H _ us Q I r ⟨_, _, rfl, p.done (.int _)⟩
theorem bi_min2 (hc : X.calm = true) : CallR X (.builtin "min") (rBi X.K px W .min2) := by
  intro pins s σ H vs us Q I r q
  obtain ⟨σ', w, e, h, ds, v, p0⟩ := q
  obtain ⟨d, ed, p⟩ := p0.nobad
  clear p0
  obtain ⟨x, y, u1, u2, rfl, v1, v2, ed⟩ := two v ed
  cases x <;> cases y <;> simp only [dMin2, reduceCtorEq] at ed
  obtain rfl := vInt v1; obtain rfl := vInt v2; cases ed
  exact call_min2 hc pins s σ H _ us Q I r ⟨_, _, rfl, p.done (.int _)⟩
theorem min4_of {ds : List D} {vs : List V} {d : D} (h : VTs K w H ds vs) (e : dMin4 ds = some d) : ∃ i j k l, vs = [.int i, .int j, .int k, .int l] ∧ d = .int (m4 i j k l) := by
  unfold dMin4 at e
  split at e
  · cases e
    cases h with
    | cons h1 h =>
      cases h with
      | cons h2 h =>
        cases h with
        | cons h3 h =>
          cases h with
          | cons h4 h =>
            cases h
            rw [vInt h1, vInt h2, vInt h3, vInt h4]
            exact ⟨_, _, _, _, rfl, rfl⟩
  · cases e
theorem bi_min4 (hc : X.calm = true) : CallR X (.builtin "min") (rBi X.K px W .min4) := by
  intro pins s σ H vs us Q I r q
  obtain ⟨σ', w, e, h, ds, v, p0⟩ := q
  obtain ⟨d, ed, p⟩ := p0.nobad
  clear p0
  obtain ⟨i, j, k, l, rfl, rfl⟩ := min4_of v ed
  exact call_min4 hc pins s σ H _ us Q I r ⟨_, _, _, _, rfl, p.done (.int _)⟩
theorem bi_abs : CallR X (.builtin "abs") (rBi X.K px W .abs) := by
  intro pins s σ H vs us Q I r q
  obtain ⟨σ', w, e, h, ds, v, p0⟩ := q
  obtain ⟨d, ed, p⟩ := p0.nobad
  clear p0
  obtain ⟨x, u, rfl, hv, ed⟩ := one v ed
  cases x <;> simp only [dAbs, reduceCtorEq] at ed
  obtain rfl := vInt hv; cases ed
  exact call_abs pins s σ H _ us Q I r ⟨_, rfl, p.done (.int _)⟩
theorem bi_divmod : CallR X (.builtin "divmod") (rBi X.K px W .divmod) := by
  intro pins s σ H vs us Q I r q
  obtain ⟨σ', w, e, h, ds, v, p0⟩ := q
  obtain ⟨d, ed, p⟩ := p0.nobad
  clear p0
  obtain ⟨x, y, u1, u2, rfl, v1, v2, ed⟩ := two v ed
  cases x <;> cases y <;> simp only [dDivmod, reduceCtorEq] at ed
  split at ed
  · rename_i hc
    obtain rfl := vInt v1; obtain rfl := vInt v2; cases ed
    exact call_divmod pins s σ H _ us Q I r ⟨_, _, rfl, hc, fun a ha => p.newT ha (.cons (.int _) (.cons (.int _) .nil))⟩
  · cases ed
theorem bi_int : CallR X (.type "int") (rBi X.K px W .int) := by
  intro pins s σ H vs us Q I r q
  obtain ⟨σ', w, e, h, ds, v, p0⟩ := q
  obtain ⟨d, ed, p⟩ := p0.nobad
  clear p0
  obtain ⟨x, u, rfl, hv, ed⟩ := one v ed
  cases x <;> simp only [dInt, reduceCtorEq] at ed
  · obtain rfl := vBl hv; cases ed
    exact call_int1 pins s σ H _ us Q I r (.inr ⟨_, rfl, p.done (.int _)⟩)
  · obtain rfl := vInt hv; cases ed
    exact call_int1 pins s σ H _ us Q I r (.inl ⟨_, rfl, p.done (.int _)⟩)
  · rename_i z
    obtain rfl := vStr hv
    split at ed
    · rename_i hl
      cases q : PySem.intText? z with
      | none => rw [q] at ed; cases ed
      | some n =>
        rw [q] at ed
        cases ed
        exact call_int_str pins s σ H _ us Q I r ⟨z, n, rfl, q, hl, p.done (.int _)⟩
    · cases ed
theorem bi_list : CallR X (.type "list") (rBi X.K px W .list) := by
  intro pins s σ H vs us Q I r q
  obtain ⟨σ', w, e, h, ds, v, p0⟩ := q
  obtain ⟨d, ed, p⟩ := p0.nobad
  clear p0
  obtain ⟨x, u, rfl, hv, ed⟩ := one v ed
  cases q1 : x.sq? with
  | none => rw [q1] at ed; cases ed
  | some ys =>
    rw [q1] at ed
    cases ed
    obtain ⟨a, xs, rfl, h1, h2⟩ := hv.sq q1
    exact call_list_of pins s σ H _ us Q I r ⟨a, xs, rfl, h1, fun l hl => p.newL hl h2⟩
theorem bi_tuple : CallR X (.type "tuple") (rBi X.K px W .tuple) := by
  intro pins s σ H vs us Q I r q
  obtain ⟨σ', w, e, h, ds, v, p0⟩ := q
  obtain ⟨d, ed, p⟩ := p0.nobad
  clear p0
  obtain ⟨x, u, rfl, hv, ed⟩ := one v ed
  cases q1 : x.sq? with
  | none => rw [q1] at ed; cases ed
  | some ys =>
    rw [q1] at ed
    cases ed
    obtain ⟨a, xs, rfl, h1, h2⟩ := hv.sqS q1
    refine call_tuple_of pins s σ H _ us Q I r ⟨a, xs, rfl, ?_⟩
    rcases h1 with h1 | h1
    · exact .inl ⟨h1, fun l hl => p.newT hl h2⟩
    · exact .inr ⟨sqt h1, p.done (.of (.of (.tup h1 h2)))⟩
end
end Tv
namespace Tv
open PySem PySem.Spec PyProof.Rows L2
section
variable {X : Cx} {px : Px} {W : WX}
theorem flat_ref {K : PySem.W.Frag} {w : Wd} {H : Hp} {d : D} {v : V} (h : VT K w H d v) (k : d.rd = true) : d = .non ∧ v = .non ∨ (∃ b, d = .bl b ∧ v = .bl b) ∨ (∃ b, d = .int b ∧ v = .int b) ∨ (∃ b, d = .str b ∧ v = .str b) ∨ ∃ a, v = .ref a := by
  cases h with
  | bor => exact .inr (.inr (.inr (.inr ⟨_, rfl⟩)))
  | of h =>
    cases h with
    | scr => exact .inr (.inr (.inr (.inr ⟨_, rfl⟩)))
    | scrK => exact .inr (.inr (.inr (.inr ⟨_, rfl⟩)))
    | of h =>
      cases h with
      | non => exact .inl ⟨rfl, rfl⟩
      | bl b => exact .inr (.inl ⟨b, rfl, rfl⟩)
      | int b => exact .inr (.inr (.inl ⟨b, rfl, rfl⟩))
      | str b => exact .inr (.inr (.inr (.inl ⟨b, rfl, rfl⟩)))
      | _ => exact .inr (.inr (.inr (.inr ⟨_, rfl⟩)))
theorem Cz.noSys (z : Cz X) {pins : List (Addr × Obj)} {σ : L2.St} {H : Hp} {s : Shared} (I : Inv X pins σ H s) {as : List Addr} (t : ∀ a ∈ as, H a ≠ none ∨ ∃ o, X.K.lookup a = some o ∧ o.cls = .type "list") : sysModules ∉ as := fun m => by
  obtain ⟨o, ho, hl⟩ := z.sm
  rcases t _ m with h | ⟨u, h1, h2⟩
  · exact h (I.bs _ o ho).2
  · have e := I.ok.mod.kin _ _ h1
    rw [ho] at e
    cases e
    exact hl h2
theorem bi_rep (z : Cz X) : CallR X (.builtin "repr") (rBi X.K px W .rep) := by
  intro pins s σ H vs us Q I r q
  obtain ⟨σ', w, e, h, ds, v, p0⟩ := q
  obtain ⟨d, ed, p⟩ := p0.nobad
  clear p0
  obtain ⟨x, u, rfl, hv, ed⟩ := one v ed
  obtain ⟨ux, rfl, rx⟩ := vals1 r
  unfold dRep at ed
  split at ed
  · rename_i hs
    cases ed
    simp only [D.shows, Bool.and_eq_true, decide_eq_true_eq] at hs
    obtain ⟨⟨⟨h1, h2⟩, h3⟩, h4⟩ := hs
    rw [LIM_eq] at h4
    have q : Q (.str (PyData.shown x.py)) H := p.done (.str _)
    rcases flat_ref hv h1 with ⟨rfl, rfl⟩ | ⟨b, rfl, rfl⟩ | ⟨b, rfl, rfl⟩ | ⟨b, rfl, rfl⟩ | ⟨a, rfl⟩
    · cases rx
      exact PySem.P.repr_of_none ⟨.str _, H, I.tok _, ⟨_, rfl⟩, q⟩
    · cases rx
      exact PySem.P.repr_of_bool ⟨.str _, H, I.tok _, ⟨_, rfl⟩, q⟩
    · obtain ⟨t, rfl⟩ := rx
      exact PySem.P.repr_of_int (by simpa [D.py, PyData.showable] using h2) ⟨.str _, H, I.tok _, ⟨_, rfl⟩, q⟩
    · obtain ⟨t, rfl⟩ := rx
      exact PySem.P.repr_of_str ⟨.str _, H, I.tok _, ⟨_, rfl⟩, q⟩ h4
    · cases rx
      obtain ⟨as, rd, ht⟩ := hv.readsT I rfl h1
      refine repr_of_reads' rd h2 (fun _ => z.noSys I ht) z.gd (by have := z.un; omega) (fun _ _ e => e) (fun h' t tk hk => ?_) h4
      exact ⟨.str _, H, I.kept (t' := tk) hk, ⟨_, rfl⟩, q⟩
  · cases ed
theorem bi_str : CallR X (.type "str") (rBi X.K px W .str) := by
  intro pins s σ H vs us Q I r q
  obtain ⟨σ', w, e, h, ds, v, p0⟩ := q
  obtain ⟨d, ed, p⟩ := p0.nobad
  clear p0
  obtain ⟨x, u, rfl, hv, ed⟩ := one v ed
  cases x <;> simp only [dStr, reduceCtorEq] at ed
  · obtain rfl := vBl hv; cases ed
    obtain ⟨ux, rfl, rx⟩ := vals1 r
    cases rx
    exact PySem.P.str_of_bool ⟨.str _, H, I.tok _, ⟨_, rfl⟩, p.done (.str _)⟩
  · split at ed
    · rename_i hl
      obtain rfl := vInt hv; cases ed
      exact call_str_int pins s σ H _ us Q I r ⟨_, rfl, hl, p.done (.str _)⟩
    · cases ed
theorem plain_list {d : D} {xs : List D} (h : d.ls? = some xs) : d.py = .list (D.pys xs) := by
  cases d <;> cases h <;> rfl
theorem findIdx_pys (x : D) : ∀ (xs : List D), (D.pys xs).findIdx? (fun z => PyData.eqv z x.py) = xs.findIdx? fun z => PyData.eqv z.py x.py := fun xs => by
  rw [D.pys_map, List.findIdx?_map]; rfl
theorem count_pys (x : D) (xs : List D) : (D.pys xs).countP (fun z => PyData.eqv z x.py) = xs.countP fun z => PyData.eqv z.py x.py := by
  rw [D.pys_map, List.countP_map]; rfl
theorem mt_countD (z : Cz X) : MtR X "list.count" (fun x xs H Q => rBi X.K px W .count (x :: xs) H Q) := by
  intro pins s σ H x xs v us Q I rx rs q
  obtain ⟨σ', w, e, h, ds, hv, p0⟩ := q
  obtain ⟨d, ed, p⟩ := p0.nobad
  clear p0
  obtain ⟨l, y, v1, v2, e1, h1, h2, ed⟩ := two hv ed
  cases e1
  obtain ⟨ux, rfl, ry⟩ := vals1 rs
  unfold dCount at ed
  split at ed
  · rename_i es q1
    split at ed
    · rename_i hs
      cases ed
      simp only [D.sound, Bool.and_eq_true, decide_eq_true_eq] at hs
      obtain ⟨a, xs, rfl, hq, ha⟩ := h1.ls q1
      cases rx
      obtain ⟨as, r1⟩ := h1.reads I rfl hs.1.1.1
      obtain ⟨bs, r2⟩ := h2.reads I ry hs.2.1.1
      have hp := hs.1.1.2
      rw [plain_list q1] at r1 hp
      cases r1 with
      | list o1 o2 o3 o4 =>
        refine SeqAt.count_list_data ⟨_, o1, o2, _, o3⟩ o4 r2 hp hs.2.1.2 (by have := in_units (xs := es) (d := y) (show X.A.units + 64 < cLine by have := z.un; omega) hs.2.2; exact this) ?_
        rw [count_pys]
        exact ⟨.int _, H, I.tok _, ⟨_, rfl⟩, p.done (.int _)⟩
    · cases ed
  · cases ed
theorem ls_of_la {d : D} {xs : List D} (h : d.la? = some xs) : d.ls? = some xs := by
  cases d <;> cases h <;> rfl
theorem mt_indexDD (z : Cz X) : MtR X "list.index" (fun x xs H Q => rBi X.K px W .index (x :: xs) H Q) := by
  intro pins s σ H x xs v us Q I rx rs q
  obtain ⟨σ', w, e, h, ds, hv, p0⟩ := q
  obtain ⟨d, ed, p⟩ := p0.nobad
  clear p0
  obtain ⟨l, y, v1, v2, e1, h1, h2, ed⟩ := two hv ed
  cases e1
  obtain ⟨ux, rfl, ry⟩ := vals1 rs
  unfold dIndex at ed
  split at ed
  · rename_i es q1
    split at ed
    · rename_i hs
      simp only [D.sound, Bool.and_eq_true, decide_eq_true_eq] at hs
      obtain ⟨a, xs, rfl, hq, ha⟩ := h1.la q1
      cases rx
      obtain ⟨as, r1⟩ := h1.reads I rfl hs.1.1.1
      obtain ⟨bs, r2⟩ := h2.reads I ry hs.2.1.1
      have hp := hs.1.1.2
      rw [plain_list (ls_of_la q1)] at r1 hp
      cases q2 : es.findIdx? fun z => PyData.eqv z.py y.py with
      | none => rw [q2] at ed; cases ed
      | some j =>
        rw [q2] at ed
        cases ed
        obtain ⟨zz, its, n, rv, og⟩ := Inv.rdL I hq
        cases r1 with
        | list o1 o2 o3 o4 =>
          rw [og] at o1
          cases o1
          cases o3
          have hp' : SeqAt.dataPlace (D.pys es) y.py = some j := by unfold SeqAt.dataPlace; rw [findIdx_pys]; exact q2
          obtain ⟨hj, e1, e2⟩ := SeqAt.hit_at o4 hp hp'
          have hl := rv.length
          have hsz : its.toArray.size ≤ 16777216 := by rw [List.size_toArray, ← hl, ← sizeLine_eq]; exact zz
          refine call_meets PySem.F.slot_list_index ⟨_, og, rfl⟩ PySem.F.entry_list_index (PySem.F.args_list_index_2 _ _)
            (SeqAt.list_indexAt a its.toArray n _ _ ux (fun u => PyData.eqv (SeqAt.readOf s.heap u) y.py) j hj (by omega) e1 e2)
            ⟨og, SeqAt.items_plain o4 r2 hp hs.2.1.2 (by have := in_units (xs := es) (d := y) (show X.A.units + 64 < cLine by have := z.un; omega) hs.2.2; exact this), ?_⟩
          exact ⟨.int _, H, I.tok _, ⟨_, rfl⟩, p.done (.int _)⟩
    · cases ed
  · cases ed
theorem mt_joinD : MtR X "str.join" (fun x xs H Q => rBi X.K px W .join (x :: xs) H Q) := by
  intro pins s σ H x xs v us Q I rx rs q
  obtain ⟨σ', w, e, h, ds, hv, p0⟩ := q
  obtain ⟨d, ed, p⟩ := p0.nobad
  clear p0
  obtain ⟨l, y, v1, v2, e1, h1, h2, ed⟩ := two hv ed
  cases e1
  unfold dJoin at ed
  split at ed
  · rename_i st es q1
    split at ed
    · rename_i ss q2
      split at ed
      · rename_i hz
        cases ed
        obtain rfl := vStr h1
        obtain ⟨a, xs, rfl, hq, ha⟩ := h2.ls q1
        obtain rfl := allS_of ha q2
        exact mt_join pins s σ H _ _ v us Q I rx rs ⟨st, a, ss, rfl, rfl, .inl hq, hz, p.done (.str _)⟩
      · cases ed
    · cases ed
  · cases ed
theorem vrs_strs {K : PySem.W.Frag} {w : Wd} {H : Hp} : ∀ {ss : List Str}, VRs K w H (ss.map .str) (ss.map V.str)
  | [] => .nil
  | s :: ss => .cons (.str s) vrs_strs
theorem mt_splitD : MtR X "str.split" (fun x xs H Q => rBi X.K px W .split (x :: xs) H Q) := by
  intro pins s σ H x xs v us Q I rx rs q
  obtain ⟨σ', w, e, h, ds, hv, p0⟩ := q
  obtain ⟨d, ed, p⟩ := p0.nobad
  clear p0
  obtain ⟨l, y, v1, v2, e1, h1, h2, ed⟩ := two hv ed
  cases e1
  unfold dSplit at ed
  split at ed
  · rename_i a b
    split at ed
    · rename_i hz
      cases ed
      obtain rfl := vStr h1
      obtain rfl := vStr h2
      exact mt_split pins s σ H _ _ v us Q I rx rs ⟨a, b, rfl, rfl, hz.1, hz.2, fun q hq => p.newL hq vrs_strs⟩
    · cases ed
  · cases ed
theorem mt_partD : MtR X "str.partition" (fun x xs H Q => rBi X.K px W .partition (x :: xs) H Q) := by
  intro pins s σ H x xs v us Q I rx rs q
  obtain ⟨σ', w, e, h, ds, hv, p0⟩ := q
  obtain ⟨d, ed, p⟩ := p0.nobad
  clear p0
  obtain ⟨l, y, v1, v2, e1, h1, h2, ed⟩ := two hv ed
  cases e1
  unfold dPart at ed
  split at ed
  · rename_i a b
    split at ed
    · rename_i hz
      cases ed
      obtain rfl := vStr h1
      obtain rfl := vStr h2
      exact mt_partition pins s σ H _ _ v us Q I rx rs ⟨a, b, rfl, rfl, hz.1, hz.2, fun q hq => p.newT hq (.cons (.str _) (.cons (.str _) (.cons (.str _) .nil)))⟩
    · cases ed
  · cases ed
end
end Tv
end

section
set_option autoImplicit false
set_option maxHeartbeats 1000000
/-! sorted of a tuple. -/
namespace Tv
open PySem PySem.Spec PySem.Calls PySem.W PySem.SeqAt PyProof.Rows
section
variable {prog : Program} {w : World} {A : Around} {E : Value → Shared → Prop} {s : Shared} {κ : KeyKind}
theorem collect_tup {l : Addr} {vs : List Value} {Q : List Value → Shared → Prop} (hl : s.heap.IsTuple l vs.toArray)
    (h : Q vs { s with heap := (s.heap.push (seqObj "list" #[] 0)).update s.heap.objs.size (Obj.mapSeq (· ++ vs.toArray)) }) (hsz : vs.length ≤ sizeLine := by size_fits) :
    wpAny (model prog w) A (collect (.ref l)) Q E s := by
  obtain ⟨o, ho, hc, n, hd⟩ := id hl
  unfold collect
  refine wpAny_bind (wpAny_runValue (codeAny_builtin entry_proto_collect' ?_))
  show wpAny _ _ (do again (.builtin "list.__iadd__" ⟨[← newList [], .ref l], []⟩)) _ _ s
  refine wpAny_bind (wpAny_newList (wpAny_pure ⟨Code.quiet_builtin _ (by decide +kernel), codeAny_builtin entry_list_iadd' ?_⟩))
  show wpAny _ _ (Builtin.List.listExtendWith (.ref s.heap.objs.size) (.ref l) (.ref s.heap.objs.size)) _ _ { s with heap := s.heap.push (seqObj "list" #[] 0) }
  unfold Builtin.List.listExtendWith
  have ho' : (s.heap.push (seqObj "list" #[] 0)).get? l = some o := Heap.get?_push_of_some _ ho
  refine wpAny_bind (wpAny_typeOf (T := "tuple") ⟨o, ho', hc⟩ ?_)
  have ht : (Value.type "tuple" == Value.type "tuple") = true := by rfl
  rw [if_pos (by rw [ht]; simp)]
  refine wpAny_bind (listItems_at ho' hd ?_)
  refine wpAny_bind (listItems_at (xs := #[]) (n := 0) (Heap.get?_push_size _ rfl) rfl ?_)
  rw [if_neg (by simp)]
  refine wpAny_bind (listUpdate_at (xs := #[]) (n := 0) (Heap.get?_push_size _ rfl) rfl ?_ (Nat.zero_le _) (by show (#[] ++ vs.toArray).size ≤ sizeLine + 1; simp only [Array.size_append, List.size_toArray, List.length_nil]; omega))
  refine wpAny_pure ?_
  show wpAny (model prog w) A (do
      let o ← load s.heap.objs.size
      match o.data with
      | .seq xs _ => pure xs.toList
      | _ => unsupported "internal:collect") Q E { s with heap := (s.heap.push (seqObj "list" #[] 0)).update s.heap.objs.size (Obj.mapSeq (· ++ vs.toArray)) }
  refine wpAny_bind (wpAny_load (get?_update_seq (Heap.get?_push_size _ rfl) _) ?_)
  show wpAny _ _ (pure ((#[] : Array Value) ++ vs.toArray).toList) Q E _
  rw [show ((#[] : Array Value) ++ vs.toArray).toList = vs by simp]
  exact wpAny_pure h
theorem sorted_tup {l : Addr} {vs : List Value} {Q : Value → Shared → Prop} (hl : s.heap.IsTuple l vs.toArray) (S : SortsAt prog w A.in1.in1 { s with heap := sortingHeap (copyHeap s.heap vs) (s.heap.objs.size + 1) vs } κ vs) (hL : vs.length ≤ sizeLine)
    (h : Q (.ref (s.heap.objs.size + 1)) { s with heap := sortedAll s.heap vs (sortVals κ false vs vs).toArray }) : wpAny (model prog w) A (call (.builtin "sorted") [.ref l]) Q E s := by
  refine call_function_entry_kw kind_sorted plain_sorted entry_sorted (args_sorted1 _) ?_
  unfold Builtin.«sorted»
  refine wpAny_bind (m := checkCount "sorted" 1 1 _) (wpAny_pure ?_)
  refine wpAny_bind (collect_tup hl ?_ hL)
  refine wpAny_bind (wpAny_newList ?_ hL)
  have hsz : ((s.heap.push (seqObj "list" #[] 0)).update s.heap.objs.size (Obj.mapSeq (· ++ vs.toArray))).objs.size = s.heap.objs.size + 1 := by
    rw [Heap.size_update, size_push']
  show wpAny _ _ _ _ _ { s with heap := copyHeap s.heap vs }
  rw [hsz]
  refine wpAny_bind (wpAny_holding (wpAny_call_entry_kw slot_list_sort ⟨_, copyHeap_at s.heap vs, rfl⟩ entry_list_sort ?body (args_list_sort _)))
  case body =>
    show wpAny (model prog w) A.in1.in1 (Builtin.«list.sort» ⟨[.ref (s.heap.objs.size + 1)], []⟩) _ _ _
    refine wpAny_mono (list_sort_vals (P := fun f s' => f = .done (.ret .none) ∧ Q (.ref (s.heap.objs.size + 1)) s') (s := { s with heap := copyHeap s.heap vs }) (copyHeap_at s.heap vs) S hL ⟨rfl, h⟩) (fun f s' hf => ?_) fun _ _ e => e
    obtain ⟨rfl, hq⟩ := hf
    exact ⟨_, rfl, wpAny_pure ⟨_, rfl, hq⟩⟩
theorem sorted_both {l : Addr} {vs : List Value} {Q : Value → Shared → Prop} (hl : s.heap.IsList l vs.toArray ∨ s.heap.IsTuple l vs.toArray) (S : SortsAt prog w A.in1.in1 { s with heap := sortingHeap (copyHeap s.heap vs) (s.heap.objs.size + 1) vs } κ vs) (hL : vs.length ≤ sizeLine)
    (h : Q (.ref (s.heap.objs.size + 1)) { s with heap := sortedAll s.heap vs (sortVals κ false vs vs).toArray }) : wpAny (model prog w) A (call (.builtin "sorted") [.ref l]) Q E s := by
  rcases hl with hl | hl
  · exact sorted_vals hl S hL h
  · exact sorted_tup hl S hL h
end
end Tv
end

section
set_option autoImplicit false
set_option maxHeartbeats 1000000
/-! sorted of tuples among which there are empty ones. -/
namespace Tv
open PySem PySem.Spec PySem.Calls PySem.W PySem.SeqAt PyProof.Rows
section
variable {prog : Program} {w : World} {A : Around} {E : Value → Shared → Prop} {s : Shared}
/-- t.__lt__(u) as a sort of one type asks it -/
theorem tupLt_one {xs ys : List PyData} {a b : Value} {as bs : List Addr} {Q : Bool → Shared → Prop} (ra : Reads s.heap a (.tuple xs) as) (rb : Reads s.heap b (.tuple ys) bs) (hal : alikeAll xs ys = true)
    (hu : A.units + min (PyData.depth (.tuple xs)) (PyData.depth (.tuple ys)) < cLine) (hq : Q (dataLt (.tuple xs) (.tuple ys)) s) : wpAny (model prog w) A (PyProof.Rows.oneLt' true a b) Q E s := by
  cases ra with
  | @tuple l o vs n _ _ h1 h2 h3 h4 =>
    cases rb with
    | @tuple l' o' us n' _ _ k1 k2 k3 k4 =>
      obtain ⟨oc, od, dt, sl⟩ := o
      obtain ⟨oc', od', dt', sl'⟩ := o'
      simp only at h2 h3 k2 k3
      subst h2 h3 k2 k3
      have n1 : vs.size = xs.length := by simpa using ReadsAll.length _ _ _ h4
      have n2 : us.size = ys.length := by simpa using ReadsAll.length _ _ _ k4
      rw [dataLt_tuple, ← firstLt_toks xs ys hal, ← n1, ← n2] at hq
      rw [PyProof.Rows.oneLt'_eq, if_pos rfl]
      refine wpAny_bind (wpAny_cRoomFor (room_here hu) (wpAny_bind (wpAny_callSpecialIfBound?_slot (T := "tuple") ⟨_, h1, rfl⟩ F.slot_tuple_lt ?_)))
      refine call_meets F.slot_tuple_lt ⟨_, h1, rfl⟩ F.entry_tuple_lt (F.args_tuple_lt_2 _ _)
        (tuple_ltAt l l' vs us n n' od od' sl sl' (pairEq xs ys) fun j => dataLt (xs.getD j .none) (ys.getD j .none)) ⟨h1, k1, fun j j1 j2 => ?_, fun j j1 j2 hj => ?_, ?_⟩
      · have z := eqAt_alikeAll xs ys A.in1 s vs.toList us.toList _ _ h4 k4 hal (room_in hu) j (by simpa using j1) (by simpa using j2)
        simpa using z
      · have z := rcLt_alikeAll xs ys A.in1 s vs.toList us.toList _ _ h4 k4 hal (room_in hu) j (by simpa using j1) (by simpa using j2) hj
        simpa using z
      · exact wpAny_truthy_bool hq
/-- results one by one -/
theorem mapM_each {α β : Type} {M : Model} {f : α → Sem β} : ∀ {l : List α} {rs : List β} {Q : List β → Shared → Prop}, EachIs (fun v r => ∀ Q' : β → Shared → Prop, Q' r s → wpAny M A (f v) Q' E s) l rs → Q rs s → wpAny M A (l.mapM f) Q E s
  | _, _, _, .nil, h => by
    rw [List.mapM_nil]
    exact wpAny_pure h
  | _, _, Q, .cons (b := r) (bs := rs) q t, h => by
    rw [List.mapM_cons]
    exact wpAny_bind (q _ (wpAny_bind (mapM_each (Q := fun bs s' => wpAny M A (pure (r :: bs)) Q E s') t (wpAny_pure h))))
/-- tuples that are read: their firsts -/
theorem firsts_of {M : Model} {h : Heap} (hh : h = s.heap) : ∀ {vs : List Value} {ds : List (List PyData)}, EachIs (fun v d => ∃ as, Reads h v (.tuple d) as) vs ds →
    ∃ rs : List (Option Value), EachIs (fun v r => ∀ (E : Value → Shared → Prop) (Q' : Option Value → Shared → Prop), Q' r s → wpAny M A (firstOfTuple' v) Q' E s) vs rs ∧ EachIs (fun r d => r.isSome = !d.isEmpty) rs ds
  | _, _, .nil => ⟨[], .nil, .nil⟩
  | _, _, .cons (b := d) ⟨as, r⟩ t => by
    obtain ⟨rs, h1, h2⟩ := firsts_of hh t
    subst hh
    have lk := looks_reads (M := M) r
    cases r with
    | @tuple l o vs n _ _ g1 g2 g3 g4 =>
      refine ⟨vs[0]? :: rs, .cons (fun E Q' hq => ?_) h1, .cons ?_ h2⟩
      · rw [kas_first_eq]
        refine wpAny_bind (lk.here ?_)
        rw [if_neg (by intro z; cases z)]
        refine wpAny_bind ?_
        unfold Builtin.List.listItems
        exact wpAny_bind (wpAny_seqItems g1 g3 (wpAny_pure (wpAny_pure hq)))
      · have e := ReadsAll.length _ _ _ g4
        cases d with
        | nil =>
          have : vs.size = 0 := by simpa using e
          simp [this]
        | cons x xs =>
          have : 0 < vs.size := by
            have e' : vs.size = xs.length + 1 := by simpa using e
            omega
          simp [this]
/-- the kind of keys: tuples, an empty one among them -/
theorem kind_tups {M : Model} {vs : List Value} {ds : List (List PyData)} (e : EachIs (fun v d => ∃ as, Reads s.heap v (.tuple d) as) vs ds) (h2 : 2 ≤ vs.length) (hn : ∃ d ∈ ds, d = []) :
    ∃ kd : SortKind, (kd = oneType' ∨ kd = general') ∧ ∀ (E : Value → Shared → Prop) {Q : SortKind → Shared → Prop}, Q kd s → wpAny M A (keyKind' vs.toArray) Q E s := by
  obtain ⟨rs, h1, h3⟩ := firsts_of (M := M) (A := A) (s := s) rfl e
  have hall : (rs.toArray.all fun x => x.isSome) = false := by
    obtain ⟨d, hd, rfl⟩ := hn
    have : ∃ r ∈ rs, r.isSome = false := by
      clear h1 e h2
      induction h3 with
      | nil => cases hd
      | cons a t ih =>
        rcases List.mem_cons.mp hd with z | z
        · exact ⟨_, List.mem_cons_self, by rw [a, ← z]; rfl⟩
        · obtain ⟨r, hr, hf⟩ := ih z
          exact ⟨r, List.mem_cons_of_mem _ hr, hf⟩
    obtain ⟨r, hr, hf⟩ := this
    rw [List.all_toArray]
    cases q : rs.all fun x => x.isSome with
    | false => rfl
    | true =>
      rw [List.all_eq_true] at q
      rw [q r hr] at hf
      cases hf
  refine ⟨if (rs.toArray[0]?.bind id).isSome = true then general' else oneType', ?_, fun E {Q} hq => ?_⟩
  · split
    · exact .inr rfl
    · exact .inl rfl
  · rw [keyKind'_eq, List.mapM_toArray, map_eq_pure_bind]
    refine wpAny_bind (wpAny_bind (mapM_each (h1.mono fun _ _ z => z E) (wpAny_pure ?_)))
    rw [hall, if_neg (by simp)]
    by_cases hf : (rs.toArray[0]?.bind id).isSome = true
    · rw [if_pos hf] at hq ⊢
      exact wpAny_pure hq
    · rw [if_neg hf] at hq ⊢
      rw [oneTypeOnly'_eq, List.mapM_toArray, map_eq_pure_bind]
      have lk : ∀ v ∈ vs, ∀ Q' : Value → Shared → Prop, Q' (.type "tuple") s → wpAny M A (typeOf v) Q' E s := fun v hv Q' q => by
        obtain ⟨d, hd, as, r⟩ := e.left v hv
        exact (looks_reads (M := M) r).here q
      refine wpAny_bind (wpAny_bind (wpAny_bind (kas_mapM (r := Value.type "tuple") _ lk (wpAny_pure ?_))))
      have h0 : (List.map (fun _ => Value.type "tuple") vs).toArray[0]? = some (Value.type "tuple") := by
        cases vs with
        | nil => simp at h2
        | cons v r => simp
      have ha : ((List.map (fun _ => Value.type "tuple") vs).toArray.all fun x => x == Value.type "tuple") = true := by simp
      rw [h0]
      simp only [ha, if_true]
      exact wpAny_pure (wpAny_pure hq)
/-- tuples, whatever they hold, can be sorted -/
theorem sortsAt_tups {vs : List Value} {ds : List PyData} (e : EachIs (fun v d => ∃ as, Reads s.heap v d as) vs ds) (hal : AllAlike ds) (ht : ∀ d ∈ ds, ∃ xs, d = .tuple xs) (hu : ∀ d, d ∈ ds → A.units + d.depth < cLine) : SortsAt prog w A s (dataKind s.heap ds) vs := by
  by_cases hne : ∀ d, d ∈ ds → ∃ x r, d = .tuple (x :: r)
  · exact SortsAt.data e hal (.inl hne) hu
  · refine ⟨fun v hv => ?_, ?_⟩
    · obtain ⟨d, hd, as, r⟩ := e.left v hv
      exact ⟨_, dataKind_some hal hd r⟩
    · have e2 : ∃ es : List (List PyData), EachIs (fun v d => ∃ as, Reads s.heap v (.tuple d) as) vs es ∧ ds = es.map .tuple := by
        clear hal hu hne
        induction e with
        | nil => exact ⟨[], .nil, rfl⟩
        | cons a t ih =>
          obtain ⟨es, h1, rfl⟩ := ih fun d hd => ht d (List.mem_cons_of_mem _ hd)
          obtain ⟨xs, rfl⟩ := ht _ List.mem_cons_self
          exact ⟨xs :: es, .cons a h1, rfl⟩
      obtain ⟨es, h1, rfl⟩ := e2
      have hem : ∃ d ∈ es, d = [] := by
        refine Classical.byContradiction fun z => hne fun d hd => ?_
        obtain ⟨xs, hx, rfl⟩ := List.mem_map.mp hd
        cases xs with
        | nil => exact absurd ⟨[], hx, rfl⟩ z
        | cons x r => exact ⟨x, r, rfl⟩
      have lt : ∀ kd : SortKind, (kd = oneType' ∨ kd = general') → H.LtAt prog w A s (dataKind s.heap (es.map .tuple)) kd := by
        intro kd hk E x y a b Q ha hb hq
        obtain ⟨d, as, hd, ra, rfl⟩ := dataKind_inv ha
        obtain ⟨d', as', hd', rb, rfl⟩ := dataKind_inv hb
        have hdd := hal d hd d' hd'
        have room : A.units + min d.depth d'.depth < cLine := Nat.lt_of_le_of_lt (Nat.add_le_add_left (Nat.min_le_left _ _) _) (hu d hd)
        obtain ⟨xs, rfl⟩ := ht d hd
        obtain ⟨ys, rfl⟩ := ht d' hd'
        rcases hk with rfl | rfl
        · exact tupLt_one ra rb (by simpa [alike] using hdd) room hq
        · exact oneLt_alike (f := false) (fun z => by cases z) ra rb hdd (by simp) room hq
      by_cases h2 : 2 ≤ vs.length
      · obtain ⟨kd, hk, hq⟩ := kind_tups (M := model prog w) (A := A) h1 h2 hem
        exact ⟨kd, lt kd hk, fun _ E {Q} z => hq E z⟩
      · exact ⟨general', lt _ (.inr rfl), fun z => absurd z h2⟩
end
section
open L2
variable {X : Cx} {px : Px} {W : WX}
/-- an item of a list and what it stands for -/
def ItemR (X : Cx) (w : Wd) (H : Hp) (h : Heap) (u : Value) (d : D) : Prop := ∃ v, RelV v u ∧ VR X.K w H d v
theorem items_each {w : Wd} {H : Hp} {h : Heap} : ∀ {ds : List D} {vs : List V} {us : List Value}, VRs X.K w H ds vs → Vals vs us → EachIs (ItemR X w H h) us ds
  | _, _, _, .nil, .nil => .nil
  | _, _, _, .cons a r, .cons b t => .cons ⟨_, b, a⟩ (items_each r t)
theorem each_items {w : Wd} {H : Hp} {h : Heap} : ∀ {us : List Value} {ds : List D}, EachIs (ItemR X w H h) us ds → ∃ vs, VRs X.K w H ds vs ∧ Vals vs us
  | _, _, .nil => ⟨[], .nil, .nil⟩
  | _, _, .cons ⟨v, a, b⟩ t => by
    obtain ⟨vs, h1, h2⟩ := each_items t
    exact ⟨v :: vs, .cons b h1, .cons a h2⟩
theorem py_tup {d : D} (h : isTupD d = true) : ∃ xs, d.py = .tuple xs := by
  cases d <;> first | (cases h; done) | exact ⟨_, rfl⟩
theorem py_oth {d : D} (h : isTupD d = false) (h2 : isNonD d = false) (hp : d.pl = true) : d.py ≠ .none ∧ ∀ xs, d.py ≠ .tuple xs := by
  cases d <;> first | (cases h; done) | (cases h2; done) | (cases hp; done) | exact ⟨(fun z => by cases z), (fun _ z => by cases z)⟩
theorem pls_mem : ∀ {ds : List D}, D.pls ds = true → ∀ d ∈ ds, d.pl = true
  | [], _, _, h => by cases h
  | x :: r, hp, d, h => by
    rw [D.pls, Bool.and_eq_true] at hp
    rcases List.mem_cons.mp h with z | z
    · rw [z]; exact hp.1
    · exact pls_mem hp.2 d z
theorem bi_sorted (z : Cz X) : CallR X (.builtin "sorted") (rBi X.K px W .sorted) := by
  intro pins s σ H vs us Q I r q
  obtain ⟨σ', w, e, h, ds0, v, p0⟩ := q
  obtain ⟨d, ed, p⟩ := p0.nobad
  clear p0
  obtain ⟨x, u, rfl, hv, ed⟩ := one v ed
  obtain ⟨a, xs, ds, rfl, hq, ha, ed⟩ := onQ_of hv ed
  split at ed
  · rename_i hs
    cases ed
    unfold sortsOk at hs
    simp only [Bool.and_eq_true, Bool.or_eq_true, decide_eq_true_eq, List.all_eq_true] at hs
    obtain ⟨⟨⟨⟨hk, hp⟩, hl⟩, hd⟩, _⟩ := hs
    obtain ⟨its, rv, il⟩ : ∃ its, Vals xs its ∧ (s.heap.IsList a its.toArray ∨ s.heap.IsTuple a its.toArray) := by
      rcases hq with hq | hq
      · obtain ⟨its, rv, il, hz⟩ := I.list hq
        exact ⟨its, rv, .inl il.isList⟩
      · obtain ⟨its, rv, il, hz⟩ := I.tuple hq
        exact ⟨its, rv, .inr il⟩
    rw [Vals.ref1 r]
    have eR : EachIs (ItemR X w H s.heap) its ds := items_each ha rv
    have rd : ∀ {u : Value} {d : D}, d ∈ ds → ItemR X w H s.heap u d → ∃ as, Reads s.heap u d.py as := fun {u d} hm ⟨v, r1, r2⟩ => by
      obtain ⟨as, q, _⟩ := VR.reads I d v u r2 r1 (pls_mem hp d hm)
      exact ⟨as, q⟩
    have er : EachIs (fun u d => ∃ as, Reads s.heap u d.py as) its ds := (each_mem eR).mono fun _ _ q => rd q.2 q.1
    have hal : AllAlike (ds.map D.py) := fun x hx y hy => by
      obtain ⟨d1, m1, rfl⟩ := List.mem_map.mp hx
      obtain ⟨d2, m2, rfl⟩ := List.mem_map.mp hy
      exact (hd d1 m1).2 d2 m2
    have er' : EachIs (fun u d => ∃ as, Reads (sortingHeap (copyHeap s.heap its) (s.heap.objs.size + 1) its) u d.py as) its ds := er.mono fun _ _ ⟨as, r⟩ => ⟨as, PyProof.Rows.Reads.keeps (fun _ _ => sorting_copy_old) r⟩
    have hu : ∀ d, d ∈ ds.map D.py → X.A.in1.in1.units + d.depth < cLine := fun d hd' => by
      obtain ⟨b, hb, rfl⟩ := List.mem_map.mp hd'
      have h1 := (hd b hb).1
      have h2 := z.un
      show X.A.units + 1 + 1 + _ < cLine
      omega
    have eds : EachIs (fun v d => ∃ as, Reads (sortingHeap (copyHeap s.heap its) (s.heap.objs.size + 1) its) v d as) its (ds.map D.py) := PySem.W.each_map (R := fun v d => ∃ as, Reads (sortingHeap (copyHeap s.heap its) (s.heap.objs.size + 1) its) v d as) D.py er'
    have S : SortsAt X.prog X.w X.A.in1.in1 { s with heap := sortingHeap (copyHeap s.heap its) (s.heap.objs.size + 1) its } (dataKind (sortingHeap (copyHeap s.heap its) (s.heap.objs.size + 1) its) (ds.map D.py)) its := by
      rcases hk with hk | hk
      · refine sortsAt_tups (s := { s with heap := sortingHeap (copyHeap s.heap its) (s.heap.objs.size + 1) its }) eds hal (fun d hd' => ?_) hu
        obtain ⟨b, hb, rfl⟩ := List.mem_map.mp hd'
        exact py_tup (hk b hb)
      · refine SortsAt.data (s := { s with heap := sortingHeap (copyHeap s.heap its) (s.heap.objs.size + 1) its }) eds hal (.inr fun d hd' => ?_) hu
        obtain ⟨b, hb, rfl⟩ := List.mem_map.mp hd'
        have q := hk b hb
        simp only [Bool.and_eq_true, Bool.not_eq_true'] at q
        exact py_oth q.1 q.2 (pls_mem hp b hb)
    have hL : its.length ≤ sizeLine := by
      rw [eR.length, sizeLine_eq]; omega
    refine sorted_both il S hL ?_
    have eo := sortVals_data (h' := sortingHeap (copyHeap s.heap its) (s.heap.objs.size + 1) its) false eR er' hal
    obtain ⟨ys, hy1, hy2⟩ := each_items eo
    obtain ⟨ep, he'⟩ := PyProof.Rows.sortedAll_at s.heap its (sortVals (dataKind (sortingHeap (copyHeap s.heap its) (s.heap.objs.size + 1) its) (ds.map D.py)) false its its).toArray
    have hlen : ys.length ≤ sizeLine := by
      rw [hy2.length, sortVals_length false rfl]; exact hL
    exact ⟨.ref _, upd H (s.heap.objs.size + 1) (.lst ys), I.laid (t' := s.toks) (fun _ _ => PyProof.Rows.sortedAll_old) (Nat.le_succ _) ⟨hlen, _, ep, hy2, he'⟩, rfl, p.newL (I.hok.fresh (Nat.le_succ _)) hy1⟩
  · cases ed
end
end Tv
end

section
set_option autoImplicit false
set_option maxHeartbeats 1000000
/-! Expressions: each from its parts. -/
namespace Tv
open PySem PySem.Spec PyProof.Rows L2
theorem PE.of {X : Cx} {e : Expr} {t t' : TE} (h : PE X e t) (i : ∀ σ H Q, t' σ H Q → t σ H Q) : PE X e t' := ⟨fun pins s σ H Q I q => h.run pins s σ H Q I (i σ H Q q)⟩
theorem PT.of {X : Cx} {e : Expr} {t t' : TT} (h : PT X e t) (i : ∀ σ H Q, t' σ H Q → t σ H Q) : PT X e t' := ⟨fun pins s σ H Q I q => h.run pins s σ H Q I (i σ H Q q)⟩
theorem PW.of {X : Cx} {e : Expr} {t t' : TT} (h : PW X e t) (i : ∀ σ H Q, t' σ H Q → t σ H Q) : PW X e t' := ⟨fun wh pins s σ H Q I q => h.run wh pins s σ H Q I (i σ H Q q)⟩
theorem PA.of {X : Cx} {e : List Expr} {t t' : TA} (h : PA X e t) (i : ∀ σ H Q, t' σ H Q → t σ H Q) : PA X e t' := ⟨fun p pins s σ H Q I q => h.run p pins s σ H Q I (i σ H Q q)⟩
section
variable {X : Cx} {px : Px} {W : WX} {a b c : Expr} {fa fb fc : Ev → Hs → R D} {pos : Pos}
/-- an expression computes f -/
abbrev SE (X : Cx) (px : Px) (W : WX) (e : Expr) (f : Ev → Hs → R D) : Prop := PE X e (rdE X.K px W f)
abbrev ST (X : Cx) (px : Px) (W : WX) (e : Expr) (f : Ev → Hs → R D) : Prop := PT X e (rdT X.K px W (tst f))
abbrev SA (X : Cx) (px : Px) (W : WX) (e : List Expr) (f : Ev → Hs → R (List D)) : Prop := PA X e (rdA X.K px W f)

/-! ### constants, names -/
theorem rd_c {K : PySem.W.Frag} {d : D} {v : V} (r : ∀ w H, VT K w H d v) (σ : L2.St) (H : Hp) (Q : VK) (q : rdE K px W (fun _ h => .ok d h) σ H Q) : tC v σ H Q := by
  obtain ⟨w, e, h, p⟩ := q
  exact p.done (r w H)
def chkC : D → Const → Bool
  | .non, .none => true
  | .bl b, .bool c => b == c
  | .int i, .int j => i == j
  | .str s, .str t => decide (s = t)
  | _, _ => false
theorem se_c {d : D} {k : Const} {j : Nat} (h : chkC d k = true) : SE X px W (.Constant k j pos) (fun _ h => .ok d h) := by
  cases d <;> cases k <;> first | (cases h; done) | skip
  · exact PE.of pe_non (rd_c fun _ _ => .non)
  · rw [chkC, beq_iff_eq] at h; subst h; exact PE.of pe_bl (rd_c fun _ _ => .bl _)
  · rw [chkC, beq_iff_eq] at h; subst h; exact PE.of pe_int (rd_c fun _ _ => .int _)
  · rw [chkC, decide_eq_true_eq] at h; subst h; exact PE.of pe_str (rd_c fun _ _ => .str _)
theorem slot_of {K : PySem.W.Frag} {w : Wd} {H : Hp} {e : Ev} {σ : L2.St} (r : ER K w e σ H) (hs : ∀ a, a ∈ w.hp → some a ∉ w.ow) {i : Nat} {d : D} (h : evV e i = some d) : ∃ v, σ[i]? = some (some v) ∧ VT K w H d v := by
  have q := r.sl i
  unfold evV at h
  cases e1 : e.get i with
  | u => rw [e1] at h; cases h
  | k kvs => rw [e1] at h; cases h
  | v d' =>
    rw [e1] at h q
    cases h
    obtain ⟨v, h1, h2⟩ := q
    exact ⟨v, h1, .of h2⟩
  | o ds =>
    rw [e1] at h q
    cases h
    obtain ⟨a, xs, h1, h2, h3, h4, _⟩ := q
    have m : some a ∈ w.ow := List.mem_iff_getElem?.mpr ⟨i, h2⟩
    exact ⟨_, h1, .bor m (fun z => hs a z m) h3 h4⟩
theorem se_v {i : Nat} {x : Str} (hN : X.N[i]? = some x) (hv : Vis X.env.scope x) (hd : (x == ("__debug__" : Str)) = false) (hcd : (x == ("__classdict__" : Str)) = false) : SE X px W (.Name x pos) (fun e h => R.of (evV e i) h) := by
  refine PE.of (pe_var hN hv hd hcd) fun σ H Q q => ?_
  obtain ⟨w, e, h, p⟩ := q
  obtain ⟨d, ed, p⟩ := p.nobad
  obtain ⟨v, h1, h2⟩ := slot_of p.rr.er (fun a m => (p.rr.hr.sep a m).1) ed
  exact ⟨v, h1, p.done h2⟩
theorem se_g {x : Str} {d : D} {v : V} {u : Value} (hg : Gl X x) (hm : X.mg x = some u) (r : RelV v u) (rv : ∀ w H, VT X.K w H d v) (hd : (x == ("__debug__" : Str)) = false) : SE X px W (.Name x pos) (fun _ h => .ok d h) :=
  PE.of (pe_glob hg hm r hd) (rd_c rv)

/-! ### operators -/
theorem se_bin {o : Bop} (ha : SE X px W a fa) (hb : SE X px W b fb) : SE X px W (.BinOp a (bopOf o) b pos) (fun e h => (fa e h).bind fun x h => (fb e h).bind fun y h => R.of (dBin o x y) h) := by
  refine PE.of (pe_op (op_binD (px := px) (W := W) o) ha hb) fun σ H Q ⟨w, e, h, p⟩ => ?_
  refine ⟨w, e, h, p.bind.imp fun x H1 ⟨d1, h1, w1, _, x1, v1, p1⟩ => ⟨w1, e, h1, p1.bind.imp fun y H2 ⟨d2, h2, w2, _, x2, v2, p2⟩ => ?_⟩⟩
  exact ⟨σ, w2, e, h2, d1, d2, v1.ext x2, v2, p2⟩
theorem pc_eq {op : CmpOp} (o : Cop) (h : op = copOf o) (hu : X.A.units + 64 < cLine) : OpR X (compareOp op) (rC2 X.K px W (dCmp o)) := by subst h; exact op_cmpD hu o
theorem se_cmp {o : Cop} (z : Cz X) (ha : SE X px W a fa) (hb : SE X px W b fb) (hm : behindInMarks (copOf o) b = false) : SE X px W (.Compare a [copOf o] [b] pos) (fun e h => (fa e h).bind fun x h => (fb e h).bind fun y h => R.of ((dCmp o x y).map .bl) h) := by
  refine PE.of (pe_cmpR (op_cmpD (px := px) (W := W) (by have := z.un; omega) o) ha hb hm) fun σ H Q ⟨w, e, h, p⟩ => ?_
  refine ⟨w, e, h, p.bind.imp fun x H1 ⟨d1, h1, w1, _, x1, v1, p1⟩ => ⟨w1, e, h1, p1.bind.imp fun y H2 ⟨d2, h2, w2, _, x2, v2, p2⟩ => ?_⟩⟩
  exact ⟨σ, w2, e, h2, d1, d2, v1.ext x2, v2, p2⟩
theorem tst_bl {K : PySem.W.Frag} {σ : L2.St} {w : Wd} {e : Ev} {h : Hs} {H : Hp} {Q : Bool → Hp → Prop} {o : Option Bool} (p : Pre K px W σ relB w e h H Q ((R.of (o.map D.bl) h).bind fun x h => R.of x.tru h)) :
    Pre K px W σ (relV K) w e h H (fun v H' => ∃ k, v = .bl k ∧ Q k H') (R.of (o.map D.bl) h) := by
  refine p.bind.imp fun v H1 ⟨d, h1, w1, ed, x1, v1, p1⟩ => ?_
  cases o with
  | none => cases ed
  | some k =>
    cases ed
    exact ⟨k, vBl v1, p1.done rfl⟩
theorem st_cmp {o : Cop} (z : Cz X) (ha : SE X px W a fa) (hb : SE X px W b fb) (hm : behindInMarks (copOf o) b = false) : ST X px W (.Compare a [copOf o] [b] pos) (fun e h => (fa e h).bind fun x h => (fb e h).bind fun y h => R.of ((dCmp o x y).map .bl) h) := by
  refine PT.of (pt_cmpR (op_cmpD (px := px) (W := W) (by have := z.un; omega) o) ha hb hm) fun σ H Q ⟨w, e, h, p⟩ => ?_
  have p : Pre X.K px W σ relB w e h H Q ((fa e h).bind fun x h => ((fb e h).bind fun y h => R.of ((dCmp o x y).map D.bl) h).bind fun x h => R.of (D.tru x) h) := by
    unfold tst at p
    dsimp only at p
    rw [R.bind_assoc] at p
    exact p
  refine ⟨w, e, h, p.bind.imp fun x H1 ⟨d1, h1, w1, _, x1, v1, p1⟩ => ⟨w1, e, h1, ?_⟩⟩
  rw [R.bind_assoc] at p1
  refine p1.bind.imp fun y H2 ⟨d2, h2, w2, _, x2, v2, p2⟩ => ?_
  exact ⟨σ, w2, e, h2, d1, d2, v1.ext x2, v2, tst_bl p2⟩
/-- a op b op c -/
def fChn (o o' : Cop) (fa fb fc : Ev → Hs → R D) : Ev → Hs → R D := fun e h => (fa e h).bind fun x h => (fb e h).bind fun y h => match dCmp o x y with
    | some true => (fc e h).bind fun z h => R.of ((dCmp o' y z).map .bl) h
    | some false => .ok (.bl false) h
    | none => .bad
theorem chn_rd {K : PySem.W.Frag} {o o' : Cop} {σ : L2.St} {H : Hp} {Q : VK} (q : rdE K px W (fChn o o' fa fb fc) σ H Q) : tChain (rC2 K px W (dCmp o)) (rC2 K px W (dCmp o')) (rdE K px W fa) (rdE K px W fb) (rdE K px W fc) σ H Q := by
  obtain ⟨w, e, h, p⟩ := q
  refine ⟨w, e, h, p.bind.imp fun x H1 ⟨d1, h1, w1, _, x1, v1, p1⟩ => ⟨w1, e, h1, p1.bind.imp fun y H2 ⟨d2, h2, w2, _, x2, v2, p2⟩ => ?_⟩⟩
  cases ec : dCmp o d1 d2 with
  | none => rw [ec] at p2; exact p2.po.elim
  | some k =>
    rw [ec] at p2
    refine ⟨σ, w2, e, h2, d1, d2, v1.ext x2, v2, ⟨p2.rr, ?_⟩⟩
    show Post K px W σ (relV K) w2 H2 _ (R.of ((dCmp o d1 d2).map D.bl) h2)
    rw [ec]
    intro v w3 H3 y1 y2 y3 y4
    refine ⟨k, vBl y4, ?_⟩
    cases k with
    | false =>
      rw [if_neg (by simp)]
      exact p2.po (.bl false) w3 H3 y1 y2 y3 (.bl _)
    | true =>
      rw [if_pos rfl]
      have p3 : Pre K px W σ (relV K) w3 e h2 H3 Q ((fc e h2).bind fun z h => R.of ((dCmp o' d2 z).map .bl) h) := p2.later y1 y2 y3
      exact ⟨w3, e, h2, p3.bind.imp fun z H4 ⟨d3, h4, w4, _, x4, v4, p4⟩ => ⟨σ, w4, e, h4, d2, d3, (v2.ext y1).ext x4, v4, p4⟩⟩
theorem se_chn {o o' : Cop} (z : Cz X) (ha : SE X px W a fa) (hb : SE X px W b fb) (hc : SE X px W c fc) (hm : lastMarks [copOf o, copOf o'] [b, c] = false) : SE X px W (.Compare a [copOf o, copOf o'] [b, c] pos) (fChn o o' fa fb fc) :=
  PE.of (pe_chain (op_cmpD (px := px) (W := W) (by have := z.un; omega) o) (op_cmpD (px := px) (W := W) (by have := z.un; omega) o') ha hb hc hm) fun σ H Q q => chn_rd q
theorem of_bl {o : Option Bool} {h h' : Hs} {d : D} (q : R.of (o.map D.bl) h = .ok d h') : ∃ k, d = .bl k := by
  cases o with
  | none => cases q
  | some k => cases q; exact ⟨k, rfl⟩
theorem bind_ok {α β : Type} {r : R α} {k : α → Hs → R β} {b : β} {h' : Hs} (q : r.bind k = .ok b h') : ∃ a h, r = .ok a h ∧ k a h = .ok b h' := by
  cases r with
  | bad => cases q
  | exc x h => cases q
  | ok a h => exact ⟨a, h, rfl, q⟩
theorem chn_bl {o o' : Cop} {e : Ev} {h h' : Hs} {d : D} (q : fChn o o' fa fb fc e h = .ok d h') : ∃ k, d = .bl k := by
  obtain ⟨x, h1, _, q⟩ := bind_ok q
  obtain ⟨y, h2, _, q⟩ := bind_ok q
  split at q
  · obtain ⟨z, h3, _, q⟩ := bind_ok q
    exact of_bl q
  · cases q; exact ⟨_, rfl⟩
  · cases q
/-- a test of what is a truth value -/
theorem tst_bool {K : PySem.W.Frag} {σ : L2.St} {w : Wd} {e : Ev} {h : Hs} {H : Hp} {Q : Bool → Hp → Prop} {r : R D} (hb : ∀ d h', r = .ok d h' → ∃ k, d = .bl k) (p : Pre K px W σ relB w e h H Q (r.bind fun x h => R.of x.tru h)) :
    Pre K px W σ (relV K) w e h H (fun v H' => ∃ k, v = .bl k ∧ Q k H') r := by
  refine p.bind.imp fun v H1 ⟨d, h1, w1, ed, x1, v1, p1⟩ => ?_
  obtain ⟨k, rfl⟩ := hb d h1 ed
  exact ⟨k, vBl v1, p1.done rfl⟩
theorem st_chn {o o' : Cop} (z : Cz X) (ha : SE X px W a fa) (hb : SE X px W b fb) (hc : SE X px W c fc) (hm : lastMarks [copOf o, copOf o'] [b, c] = false) : ST X px W (.Compare a [copOf o, copOf o'] [b, c] pos) (fChn o o' fa fb fc) :=
  PT.of (pt_chain (op_cmpD (px := px) (W := W) (by have := z.un; omega) o) (op_cmpD (px := px) (W := W) (by have := z.un; omega) o') ha hb hc hm) fun σ H Q ⟨w, e, h, p⟩ => chn_rd ⟨w, e, h, tst_bool (fun _ _ q => chn_bl q) p⟩
theorem st_val {e : Expr} {f : Ev → Hs → R D} (h : SE X px W e f) (he : ∀ whole, isTrue e X.env whole = (do let v ← whole; standAt e.pos; holding [v] (truthy v))) : ST X px W e f := by
  refine PT.of (pt_truth h he) fun σ H Q ⟨w, e, hh, p⟩ => ?_
  exact ⟨w, e, hh, p.bind.imp fun v H1 ⟨d, h1, w1, _, x1, v1, p1⟩ => let ⟨k, ek, p2⟩ := p1.nobad; ⟨k, v1.tru ek, p2.done rfl⟩⟩
/-! ### not, and, or, if -/
theorem se_not (ha : SE X px W a fa) : SE X px W (.UnaryOp .Not a pos) (fun e h => (fa e h).bind fun x h => R.of (x.tru.map fun b => .bl (!b)) h) := by
  refine PE.of (pe_notT ha) fun σ H Q ⟨w, e, h, p⟩ => ?_
  refine ⟨w, e, h, p.bind.imp fun x H1 ⟨d, h1, w1, _, x1, v1, p1⟩ => ?_⟩
  cases ec : d.tru with
  | none => rw [ec] at p1; exact p1.po.elim
  | some k => rw [ec] at p1; exact ⟨k, v1.tru ec, p1.done (.bl _)⟩
theorem st_not (ha : ST X px W a fa) : ST X px W (.UnaryOp .Not a pos) (fun e h => (fa e h).bind fun x h => R.of (x.tru.map fun b => .bl (!b)) h) := by
  refine PT.of (pt_not ha) fun σ H Q ⟨w, e, h, p⟩ => ?_
  refine ⟨w, e, h, ?_⟩
  have p : Pre X.K px W σ relB w e h H Q (((fa e h).bind fun x h => R.of (x.tru.map fun b => D.bl (!b)) h).bind fun x h => R.of x.tru h) := p
  rw [R.bind_assoc] at p
  refine ⟨p.rr, ?_⟩
  have q := p.po
  unfold tst
  cases e1 : fa e h with
  | bad => rw [e1] at q; exact q
  | exc x h1 => rw [e1] at q; exact q
  | ok d h1 =>
    rw [e1] at q
    simp only [R.bind_ok] at q ⊢
    cases ec : d.tru with
    | none => rw [ec] at q; exact q
    | some k =>
      rw [ec] at q
      intro b w' H' y1 y2 y3 y4
      cases y4
      exact q (!k) w' H' y1 y2 y3 rfl
def fAnd (fa fb : Ev → Hs → R D) : Ev → Hs → R D := fun e h => (fa e h).bind fun x h => match x.tru with
    | some true => fb e h
    | some false => .ok x h
    | none => .bad
def fOr (fa fb : Ev → Hs → R D) : Ev → Hs → R D := fun e h => (fa e h).bind fun x h => match x.tru with
    | some true => .ok x h
    | some false => fb e h
    | none => .bad
variable {rest : List Expr}
theorem se_and (ha : SE X px W a fa) (hb : SE X px W (.BoolOp .And (b :: rest) pos) fb) : SE X px W (.BoolOp .And (a :: b :: rest) pos) (fAnd fa fb) := by
  refine PE.of (pe_andT ha hb) fun σ H Q ⟨w, e, h, p⟩ => ?_
  refine ⟨w, e, h, p.bind.imp fun x H1 ⟨d, h1, w1, _, x1, v1, p1⟩ => ?_⟩
  cases ec : d.tru with
  | none => rw [ec] at p1; exact p1.po.elim
  | some k =>
    rw [ec] at p1
    refine ⟨k, v1.tru ec, ?_⟩
    cases k with
    | true => rw [if_pos rfl]; exact ⟨w1, e, h1, p1⟩
    | false => rw [if_neg (by simp)]; exact p1.done v1
theorem se_or (ha : SE X px W a fa) (hb : SE X px W (.BoolOp .Or (b :: rest) pos) fb) : SE X px W (.BoolOp .Or (a :: b :: rest) pos) (fOr fa fb) := by
  refine PE.of (pe_orT ha hb) fun σ H Q ⟨w, e, h, p⟩ => ?_
  refine ⟨w, e, h, p.bind.imp fun x H1 ⟨d, h1, w1, _, x1, v1, p1⟩ => ?_⟩
  cases ec : d.tru with
  | none => rw [ec] at p1; exact p1.po.elim
  | some k =>
    rw [ec] at p1
    refine ⟨k, v1.tru ec, ?_⟩
    cases k with
    | true => rw [if_pos rfl]; exact p1.done v1
    | false => rw [if_neg (by simp)]; exact ⟨w1, e, h1, p1⟩
abbrev SW (X : Cx) (px : Px) (W : WX) (e : Expr) (f : Ev → Hs → R D) : Prop := PW X e (rdT X.K px W (tst f))
theorem sw_and1 (ha : ST X px W a fa) : SW X px W (.BoolOp .And [a] pos) fa := pw_and1 ha
theorem sw_or1 (ha : ST X px W a fa) : SW X px W (.BoolOp .Or [a] pos) fa := pw_or1 ha
theorem pre_and {K : PySem.W.Frag} {σ : L2.St} {w : Wd} {e : Ev} {h : Hs} {H : Hp} {Q : Bool → Hp → Prop} (p : Pre K px W σ relB w e h H Q (tst (fAnd fa fb) e h)) :
    Pre K px W σ relB w e h H (fun k H1 => ∃ w1 h1, if k = true then Pre K px W σ relB w1 e h1 H1 Q (tst fb e h1) else Q false H1) (tst fa e h) := by
  refine ⟨p.rr, ?_⟩
  have q := p.po
  unfold tst fAnd at q
  unfold tst
  cases e1 : fa e h with
  | bad => rw [e1] at q; exact q
  | exc x h1 => rw [e1] at q; exact q
  | ok d h1 =>
    rw [e1] at q
    simp only [R.bind_ok] at q ⊢
    cases ec : d.tru with
    | none => rw [ec] at q; exact q
    | some k =>
      rw [ec] at q
      intro b w' H' y1 y2 y3 y4
      cases y4
      refine ⟨w', h1, ?_⟩
      cases k with
      | true =>
        rw [if_pos rfl]
        exact ⟨p.rr.ext y1 y2 y3, Post.later q y1⟩
      | false =>
        rw [if_neg (by simp)]
        simp only [R.bind_ok, ec, R.of_some] at q
        exact q false w' H' y1 y2 y3 rfl
theorem sw_and (ha : ST X px W a fa) (hb : SW X px W (.BoolOp .And (b :: rest) pos) fb) : SW X px W (.BoolOp .And (a :: b :: rest) pos) (fAnd fa fb) := by
  refine PW.of (pw_and ha hb) fun σ H Q ⟨w, e, h, p⟩ => ?_
  refine ⟨w, e, h, (pre_and p).imp fun k H1 ⟨w1, h1, q⟩ => ?_⟩
  cases k with
  | true => rw [if_pos rfl] at q ⊢; exact ⟨w1, e, h1, q⟩
  | false => rw [if_neg (by simp)] at q ⊢; exact q
theorem pre_or {K : PySem.W.Frag} {σ : L2.St} {w : Wd} {e : Ev} {h : Hs} {H : Hp} {Q : Bool → Hp → Prop} (p : Pre K px W σ relB w e h H Q (tst (fOr fa fb) e h)) :
    Pre K px W σ relB w e h H (fun k H1 => ∃ w1 h1, if k = true then Q true H1 else Pre K px W σ relB w1 e h1 H1 Q (tst fb e h1)) (tst fa e h) := by
  refine ⟨p.rr, ?_⟩
  have q := p.po
  unfold tst fOr at q
  unfold tst
  cases e1 : fa e h with
  | bad => rw [e1] at q; exact q
  | exc x h1 => rw [e1] at q; exact q
  | ok d h1 =>
    rw [e1] at q
    simp only [R.bind_ok] at q ⊢
    cases ec : d.tru with
    | none => rw [ec] at q; exact q
    | some k =>
      rw [ec] at q
      intro b w' H' y1 y2 y3 y4
      cases y4
      refine ⟨w', h1, ?_⟩
      cases k with
      | false =>
        rw [if_neg (by simp)]
        exact ⟨p.rr.ext y1 y2 y3, Post.later q y1⟩
      | true =>
        rw [if_pos rfl]
        simp only [R.bind_ok, ec, R.of_some] at q
        exact q true w' H' y1 y2 y3 rfl
theorem sw_or (ha : ST X px W a fa) (hb : SW X px W (.BoolOp .Or (b :: rest) pos) fb) : SW X px W (.BoolOp .Or (a :: b :: rest) pos) (fOr fa fb) := by
  refine PW.of (pw_or ha hb) fun σ H Q ⟨w, e, h, p⟩ => ?_
  refine ⟨w, e, h, (pre_or p).imp fun k H1 ⟨w1, h1, q⟩ => ?_⟩
  cases k with
  | true => rw [if_pos rfl] at q ⊢; exact q
  | false => rw [if_neg (by simp)] at q ⊢; exact ⟨w1, e, h1, q⟩
def fIte (fc fa fb : Ev → Hs → R D) : Ev → Hs → R D := fun e h => (fc e h).bind fun x h => match x.tru with
    | some true => fa e h
    | some false => fb e h
    | none => .bad
theorem pre_ite {α β : Type} {K : PySem.W.Frag} {rel : Wd → Hp → α → β → Prop} {σ : L2.St} {w : Wd} {e : Ev} {h : Hs} {H : Hp} {Q : β → Hp → Prop} {ga gb : Hs → R α}
    (p : Pre K px W σ rel w e h H Q ((fc e h).bind fun x h => match x.tru with
    | some true => ga h
    | some false => gb h
    | none => .bad)) :
    Pre K px W σ relB w e h H (fun k H1 => ∃ w1 h1, Pre K px W σ rel w1 e h1 H1 Q (if k = true then ga h1 else gb h1)) (tst fc e h) := by
  refine ⟨p.rr, ?_⟩
  have q := p.po
  unfold tst
  cases e1 : fc e h with
  | bad => rw [e1] at q; exact q
  | exc x h1 => rw [e1] at q; exact q
  | ok d h1 =>
    rw [e1] at q
    simp only [R.bind_ok] at q ⊢
    cases ec : d.tru with
    | none => rw [ec] at q; exact q
    | some k =>
      rw [ec] at q
      intro b w' H' y1 y2 y3 y4
      cases y4
      refine ⟨w', h1, ?_⟩
      cases k with
      | false => rw [if_neg (by simp)]; exact ⟨p.rr.ext y1 y2 y3, Post.later q y1⟩
      | true => rw [if_pos rfl]; exact ⟨p.rr.ext y1 y2 y3, Post.later q y1⟩
theorem se_ite (hc : ST X px W c fc) (ha : SE X px W a fa) (hb : SE X px W b fb) : SE X px W (.IfExp c a b pos) (fIte fc fa fb) := by
  refine PE.of (pe_ifExp hc ha hb) fun σ H Q ⟨w, e, h, p⟩ => ?_
  refine ⟨w, e, h, (pre_ite p).imp fun k H1 ⟨w1, h1, q⟩ => ?_⟩
  cases k with
  | true => rw [if_pos rfl] at q ⊢; exact ⟨w1, e, h1, q⟩
  | false => rw [if_neg (by simp)] at q ⊢; exact ⟨w1, e, h1, q⟩

/-! ### lists of arguments, displays -/
variable {es : List Expr} {fr : Ev → Hs → R (List D)}
theorem sa_nil : SA X px W [] (fun _ h => .ok [] h) := PA.of pa_nil fun σ H Q ⟨w, e, h, p⟩ => p.done .nil
theorem sa_cons (ha : SE X px W a fa) (hr : SA X px W es fr) (hs : starEach (a :: es) X.env = (false, eval a X.env) :: starEach es X.env) : SA X px W (a :: es) (fun e h => (fa e h).bind fun x h => (fr e h).bind fun xs h => .ok (x :: xs) h) := by
  refine PA.of (pa_cons ha hr hs) fun σ H Q ⟨w, e, h, p⟩ => ?_
  refine ⟨w, e, h, p.bind.imp fun x H1 ⟨d1, h1, w1, _, x1, v1, p1⟩ => ⟨w1, e, h1, p1.bind.imp fun y H2 ⟨d2, h2, w2, _, x2, v2, p2⟩ => ?_⟩⟩
  exact p2.done (.cons (v1.ext x2) v2)
theorem len_ok {X : Cx} {pins : List (Addr × Obj)} {s : Shared} {σ : L2.St} {H : Hp} : True := trivial
theorem se_tup {x1 : Nat} (ha : SA X px W es fr) (hl : es.length ≤ 1000) (hn : ∀ e h ds h', fr e h = .ok ds h' → ds.length = es.length) : SE X px W (.Tuple es x1 pos) (fun e h => (fr e h).bind fun ds h => if ds.all D.keep then .ok (.tup ds) h else .bad) := by
  refine PE.of (pe_tup ha) fun σ H Q ⟨w, e, h, p⟩ => ?_
  refine ⟨w, e, h, p.bind.imp fun x H1 ⟨d1, h1, w1, e1, x1, v1, p1⟩ => ?_⟩
  split at p1
  · rename_i hk
    have v2 := v1.keep hk
    refine ⟨by rw [← v2.length, hn _ _ _ _ e1, sizeLine_eq]; omega, fun q hq => p1.newT hq v2⟩
  · exact p1.po.elim
theorem se_lst (ha : SA X px W es fr) (hl : es.length ≤ 1000) (hn : ∀ e h ds h', fr e h = .ok ds h' → ds.length = es.length) : SE X px W (.List es pos) (fun e h => (fr e h).bind fun ds h => if ds.all D.keep then .ok (.lst ds) h else .bad) := by
  refine PE.of (pe_lst ha) fun σ H Q ⟨w, e, h, p⟩ => ?_
  refine ⟨w, e, h, p.bind.imp fun x H1 ⟨d1, h1, w1, e1, x1, v1, p1⟩ => ?_⟩
  split at p1
  · rename_i hk
    have v2 := v1.keep hk
    refine ⟨by rw [← v2.length, hn _ _ _ _ e1, sizeLine_eq]; omega, fun q hq => p1.newL hq v2⟩
  · exact p1.po.elim
end
end Tv
end

section
set_option autoImplicit false
set_option maxHeartbeats 1000000
/-! Subscripts, built-in calls, further displays. -/
namespace Tv
open PySem PySem.Spec PyProof.Rows L2
def nst : Expr → Bool
  | .Starred .. => false
  | _ => true
def nsl : Expr → Bool
  | .Slice .. => false
  | _ => true
theorem star_ok {a : Expr} {es : List Expr} {env : Env} (h : nst a = true) : starEach (a :: es) env = (false, eval a env) :: starEach es env := by
  cases a <;> first | rfl | cases h
theorem sl_ok {a : Expr} (h : nsl a = true) : PlainIx a := by
  intro o i
  cases a <;> first | rfl | cases h
theorem stars_any {pos : Pos} {env : Env} : ∀ {es : List Expr}, es.all nst = true → (backTo pos (starEach es env)).any (·.1) = false
  | [], _ => rfl
  | a :: r, h => by
    rw [List.all_cons, Bool.and_eq_true] at h
    rw [star_ok h.1]
    show (false || (backTo pos (starEach r env)).any (·.1)) = false
    rw [stars_any h.2]; rfl
theorem stars_all {pos : Pos} {env : Env} : ∀ {es : List Expr}, es.all nst = true → (backTo pos (starEach es env)).all (fun x => !x.1) = true
  | [], _ => rfl
  | a :: r, h => by
    rw [List.all_cons, Bool.and_eq_true] at h
    rw [star_ok h.1]
    show (true && (backTo pos (starEach r env)).all (fun x => !x.1)) = true
    rw [stars_all h.2]; rfl
/-- a receiver of a method -/
def rcv : Expr → Bool
  | .Call _ [] _ _ => false
  | _ => true
theorem base_ok {o : Expr} {m : Str} {env : Env} {w : Sem Value} (h : rcv o = true) : attributeBase o m env w = w := by
  cases o <;> first | rfl | (cases h; done) | skip
  rename_i f es kws p
  cases es with
  | nil => cases h
  | cons a as => cases f <;> rfl
section
variable {X : Cx} {px : Px} {W : WX} {a b c : Expr} {fa fb fc : Ev → Hs → R D} {pos apos : Pos} {es : List Expr} {fr : Ev → Hs → R (List D)}
/-! ### a[b] -/
def fIx (x y : D) (h : Hs) : R D := match x with
    | .ref i => (match h[i]? with
      | some (.lst xs) => (match y with
        | .int j => R.of (L2.atI xs j) h
        | _ => .bad)
      | _ => .bad)
    | x => R.of (dIx x y) h
def rIxD (K : PySem.W.Frag) (px : Px) (W : WX) : R2 := fun x y H Q => ∃ σ w e h d1 d2, VT K w H d1 x ∧ VT K w H d2 y ∧ Pre K px W σ (relV K) w e h H Q (fIx d1 d2 h)
theorem ix_D : IxR X (rIxD X.K px W) := by
  intro vE sE pins s σ H x y v u Q I rx ry q hs
  obtain ⟨σ', w, e, h, d1, d2, v1, v2, p0⟩ := q
  have fin : ∀ {ds : List D} {d : D} {j : Int}, d1.sq? = some ds → d2 = .int j → L2.atI ds j = some d → Pre X.K px W σ' (relV X.K) w e h H Q (.ok d h) → wpAny (model X.prog X.w) X.A (subscriptTail vE sE v u) (EP X pins σ Q) X.xe s := by
    intro ds d j h1 h2 h3 p
    subst h2
    obtain ⟨a, xs, rfl, hq, ha⟩ := v1.sq h1
    obtain rfl := vInt v2
    obtain ⟨vv, e1, e2⟩ := ha.at h3
    have qq : Q vv H := p.done (VT.of (VS.of e2))
    rcases hq with hq | hq
    · exact ix_list vE sE pins s σ H _ _ v u Q I rx ry ⟨a, xs, j, vv, rfl, rfl, hq, e1, qq⟩ hs
    · exact ix_tup vE sE pins s σ H _ _ v u Q I rx ry ⟨a, xs, j, vv, rfl, rfl, hq, e1, qq⟩ hs
  unfold fIx at p0
  split at p0
  · rename_i i
    split at p0
    · rename_i xs hx
      split at p0
      · rename_i j
        obtain ⟨d, ed, p⟩ := p0.nobad
        cases v1 with
        | of v1 =>
          cases v1 with
          | of v1 =>
            cases v1 with
            | ref hi =>
              obtain ⟨ys, h1, h2, _⟩ := p.rr.hr.ob _ _ _ hi hx
              obtain rfl := vInt v2
              obtain ⟨vv, e1, e2⟩ := h2.at ed
              exact ix_list vE sE pins s σ H _ _ v u Q I rx ry ⟨_, ys, j, vv, rfl, rfl, .inl (.inl h1), e1, p.done (VT.of (VS.of e2))⟩ hs
      · exact p0.po.elim
    · exact p0.po.elim
  · obtain ⟨d, ed, p⟩ := p0.nobad
    clear p0
    unfold dIx at ed
    split at ed
    · rename_i j
      split at ed
      · rename_i st _
        split at ed
        · rename_i hl
          cases e1 : L2.atI st.cps.toList j with
          | none => rw [e1] at ed; cases ed
          | some cc =>
            rw [e1] at ed
            cases ed
            obtain rfl := vStr v1
            obtain rfl := vInt v2
            exact ix_str vE sE pins s σ H _ _ v u Q I rx ry ⟨st, j, cc, rfl, rfl, by rw [← LIM_eq]; exact hl, e1, p.done (.str _)⟩ hs
        · cases ed
      · split at ed
        · rename_i ds hd
          exact fin hd rfl ed p
        · cases ed
    · cases ed
theorem se_ix (ha : SE X px W a fa) (hb : SE X px W b fb) (hs : nsl b = true) : SE X px W (.Subscript a b pos) (fun e h => (fa e h).bind fun x h => (fb e h).bind fun y h => fIx x y h) := by
  refine PE.of (pe_ix (ix_D (px := px) (W := W)) ha hb (sl_ok hs)) fun σ H Q ⟨w, e, h, p⟩ => ?_
  refine ⟨w, e, h, p.bind.imp fun x H1 ⟨d1, h1, w1, _, x1, v1, p1⟩ => ⟨w1, e, h1, p1.bind.imp fun y H2 ⟨d2, h2, w2, _, x2, v2, p2⟩ => ?_⟩⟩
  exact ⟨σ, w2, e, h2, d1, d2, v1.ext x2, v2, p2⟩
/-! ### slices -/
def rSlD (K : PySem.W.Frag) (px : Px) (W : WX) : V → Option Int → Option Int → Hp → VK → Prop := fun x lo hi H Q => ∃ σ w e h d1, VT K w H d1 x ∧ Pre K px W σ (relV K) w e h H Q (R.of (dSl d1 lo hi) h)
theorem cut_whole {α : Type} (xs : List α) {lo hi : Option Int} (h1 : HT.sIx xs.length 0 lo = 0) (h2 : HT.sIx xs.length xs.length hi = xs.length) : cutD xs lo hi = xs := by
  unfold cutD
  rw [h1, h2, List.drop_zero, Nat.sub_zero, List.take_length]
theorem sl_D : L2.SlR X (rSlD X.K px W) := by
  intro pins s σ H x v vl vu lo hi sl Q I rx hs pl pu q
  obtain ⟨σ', w, e, h, d1, v1, p0⟩ := q
  obtain ⟨d, ed, p⟩ := p0.nobad
  clear p0
  unfold dSl at ed
  split at ed
  · rename_i ds
    cases ed
    obtain ⟨a, xs, rfl, hq, ha⟩ := vTup v1
    refine sl_tupA pins s σ H _ v vl vu lo hi sl Q I rx hs pl pu ⟨a, xs, rfl, sqt hq, fun hw => ?_, fun _ q hq => p.newT hq (ha.cut lo hi)⟩
    rw [← ha.length] at hw
    rw [cut_whole ds hw.1 hw.2] at p
    exact p.done (.of (.of (.tup hq ha)))
  · rename_i z
    split at ed
    · rename_i hz
      cases ed
      obtain rfl := vStr v1
      exact sl_str pins s σ H _ v vl vu lo hi sl Q I rx hs pl pu ⟨z, rfl, hz, p.done (.of (.of (.str _)))⟩
    · cases ed
  · cases e1 : d1.ls? with
    | none => rw [e1] at ed; cases ed
    | some ds =>
      rw [e1] at ed
      cases ed
      obtain ⟨a, xs, rfl, hq, ha⟩ := v1.ls e1
      exact sl_list pins s σ H _ v vl vu lo hi sl Q I rx hs pl pu ⟨a, xs, rfl, hq, fun q hq => p.newL hq (ha.cut lo hi)⟩
theorem se_sl {p2 : Pos} (ha : SE X px W a fa) (hb : SE X px W b fb) (hc : SE X px W c fc) : SE X px W (.Subscript a (.Slice (some b) (some c) none p2) pos) (fun e h => (fa e h).bind fun x h => (fb e h).bind fun y h => (match y with
    | .int i => (fc e h).bind fun z h => (match z with
      | .int j => R.of (dSl x (some i) (some j)) h
      | _ => .bad)
    | _ => .bad)) := by
  refine PE.of (pe_slice (sl_D (px := px) (W := W)) ha (po_some hb) (po_some hc)) fun σ H Q ⟨w, e, h, p⟩ => ?_
  refine ⟨w, e, h, p.bind.imp fun x H1 ⟨d1, h1, w1, _, x1, v1, p1⟩ => ⟨w1, e, h1, p1.bind.imp fun y H2 ⟨d2, h2, w2, _, x2, v2, p2⟩ => ?_⟩⟩
  obtain ⟨i, rfl⟩ : ∃ i, d2 = .int i := by cases d2 <;> first | exact ⟨_, rfl⟩ | exact p2.po.elim
  refine ⟨i, vInt v2, w2, e, h2, p2.bind.imp fun z H3 ⟨d3, h3, w3, _, x3, v3, p3⟩ => ?_⟩
  obtain ⟨j, rfl⟩ : ∃ i, d3 = .int i := by cases d3 <;> first | exact ⟨_, rfl⟩ | exact p3.po.elim
  exact ⟨j, vInt v3, σ, w3, e, h3, d1, (v1.ext x2).ext x3, p3⟩
theorem se_slf {p2 : Pos} (ha : SE X px W a fa) (hb : SE X px W b fb) : SE X px W (.Subscript a (.Slice (some b) none none p2) pos) (fun e h => (fa e h).bind fun x h => (fb e h).bind fun y h => (match y with
    | .int i => R.of (dSl x (some i) none) h
    | _ => .bad)) := by
  refine PE.of (pe_slice (sl_D (px := px) (W := W)) ha (po_some hb) po_none) fun σ H Q ⟨w, e, h, p⟩ => ?_
  refine ⟨w, e, h, p.bind.imp fun x H1 ⟨d1, h1, w1, _, x1, v1, p1⟩ => ⟨w1, e, h1, p1.bind.imp fun y H2 ⟨d2, h2, w2, _, x2, v2, p2⟩ => ?_⟩⟩
  obtain ⟨i, rfl⟩ : ∃ i, d2 = .int i := by cases d2 <;> first | exact ⟨_, rfl⟩ | exact p2.po.elim
  exact ⟨i, vInt v2, σ, w2, e, h2, d1, v1.ext x2, p2⟩
theorem se_slt {p2 : Pos} (ha : SE X px W a fa) (hb : SE X px W b fb) : SE X px W (.Subscript a (.Slice none (some b) none p2) pos) (fun e h => (fa e h).bind fun x h => (fb e h).bind fun y h => (match y with
    | .int i => R.of (dSl x none (some i)) h
    | _ => .bad)) := by
  refine PE.of (pe_slice (sl_D (px := px) (W := W)) ha po_none (po_some hb)) fun σ H Q ⟨w, e, h, p⟩ => ?_
  refine ⟨w, e, h, p.bind.imp fun x H1 ⟨d1, h1, w1, _, x1, v1, p1⟩ => ⟨w1, e, h1, p1.bind.imp fun y H2 ⟨d2, h2, w2, _, x2, v2, p2⟩ => ?_⟩⟩
  obtain ⟨i, rfl⟩ : ∃ i, d2 = .int i := by cases d2 <;> first | exact ⟨_, rfl⟩ | exact p2.po.elim
  exact ⟨i, vInt v2, σ, w2, e, h2, d1, v1.ext x2, p2⟩

/-! ### calls of built-ins -/
theorem se_callB {x : Str} {id : String} {bi : Bi} {p : Pos} (hc : CallR X (.builtin id) (rBi X.K px W bi)) (hg : Gl X x) (hm : X.mg x = none) (hv : bootBuiltins x = some (.builtin id)) (ha : SA X px W (a :: es) fr) (hs : (a :: es).all nst = true)
    (hn : x ≠ "__name__") (hdb : (x == ("__debug__" : Str)) = false) : SE X px W (.Call (.Name x p) (a :: es) [] pos) (fun e h => (fr e h).bind fun ds h => R.of (dBi bi ds) h) := by
  rw [List.all_cons, Bool.and_eq_true] at hs
  refine PE.of (pe_callB hc hg hm hv ha hn hdb (star_ok hs.1) (stars_any hs.2)) fun σ H Q ⟨w, e, h, p⟩ => ?_
  exact ⟨w, e, h, p.bind.imp fun x H1 ⟨d1, h1, w1, _, x1, v1, p1⟩ => ⟨σ, w1, e, h1, d1, v1, p1⟩⟩
theorem se_callTy {x : Str} {T : String} {bi : Bi} {p : Pos} (hc : CallR X (.type T) (rBi X.K px W bi)) (hg : Gl X x) (hm : X.mg x = none) (hv : bootBuiltins x = some (.type T)) (ha : SA X px W (a :: es) fr) (hs : (a :: es).all nst = true)
    (hn : x ≠ "__name__") (hdb : (x == ("__debug__" : Str)) = false) : SE X px W (.Call (.Name x p) (a :: es) [] pos) (fun e h => (fr e h).bind fun ds h => R.of (dBi bi ds) h) := by
  rw [List.all_cons, Bool.and_eq_true] at hs
  refine PE.of (pe_callTy hc hg hm hv ha hn hdb (star_ok hs.1) (stars_any hs.2)) fun σ H Q ⟨w, e, h, p⟩ => ?_
  exact ⟨w, e, h, p.bind.imp fun x H1 ⟨d1, h1, w1, _, x1, v1, p1⟩ => ⟨σ, w1, e, h1, d1, v1, p1⟩⟩
/-- o.m(e), m a method of lists or texts -/
def meTy : Bi → String
  | .join => "str"
  | .split => "str"
  | .partition => "str"
  | _ => "list"
theorem rcv_ty {K : PySem.W.Frag} {w : Wd} {H : Hp} {m : Bi} {d : D} {v : V} (h : VT K w H d v) (k : rcvOk m d = true) : tyV K (meTy m) v H := by
  have go : (meTy m = "list") → d.ls?.isSome = true → tyV K (meTy m) v H := by
    intro e k
    obtain ⟨ds, hd⟩ := Option.isSome_iff_exists.mp k
    obtain ⟨a, xs, rfl, hq, _⟩ := h.ls hd
    exact .inl ⟨e, xs, hq⟩
  cases m <;> first
    | exact go rfl k
    | (cases d <;> first | (cases k; done) | (obtain rfl := vStr h; rfl))
def fMe (m : Bi) (fa fb : Ev → Hs → R D) : Ev → Hs → R D := fun e h => (fa e h).bind fun x h => if rcvOk m x then (fb e h).bind fun y h => R.of (dBi m [x, y]) h else .bad
theorem se_meth {mn : Str} {id : String} {m : Bi} {cpos : Pos} (pa : PlainAttrs (meTy m)) (slot : Slot (meTy m) mn id) (hty : typeOf (.builtin id) = pure (.type "method_descriptor")) (hm : MtR X id (fun x xs H Q => rBi X.K px W m (x :: xs) H Q))
    (ha : SE X px W a fa) (hb : SE X px W b fb) (hr : rcv a = true) (hs : nst b = true) (hl : (apos.endLine == cpos.line) = true) :
    SE X px W (.Call (.Attribute a mn apos) [b] [] cpos) (fMe m fa fb) := by
  have hst : starEach [b] X.env = (false, eval b X.env) :: starEach [] X.env := star_ok hs
  refine PE.of (pe_bm pa slot hty hm ha (sa_cons hb sa_nil hst) (base_ok hr) ?_ hl hst rfl) fun σ H Q ⟨w, e, h, p⟩ => ?_
  · rw [hst]; rfl
  refine ⟨w, e, h, p.bind.imp fun x H1 ⟨d1, h1, w1, _, x1, v1, p1⟩ => ?_⟩
  split at p1
  · rename_i hk
    refine ⟨rcv_ty v1 hk, w1, e, h1, ?_⟩
    refine ⟨p1.rr, ?_⟩
    have q := p1.po
    show Post X.K px W σ (relVs X.K) w1 H1 _ ((fb e h1).bind fun x h => (R.ok [] h).bind fun xs h => R.ok (x :: xs) h)
    cases e1 : fb e h1 with
    | bad => rw [e1] at q; exact q
    | exc x h2 => rw [e1] at q; exact q
    | ok d2 h2 =>
      rw [e1] at q
      simp only [R.bind_ok] at q ⊢
      intro vs w2 H2 y1 y2 y3 y4
      cases y4 with
      | cons y4 y5 =>
        cases y5
        exact ⟨σ, w2, e, h2, [d1, d2], .cons (v1.ext y1) (.cons y4 .nil), p1.rr.ext y1 y2 y3, Post.later q y1⟩
  · exact p1.po.elim
/-! ### isinstance(a, T) -/
theorem se_isi {t : Ty} {x : Str} {p p2 : Pos} (ht : plainTy t = true) (hg : Gl X "isinstance") (hm : X.mg "isinstance" = none) (hgt : Gl X x) (hmt : X.mg x = none) (hv : bootBuiltins x = some (.type (tyOf t))) (hn : x ≠ "__name__") (hd : (x == ("__debug__" : Str)) = false)
    (ha : SE X px W a fa) (hs : nst a = true) : SE X px W (.Call (.Name "isinstance" p) [a, .Name x p2] [] pos) (fun e h => (fa e h).bind fun x h => R.of ((dIsi t x).map .bl) h) := by
  have hc : CallR X (.builtin "isinstance") (fun vs H Q => ∃ σ w e h d v, vs = [v, .ty (tyOf t)] ∧ VT X.K w H d v ∧ Pre X.K px W σ (relV X.K) w e h H Q (R.of ((dIsi t d).map .bl) h)) := by
    intro pins s σ H vs us Q I r q
    obtain ⟨σ', w, e, h, d, v, rfl, hv, p0⟩ := q
    obtain ⟨d', ed, p⟩ := p0.nobad
    obtain ⟨u1, u2, rfl, r1, r2⟩ := vals2 r
    cases r2
    cases e1 : dIsi t d with
    | none => rw [e1] at ed; cases ed
    | some k =>
      rw [e1] at ed
      cases ed
      exact nr_reads I hv r1 ht e1 fun tk => ⟨.bl k, H, I.tok tk, rfl, p.done (.bl _)⟩
  have hta : PA X [.Name x p2] (tCons (tC (.ty (tyOf t))) tNil) := pa_cons (pe_bltn hgt hmt hv rfl hn hd) pa_nil
  refine PE.of (pe_callB hc hg hm (by decide +kernel) (pa_cons ha hta (star_ok hs)) (by decide) (by decide) (star_ok hs)) fun σ H Q ⟨w, e, h, p⟩ => ?_
  refine ⟨w, e, h, p.bind.imp fun v H1 ⟨d1, h1, w1, _, x1, v1, p1⟩ => ?_⟩
  exact ⟨σ, w1, e, h1, d1, v, rfl, v1, p1⟩
end
end Tv
end

section
set_option autoImplicit false
set_option maxHeartbeats 1000000
/-! What is walked, targets, comprehensions. -/
namespace Tv
open PySem PySem.Spec PyProof.Rows L2
/-! ### names' slots -/
theorem Ev.length_put : ∀ (e : Ev) (i : Nat) (x : Sl), (e.put i x).length = e.length
  | [], _, _ => rfl
  | _ :: r, 0, _ => rfl
  | _ :: r, n + 1, x => congrArg (· + 1) (Ev.length_put r n x)
theorem Ev.get_put_ne : ∀ (e : Ev) {i j : Nat} (x : Sl), i ≠ j → (e.put i x).get j = e.get j
  | [], _, _, _, _ => rfl
  | _ :: r, 0, 0, _, h => absurd rfl h
  | _ :: r, 0, j + 1, _, h => rfl
  | _ :: r, n + 1, 0, _, h => rfl
  | _ :: r, n + 1, j + 1, x, h => Ev.get_put_ne r x fun e => h (congrArg (· + 1) e)
theorem Ev.get_put : ∀ (e : Ev) (i : Nat) (x : Sl), (e.put i x).get i = .u ∨ (i < e.length ∧ (e.put i x).get i = x)
  | [], _, _ => .inl rfl
  | _ :: r, 0, x => .inr ⟨by simp, rfl⟩
  | _ :: r, n + 1, x => by
    rcases Ev.get_put r n x with h | ⟨h1, h2⟩
    · exact .inl h
    · exact .inr ⟨by simpa using h1, h2⟩
section
variable {K : PySem.W.Frag} {w w' : Wd} {e : Ev} {σ : L2.St} {H H' : Hp}
theorem ER.putI (r : ER K w e σ H) {i : Nat} {x : Sl} {y : Option V} (h : i < e.length → SlR K w H i (some y) x) : ER K w (e.put i x) (σ.set i y) H where
  len := by rw [Ev.length_put, List.length_set]; exact r.len
  wl := by rw [List.length_set]; exact r.wl
  sl := fun j => by
    by_cases hj : i = j
    · subst hj
      rcases Ev.get_put e i x with q | ⟨q1, q2⟩
      · rw [q]; trivial
      · rw [q2, List.getElem?_set_self (by rw [← r.len]; exact q1)]
        exact h q1
    · rw [Ev.get_put_ne e x hj, List.getElem?_set_ne hj]
      exact r.sl j
  inj := r.inj
  ot := r.ot
theorem ER.put (r : ER K w e σ H) (i : Nat) {d : D} {v : V} (h : VS K w H d v) : ER K w (e.put i (.v d)) (σ.set i (some v)) H := r.putI fun _ => ⟨v, rfl, h⟩
theorem ER.wipe (r : ER K w e σ H) : ∀ vs : List Nat, ER K w (e.wipe vs) (L2.wipe σ vs) H
  | [] => r
  | v :: vs => (ER.wipe r vs).putI fun _ => trivial
end
theorem set_wipe {σ : L2.St} {x : Option V} {i : Nat} : ∀ {vs : List Nat}, i ∈ vs → L2.wipe (σ.set i x) vs = L2.wipe σ vs
  | v :: vs, h => by
    have go : ∀ (vs : List Nat), (L2.wipe (σ.set i x) vs).set i none = (L2.wipe σ vs).set i none := by
      intro vs
      induction vs with
      | nil => show (σ.set i x).set i none = σ.set i none; rw [List.set_set]
      | cons u us ih =>
        show ((L2.wipe (σ.set i x) us).set u none).set i none = ((L2.wipe σ us).set u none).set i none
        by_cases hu : u = i
        · subst hu; rw [List.set_set, List.set_set]; exact ih
        · rw [List.set_comm _ _ hu, List.set_comm _ _ hu, ih]
    show (L2.wipe (σ.set i x) vs).set v none = (L2.wipe σ vs).set v none
    by_cases hv : v = i
    · subst hv; exact go vs
    · rcases List.mem_cons.mp h with e | h
      · exact absurd e.symm hv
      · rw [set_wipe h]
theorem wipe_wipe {σ : L2.St} : ∀ (vs us : List Nat), (∀ u ∈ us, u ∈ vs) → L2.wipe (L2.wipe σ us) vs = L2.wipe σ vs
  | vs, [], _ => rfl
  | vs, u :: us, h => by
    show L2.wipe ((L2.wipe σ us).set u none) vs = _
    rw [set_wipe (h u List.mem_cons_self)]
    exact wipe_wipe vs us fun z hz => h z (List.mem_cons_of_mem _ hz)
/-- slots that were set -/
def sets (σ : L2.St) (l : List (Nat × V)) : L2.St := l.foldl (fun σ p => σ.set p.1 (some p.2)) σ
theorem sets_wipe {vs : List Nat} : ∀ (l : List (Nat × V)) (σ : L2.St), (∀ p ∈ l, p.1 ∈ vs) → L2.wipe (sets σ l) vs = L2.wipe σ vs
  | [], _, _ => rfl
  | p :: l, σ, h => by
    show L2.wipe (sets (σ.set p.1 (some p.2)) l) vs = _
    rw [sets_wipe l _ fun q hq => h q (List.mem_cons_of_mem _ hq), set_wipe (h p List.mem_cons_self)]
/-! ### targets -/
def T.is : T → List Nat
  | .n i => [i]
  | .t is => is
def rdG (K : PySem.W.Frag) (T : T) : TG := fun v σ H Q => ∃ w e d e', VR K w H d v ∧ ER K w e σ H ∧ putT T d e = some e' ∧ ∀ σ' l, σ' = sets σ l → (∀ p ∈ l, p.1 ∈ T.is) → ER K w e' σ' H → Q σ' H
abbrev SG (X : Cx) (t : Expr) (T : T) : Prop := PG X t (rdG X.K T)
theorem PG.of {X : Cx} {e : Expr} {t t' : TG} (h : PG X e t) (i : ∀ v σ H Q, t' v σ H Q → t v σ H Q) : PG X e t' := ⟨fun pins s σ H v u Q I r q => h.run pins s σ H v u Q I r (i v σ H Q q)⟩
theorem PGs.of {X : Cx} {e : List Expr} {t t' : TGs} (h : PGs X e t) (i : ∀ v σ H Q, t' v σ H Q → t v σ H Q) : PGs X e t' := ⟨fun pins s σ H v u Q I r q => h.run pins s σ H v u Q I r (i v σ H Q q)⟩
/-- a name that may be stored -/
def NmOk (X : Cx) (x : Str) (i : Nat) : Prop := X.N[i]? = some x ∧ Loc X.env.scope x ∧ (X.fn x = true ∨ X.env.scope.names.lookup x = some .local)
section
variable {X : Cx} {pos : Pos}
theorem sg_name {x : Str} {i : Nat} (hN : X.N.Nodup) (h : NmOk X x i) : SG X (.Name x pos) (.n i) := by
  refine PG.of (pg_name hN h.1 h.2.1 h.2.2) fun v σ H Q ⟨w, e, d, e', hv, he, hp, hq⟩ => ?_
  have hp : (if d.keep = true then some (e.put i (.v d)) else none) = some e' := hp
  split at hp
  · cases hp
    exact hq _ [(i, v)] rfl (by simp [T.is]) (he.put i (.of hv))
  · cases hp
inductive NmsOk (X : Cx) : List Expr → List Nat → Prop
  | nil : NmsOk X [] []
  | cons {x : Str} {p : Pos} {i : Nat} {es : List Expr} {is : List Nat} : NmOk X x i → NmsOk X es is → NmsOk X (.Name x p :: es) (i :: is)
def putsE (e : Ev) (l : List (Nat × D)) : Ev := l.foldl (fun e p => e.put p.1 (.v p.2)) e
def rdGs (K : PySem.W.Frag) (is : List Nat) : TGs := fun vs σ H Q => ∃ w e ds, VRs K w H ds vs ∧ ER K w e σ H ∧ ds.length = is.length ∧ ∀ σ' l, σ' = sets σ l → (∀ p ∈ l, p.1 ∈ is) → ER K w (putsE e (is.zip ds)) σ' H → Q σ' H
theorem sgs {es : List Expr} {is : List Nat} (hN : X.N.Nodup) (h : NmsOk X es is) : PGs X es (rdGs X.K is) := by
  induction h with
  | nil =>
    refine PGs.of pgs_nil fun v σ H Q ⟨w, e, ds, hv, he, hl, hq⟩ => ?_
    cases hv with
    | nil => exact ⟨rfl, hq σ [] rfl (by simp) he⟩
    | cons => cases hl
  | @cons x p i es is h1 h2 ih =>
    refine PGs.of (pgs_cons (pg_name hN h1.1 h1.2.1 h1.2.2) ih) fun v σ H Q ⟨w, e, ds, hv, he, hl, hq⟩ => ?_
    cases hv with
    | nil => cases hl
    | @cons d v ds vs a b =>
      refine ⟨v, vs, rfl, w, e.put i (.v d), ds, b, he.put i (.of a), by simpa using hl, fun σ' l hs hm he' => hq σ' ((i, v) :: l) hs (fun p hp => ?_) he'⟩
      rcases List.mem_cons.mp hp with z | z
      · rw [z]; exact List.mem_cons_self
      · exact List.mem_cons_of_mem _ (hm p z)
theorem NmsOk.len {es : List Expr} {is : List Nat} (h : NmsOk X es is) : (assignEach es X.env).length = is.length := by
  induction h with
  | nil => rfl
  | @cons x p i es is h1 h2 ih => exact congrArg (· + 1) ih
theorem find_none {α : Type} {p : α → Bool} : ∀ {l : List α}, (∀ a ∈ l, p a = false) → l.findIdx? p = none
  | [], _ => rfl
  | a :: l, h => by
    rw [List.findIdx?_cons, h a List.mem_cons_self]
    rw [find_none fun b hb => h b (List.mem_cons_of_mem _ hb)]
    rfl
theorem NmsOk.nost {es : List Expr} {is : List Nat} (h : NmsOk X es is) : ∀ q ∈ assignEach es X.env, q.1 = false := by
  induction h with
  | nil => intro q hq; cases hq
  | @cons x p i es is h1 h2 ih =>
    intro q hq
    have hq : q ∈ (false, assign (.Name x p) X.env) :: assignEach es X.env := hq
    rcases List.mem_cons.mp hq with z | z
    · rw [z]
    · exact ih q z
theorem putT_t {is : List Nat} {d : D} {e e' : Ev} (h : putT (.t is) d e = some e') : ∃ ds, d = .tup ds ∧ ds.length = is.length ∧ e' = putsE e (is.zip ds) := by
  unfold putT at h
  cases d <;> try (cases h; done)
  dsimp only at h
  split at h
  · cases h
    exact ⟨_, rfl, by assumption, rfl⟩
  · cases h
theorem sg_tup {es : List Expr} {is : List Nat} {k : Nat} (hc : X.calm = true) (hN : X.N.Nodup) (h : NmsOk X es is) : SG X (.Tuple es k pos) (.t is) := by
  refine PG.of (pg_tup (n := is.length) hc (sgs hN h) h.len (find_none h.nost)) fun v σ H Q ⟨w, e, d, e', hv, he, hp, hq⟩ => ?_
  obtain ⟨ds, rfl, hl, rfl⟩ := putT_t hp
  cases hv with
  | @tup a xs _ q r => exact ⟨a, xs, rfl, sqt q, by rw [← r.length]; exact hl, w, e, ds, r, he, hl, hq⟩
end
end Tv
end

section
set_option autoImplicit false
set_option maxHeartbeats 1000000
/-! What is walked. -/
namespace Tv
open PySem PySem.Spec PyProof.Rows L2
/-- what a walk's parts stand: any step (st), or an expression's -/
def XX (st : Bool) (w : Wd) (H : Hp) (w' : Wd) (H' : Hp) : Prop := if st = true then ExtS w H w' H' else Ext w H w' H'
theorem XX.s {st : Bool} {w w' : Wd} {H H' : Hp} (x : XX st w H w' H') : ExtS w H w' H' := by
  cases st with
  | true => exact x
  | false => exact Ext.s x
theorem XX.of {st : Bool} {w w' : Wd} {H H' : Hp} (x : Ext w H w' H') : XX st w H w' H' := by
  cases st with
  | true => exact x.s
  | false => exact x
theorem XX.trans {st : Bool} {w w1 w2 : Wd} {H H1 H2 : Hp} (a : XX st w H w1 H1) (b : XX st w1 H1 w2 H2) : XX st w H w2 H2 := by
  cases st with
  | true => exact ExtS.trans a b
  | false => exact Ext.trans a b
/-- a new tuple, or nothing -/
def Nw (H H' : Hp) : Prop := H' = H ∨ ∃ T xs, H T = none ∧ H' = upd H T (.tup xs)
theorem Ext.new0 {w : Wd} {H : Hp} {p : Addr} {o : HO} (hp : H p = none) : Ext w H w (upd H p o) := by
  refine ⟨⟨[], by simp, fun _ h => by cases h⟩, rfl, fun _ h => h, fun _ h => .inl h, fun a u q _ _ => by rw [upd_ne (ne_of_none q hp)]; exact q, fun a xs q => ?_, fun a q => ?_⟩
  · rw [upd_ne (ne_of_none q hp)]; exact q
  · by_cases ha : a = p
    · rw [ha]; exact hp
    · rw [upd_ne ha] at q; exact q
theorem Nw.ext {w : Wd} {H H' : Hp} (n : Nw H H') : Ext w H w H' := by
  rcases n with rfl | ⟨T, xs, h, rfl⟩
  · exact Ext.refl _ _
  · exact Ext.new0 h
structure IR (K : PySem.W.Frag) (st : Bool) (w : Wd) (H : Hp) (ds : List D) (J : L2.It) : Prop where
  ex : ∃ G Y, Walk J ds.length G Y ∧ (∀ w' H', XX st w H w' H' → G H') ∧ ∀ (i : Nat) (w' : Wd) (H' : Hp) (v : V) (H'' : Hp), i < ds.length → XX st w H w' H' → Y i H' v H'' → ∃ d, ds[i]? = some d ∧ Nw H' H'' ∧ VR K w' H'' d v
abbrev relI (K : PySem.W.Frag) (st : Bool) : Wd → Hp → List D → L2.It → Prop := fun w H ds J => IR K st w H ds J
def rdI (K : PySem.W.Frag) (px : Px) (W : WX) (st : Bool) (f : Ev → Hs → R (List D)) : TI := fun σ H Q => ∃ w e h, Pre K px W σ (relI K st) w e h H Q (f e h)
abbrev SI (X : Cx) (px : Px) (W : WX) (st : Bool) (tg e : Expr) (f : Ev → Hs → R (List D)) : Prop := PI X tg e (rdI X.K px W st f)
theorem PI.of {X : Cx} {tg e : Expr} {t t' : TI} (h : PI X tg e t) (i : ∀ σ H R, t' σ H R → t σ H R) : PI X tg e t' := ⟨fun pins s σ H R I q => h.run pins s σ H R I (i σ H R q)⟩
/-- anything that may be walked -/
def iAny (K : PySem.W.Frag) (te : TE) : TI := fun σ H R => te σ H fun x H1 => (∃ a xs, x = .ref a ∧ SqL K H1 a xs ∧ R (Itl K a) H1) ∨ (∃ a xs, x = .ref a ∧ SqT K H1 a xs ∧ R (Itt K a) H1) ∨ ∃ z, x = .str z ∧ R (Its z) H1
theorem pi_any {X : Cx} {tg l : Expr} {tl : TE} (hl : PE X l tl) : PI X tg l (iAny X.K tl) := by
  refine ⟨fun pins s σ H R I h => ?_⟩
  refine thn (hl.run pins s σ H _ I h) fun v s1 ⟨x, H1, I1, r1, q1⟩ => ?_
  rcases q1 with ⟨a, xs, e, hq, q⟩ | ⟨a, xs, e, hq, q⟩ | ⟨z, e, q⟩
  · subst e
    cases r1
    obtain ⟨its, rv, p, hz⟩ := I1.list hq
    refine wpAny_pyIter_list p.isList ?_
    refine ⟨s1.heap.objs.size, [s1.heap.objs.size], _, _, H1, rfl, I1.kept (t' := s1.toks) fun b o e => Heap.get?_push_of_some _ e, turn_list a _, ⟨_, Heap.get?_push_size _ rfl, rfl, rfl⟩, fun b hb => ?_, q⟩
    have e : b = s1.heap.objs.size := by simpa using hb
    subst e
    exact I1.fpOk (Nat.le_refl _) (I1.hok.fresh (Nat.le_refl _))
  · subst e
    cases r1
    obtain ⟨its, rv, p, hz⟩ := I1.tuple hq
    refine wpAny_pyIter_tuple (show s1.heap.IsTuple a its.toArray from p) ?_
    refine ⟨s1.heap.objs.size, [s1.heap.objs.size], _, _, H1, rfl, I1.kept (t' := s1.toks) fun b o e => Heap.get?_push_of_some _ e, turn_tuple a _, ⟨_, Heap.get?_push_size _ rfl, rfl, rfl⟩, fun b hb => ?_, q⟩
    have e : b = s1.heap.objs.size := by simpa using hb
    subst e
    exact I1.fpOk (Nat.le_refl _) (I1.hok.fresh (Nat.le_refl _))
  · subst e
    obtain ⟨t, rfl⟩ := r1
    cases ha : z.cps.all (· < 128)
    · exact wpAny_pyIter_wide ha (pi_one (tk := s1.toks) I1 _ (turn_str _ z t "str_iterator" (.inr rfl)) ⟨_, Heap.get?_push_size _ rfl, rfl, rfl⟩ q)
    · exact wpAny_pyIter_ascii ha (pi_one (tk := s1.toks) I1 _ (turn_str _ z t "str_ascii_iterator" (.inl rfl)) ⟨_, Heap.get?_push_size _ rfl, rfl, rfl⟩ q)
section
variable {K : PySem.W.Frag} {st : Bool} {w : Wd} {H : Hp}
theorem VRs.at_ {ds : List D} {vs : List V} (h : VRs K w H ds vs) : ∀ {i : Nat} {v : V}, vs[i]? = some v → ∃ d, ds[i]? = some d ∧ VR K w H d v := by
  intro i
  induction i generalizing ds vs with
  | zero =>
    intro v hv
    cases h with
    | nil => cases hv
    | cons a b => cases hv; exact ⟨_, rfl, a⟩
  | succ n ih =>
    intro v hv
    cases h with
    | nil => cases hv
    | cons a b => exact ih b hv
theorem ir_list {a : Addr} {xs : List V} {ds : List D} (hq : ∀ w' H', XX st w H w' H' → SqL K H' a xs) (r : VRs K w H ds xs) : IR K st w H ds (Itl K a) := by
  refine ⟨_, (YAt xs), ?_, hq, fun i w' H' v H'' hi x y => ?_⟩
  · rw [r.length]; exact walk_list
  · obtain ⟨e, y⟩ := y
    subst e
    obtain ⟨d, h1, h2⟩ := r.at_ y
    exact ⟨d, h1, .inl rfl, h2.exts x.s⟩
theorem ir_tup {a : Addr} {xs : List V} {ds : List D} (hq : ∀ w' H', XX st w H w' H' → SqT K H' a xs) (r : VRs K w H ds xs) : IR K st w H ds (Itt K a) := by
  refine ⟨_, (YAt xs), ?_, hq, fun i w' H' v H'' hi x y => ?_⟩
  · rw [r.length]; exact walk_tup
  · obtain ⟨e, y⟩ := y
    subst e
    obtain ⟨d, h1, h2⟩ := r.at_ y
    exact ⟨d, h1, .inl rfl, h2.exts x.s⟩
theorem ir_str {z : Str} : IR K st w H (z.cps.toList.map fun c => D.str ⟨#[c]⟩) (Its z) := by
  refine ⟨_, (fun i H v H' => H' = H ∧ ∃ c, z.cps[i]? = some c ∧ v = .str ⟨#[c]⟩), ?_, fun _ _ _ => trivial, fun i w' H' v H'' hi x y => ?_⟩
  · rw [List.length_map, Array.length_toList]; exact walk_str
  · obtain ⟨e, c, hc, rfl⟩ := y
    subst e
    refine ⟨.str ⟨#[c]⟩, ?_, .inl rfl, .str _⟩
    rw [List.getElem?_map, Array.getElem?_toList, hc]; rfl
/-- a list that may be walked stays -/
theorem VT.sqs {d : D} {v : V} {ds : List D} (h : VT K w H d v) (hs : ∀ a, a ∈ w.hp → some a ∉ w.ow) (hb : (st && isBor d) = false) (k : d.sq? = some ds) :
    ∃ a xs, v = .ref a ∧ VRs K w H ds xs ∧ ((d.ls? = some ds ∧ ∀ w' H', XX st w H w' H' → SqL K H' a xs) ∨ (d = .tup ds ∧ ∀ w' H', XX st w H w' H' → SqT K H' a xs)) := by
  cases h with
  | of h =>
    cases h with
    | of h =>
      cases h with
      | @lst a xs ds n q r =>
        cases k
        exact ⟨a, xs, rfl, r, .inl ⟨rfl, fun w' H' x => .inl (.inl (x.s.keep _ _ q (fun z => n (.inl z)) (fun z => n (.inr (.inl z))) fun ps e => by cases e))⟩⟩
      | @tup a xs ds q r =>
        cases k
        refine ⟨a, xs, rfl, r, .inr ⟨rfl, fun w' H' x => ?_⟩⟩
        exact .inl (.inl (x.s.tups _ _ q))
      | _ => cases k
    | @scr a xs ds n1 n2 q r =>
      cases k
      refine ⟨a, xs, rfl, r, .inl ⟨rfl, fun w' H' x => ?_⟩⟩
      rcases q with q | ⟨o, q⟩
      · exact .inl (.inl (x.s.keep _ _ q n1 n2 fun ps e => by cases e))
      · exact .inl (.inr ⟨o, x.s.keep _ _ q n1 n2 fun ps e => by cases e⟩)
    | @scrK a xs ds q r =>
      cases k
      exact ⟨a, xs, rfl, r, .inl ⟨rfl, fun w' H' x => .inr q⟩⟩
  | @bor a xs ds m n q r =>
    cases k
    have e : st = false := by
      cases st with
      | false => rfl
      | true => cases hb
    subst e
    refine ⟨a, xs, rfl, r, .inl ⟨rfl, fun w' H' x => ?_⟩⟩
    exact .inl (.inl (Ext.keep x _ _ q n fun ps e => by cases e))
theorem nb_some {d d' : D} (h : nb st d = some d') : d' = d ∧ (st && isBor d) = false := by
  unfold nb at h
  split at h
  · cases h
  · rename_i q
    cases h
    exact ⟨rfl, by simpa using q⟩
theorem zip_len : ∀ xs ys : List D, (zipD xs ys).length = min xs.length ys.length
  | [], _ => by simp [zipD]
  | _ :: _, [] => by simp [zipD]
  | x :: xs, y :: ys => by
    show (zipD xs ys).length + 1 = _
    rw [zip_len xs ys]
    simp only [List.length_cons]
    omega
theorem zip_at : ∀ {xs ys : List D} {i : Nat} {x y : D}, xs[i]? = some x → ys[i]? = some y → (zipD xs ys)[i]? = some (.tup [x, y])
  | [], _, _, _, _, h, _ => by simp at h
  | _ :: _, [], _, _, _, _, h => by simp at h
  | x :: xs, y :: ys, 0, _, _, h1, h2 => by cases h1; cases h2; rfl
  | x :: xs, y :: ys, i + 1, _, _, h1, h2 => zip_at (xs := xs) (ys := ys) (i := i) h1 h2
theorem vr_pair {w' : Wd} {H' : Hp} {T : Addr} {x y : D} {v u : V} (h : H' T = none) (h1 : VR K w' H' x v) (h2 : VR K w' H' y u) : VR K w' (upd H' T (.tup [v, u])) (.tup [x, y]) (.ref T) :=
  .tup (upd_same ..) (.cons (h1.ext (Ext.new0 h)) (.cons (h2.ext (Ext.new0 h)) .nil))
theorem ir_zip {J : L2.It} {xs ys : List V} {ds es : List D} {G : Hp → Prop} (hw : Walk J (min xs.length ys.length) G (YPair (fun i => xs[i]?) (fun i => ys[i]?))) (hg : ∀ w' H', XX st w H w' H' → G H') (r : VRs K w H ds xs) (r2 : VRs K w H es ys) : IR K st w H (zipD ds es) J := by
  refine ⟨G, (YPair (fun i => xs[i]?) (fun i => ys[i]?)), ?_, hg, fun i w' H' v H'' hi x y => ?_⟩
  · rw [zip_len, r.length, r2.length]; exact hw
  · obtain ⟨T, x1, y1, rfl, hT, rfl, hx, hy⟩ := y
    obtain ⟨d1, e1, v1⟩ := r.at_ hx
    obtain ⟨d2, e2, v2⟩ := r2.at_ hy
    exact ⟨_, zip_at e1 e2, .inr ⟨T, _, hT, rfl⟩, vr_pair hT (v1.exts x.s) (v2.exts x.s)⟩
theorem walk_zipT {a b : Addr} {xs ys : List V} {n : Nat} (hn : n = min xs.length ys.length) : Walk (RZ.ItzT K a b) n (fun H => SqT K H a xs ∧ SqT K H b ys) (YPair (fun i => xs[i]?) (fun i => ys[i]?)) := by
  subst hn
  refine ⟨fun i _ hi q => ?_, fun _ q => ⟨xs, ys, q.1, q.2, by omega⟩, fun i H v H' _ q y => ?_⟩
  · have h1 : i < xs.length := by omega
    have h2 : i < ys.length := by omega
    exact ⟨xs, ys, xs[i], ys[i], q.1, q.2, by simp [h1], by simp [h2]⟩
  · obtain ⟨T, x, z, h1, h2, h3, h4, h5⟩ := y
    exact ⟨T, x, z, h1, h2, h3, h4 xs q.1, h5 ys q.2⟩
theorem sq_of_ls {d : D} {xs : List D} (h : d.ls? = some xs) : d.sq? = some xs := by
  cases d <;> first | (cases h; done) | (cases h; rfl)
def ZipG (X : Cx) (R : L2.It → Hp → Prop) (H : Hp) (vs : List V) : Prop := ∃ a b xs ys, vs = [.ref a, .ref b] ∧ ((SqL X.K H a xs ∧ SqL X.K H b ys ∧ R (Itz X.K a b) H) ∨ (SqT X.K H a xs ∧ SqT X.K H b ys ∧ R (RZ.ItzT X.K a b) H))
theorem enm_len : ∀ (i : Nat) (xs : List D), (enmD i xs).length = xs.length
  | _, [] => rfl
  | i, x :: xs => congrArg (· + 1) (enm_len (i + 1) xs)
theorem enm_at : ∀ {xs : List D} {k i : Nat} {x : D}, xs[i]? = some x → (enmD k xs)[i]? = some (.tup [.int ((k + i : Nat) : Int), x])
  | [], _, _, _, h => by simp at h
  | x :: xs, k, 0, _, h => by cases h; rfl
  | x :: xs, k, i + 1, _, h => by
    have q := enm_at (xs := xs) (k := k + 1) (i := i) h
    rw [show k + 1 + i = k + (i + 1) by omega] at q
    exact q
theorem ir_enm {a : Addr} {xs : List V} {ds : List D} (hq : ∀ w' H', XX st w H w' H' → SqL K H' a xs) (r : VRs K w H ds xs) : IR K st w H (enmD 0 ds) (Ite K a) := by
  refine ⟨_, (YPair (fun i => some (.int (i : Nat))) (fun i => xs[i]?)), ?_, hq, fun i w' H' v H'' hi x y => ?_⟩
  · rw [enm_len, r.length]; exact walk_enum
  · obtain ⟨T, x1, y1, rfl, hT, rfl, hx, hy⟩ := y
    cases hx
    obtain ⟨d2, e2, v2⟩ := r.at_ hy
    have q := enm_at (k := 0) e2
    rw [Nat.zero_add] at q
    exact ⟨_, q, .inr ⟨T, _, hT, rfl⟩, vr_pair hT (.int _) (v2.exts x.s)⟩
theorem ir_enmT {a : Addr} {xs : List V} {ds : List D} (hq : ∀ w' H', XX st w H w' H' → SqT K H' a xs) (r : VRs K w H ds xs) : IR K st w H (enmD 0 ds) (IteT K a) := by
  refine ⟨_, (YPair (fun i => some (.int (i : Nat))) (fun i => xs[i]?)), ?_, hq, fun i w' H' v H'' hi x y => ?_⟩
  · rw [enm_len, r.length]; exact walk_enumT
  · obtain ⟨T, x1, y1, rfl, hT, rfl, hx, hy⟩ := y
    cases hx
    obtain ⟨d2, e2, v2⟩ := r.at_ hy
    have q := enm_at (k := 0) e2
    rw [Nat.zero_add] at q
    exact ⟨_, q, .inr ⟨T, _, hT, rfl⟩, vr_pair hT (.int _) (v2.exts x.s)⟩
theorem rangeL_len : ∀ (lo : Int) (n : Nat), (rangeL lo n).length = n
  | _, 0 => rfl
  | lo, n + 1 => congrArg (· + 1) (rangeL_len (lo + 1) n)
theorem rangeL_at : ∀ (lo : Int) {n i : Nat}, i < n → (rangeL lo n)[i]? = some (.int (lo + i))
  | lo, 0, i, h => by omega
  | lo, n + 1, 0, h => by show some (D.int lo) = _; simp
  | lo, n + 1, i + 1, h => by
    show (rangeL (lo + 1) n)[i]? = _
    rw [rangeL_at (lo + 1) (by omega : i < n)]
    congr 2; omega
theorem ir_range {lo : Int} {n : Nat} : IR K st w H (rangeL lo n) (Itr lo n) := by
  refine ⟨_, (YFn fun i => .int (lo + i)), ?_, fun _ _ _ => trivial, fun i w' H' v H'' hi x y => ?_⟩
  · rw [rangeL_len]; exact walk_range
  · rw [rangeL_len] at hi
    obtain ⟨rfl, rfl⟩ := y
    exact ⟨_, rangeL_at lo hi, .inl rfl, .int _⟩
theorem downL_len : ∀ (lo : Int) (n : Nat), (downL lo n).length = n
  | _, 0 => rfl
  | lo, n + 1 => congrArg (· + 1) (downL_len (lo - 1) n)
theorem downL_at : ∀ (lo : Int) {n i : Nat}, i < n → (downL lo n)[i]? = some (.int (lo + (i : Nat) * (-1)))
  | lo, 0, i, h => by omega
  | lo, n + 1, 0, h => by show some (D.int lo) = _; simp
  | lo, n + 1, i + 1, h => by
    show (downL (lo - 1) n)[i]? = _
    rw [downL_at (lo - 1) (by omega : i < n)]
    congr 2; omega
theorem ir_down {lo : Int} {n : Nat} : IR K st w H (downL lo n) (Itc lo (-1) n) := by
  refine ⟨_, (YFn fun i => .int (lo + (i : Nat) * (-1))), ?_, fun _ _ _ => trivial, fun i w' H' v H'' hi x y => ?_⟩
  · rw [downL_len]; exact walk_rangeC
  · rw [downL_len] at hi
    obtain ⟨rfl, rfl⟩ := y
    exact ⟨_, downL_at lo hi, .inl rfl, .int _⟩
end
section
variable {X : Cx} {px : Px} {W : WX} {st : Bool} {tg a b c : Expr} {fa fb fc : Ev → Hs → R D} {p pos tpos : Pos}
theorem si_seq (ha : SE X px W a fa) : SI X px W st tg a (fun e h => (fa e h).bind fun x h => R.of ((nb st x).bind itSeq) h) := by
  refine PI.of (pi_any ha) fun σ H R ⟨w, e, h, p⟩ => ⟨w, e, h, p.bind.imp fun x H1 ⟨d, h1, w1, _, x1, v1, p1⟩ => ?_⟩
  obtain ⟨ds, ed, p2⟩ := p1.nobad
  cases e1 : nb st d with
  | none => rw [e1] at ed; cases ed
  | some d' =>
    rw [e1] at ed
    obtain ⟨rfl, hb⟩ := nb_some e1
    have ed : itSeq d' = some ds := ed
    by_cases hs : ∃ z, d' = .str z
    · obtain ⟨z, rfl⟩ := hs
      cases ed
      exact .inr (.inr ⟨z, vStr v1, p2.done ir_str⟩)
    · have ed : d'.sq? = some ds := by
        unfold itSeq at ed
        cases d' <;> first | exact ed | exact absurd ⟨_, rfl⟩ hs
      obtain ⟨q, xs, rfl, r, ⟨_, hq⟩ | ⟨_, hq⟩⟩ := v1.sqs (fun a m => (p2.rr.hr.sep a m).1) hb ed
      · exact .inl ⟨q, xs, rfl, hq _ _ (XX.of (Ext.refl _ _)), p2.done (ir_list hq r)⟩
      · exact .inr (.inl ⟨q, xs, rfl, hq _ _ (XX.of (Ext.refl _ _)), p2.done (ir_tup hq r)⟩)
theorem inB_of {i : Int} (h : inB i = true) : -(2 ^ 62) ≤ i ∧ i < 2 ^ 62 := by unfold inB at h; exact of_decide_eq_true h
theorem itRng_of {a b : D} {ds : List D} (h : itRng a b = some ds) : ∃ i j : Int, a = .int i ∧ b = .int j ∧ (-(2 ^ 62) ≤ i ∧ i < 2 ^ 62) ∧ (-(2 ^ 62) ≤ j ∧ j < 2 ^ 62) ∧ ds = rangeL i (j - i).toNat := by
  unfold itRng at h
  cases a <;> try (cases h; done)
  cases b <;> try (cases h; done)
  dsimp only at h
  split at h
  · rename_i q
    rw [Bool.and_eq_true, Bool.and_eq_true] at q
    cases h
    exact ⟨_, _, rfl, rfl, inB_of q.1.1, inB_of q.1.2, rfl⟩
  · cases h
theorem si_rng (ha : SE X px W a fa) (hg : Gl X "range") (hm : X.mg "range" = none) (hs : nst a = true) : SI X px W st tg (.Call (.Name "range" p) [a] [] pos) (fun e h => (fa e h).bind fun x h => R.of (itRng (.int 0) x) h) := by
  refine PI.of (pi_range1 hg hm (pa_cons ha pa_nil (star_ok hs)) (star_ok hs)) fun σ H R ⟨w, e, h, p⟩ => ⟨w, e, h, p.bind.imp fun x H1 ⟨d, h1, w1, _, x1, v1, p1⟩ => ?_⟩
  obtain ⟨ds, ed, p2⟩ := p1.nobad
  obtain ⟨i, j, e1, rfl, hi, hj, rfl⟩ := itRng_of ed
  cases e1
  obtain rfl := vInt v1
  refine ⟨j, rfl, hj.1, hj.2, ?_⟩
  have q := p2.done (v := Itr 0 j.toNat) (by rw [show (j - 0 : Int) = j by omega]; exact ir_range)
  exact q
theorem si_rngs (ha : SE X px W a fa) (hb : SE X px W b fb) (hg : Gl X "range") (hm : X.mg "range" = none) (hs : nst a = true) (hs2 : nst b = true) : SI X px W st tg (.Call (.Name "range" p) [a, b] [] pos) (fun e h => (fa e h).bind fun x h => (fb e h).bind fun y h => R.of (itRng x y) h) := by
  have hs12 : [a, b].all nst = true := by simp [hs, hs2]
  refine PI.of (pi_range2 hg hm (pa_cons ha (pa_cons hb pa_nil (star_ok hs2)) (star_ok hs)) (by rw [star_ok hs, star_ok hs2]; rfl) (star_ok hs2)) fun σ H R ⟨w, e, h, p⟩ => ⟨w, e, h, p.bind.imp fun x H1 ⟨d, h1, w1, _, x1, v1, p1⟩ => ⟨w1, e, h1, p1.bind.imp fun y H2 ⟨d2, h2, w2, _, x2, v2, p2⟩ => ?_⟩⟩
  obtain ⟨ds, ed, p3⟩ := p2.nobad
  obtain ⟨i, j, rfl, rfl, hi, hj, rfl⟩ := itRng_of ed
  obtain rfl := vInt v1
  obtain rfl := vInt v2
  exact ⟨i, j, rfl, ⟨hi.1, hi.2, hj.1, hj.2⟩, p3.done ir_range⟩
theorem si_rng3 (ha : SE X px W a fa) (hb : SE X px W b fb) (hc : SE X px W c fc) (hg : Gl X "range") (hm : X.mg "range" = none) (hs : nst a = true) (hs2 : nst b = true) (hs3 : nst c = true) : SI X px W st tg (.Call (.Name "range" p) [a, b, c] [] pos) (fun e h => (fa e h).bind fun x h => (fb e h).bind fun y h => (fc e h).bind fun z h => R.of (itDown x y z) h) := by
  refine PI.of (pi_range3 hg hm (pa_cons ha (pa_cons hb (pa_cons hc pa_nil (star_ok hs3)) (star_ok hs2)) (star_ok hs)) (star_ok hs) (stars_any (by simp [hs2, hs3]))) fun σ H R ⟨w, e, h, p⟩ => ⟨w, e, h, p.bind.imp fun x H1 ⟨d, h1, w1, _, x1, v1, p1⟩ => ⟨w1, e, h1, p1.bind.imp fun y H2 ⟨d2, h2, w2, _, x2, v2, p2⟩ => ⟨w2, e, h2, p2.bind.imp fun z H3 ⟨d3, h3, w3, _, x3, v3, p3⟩ => ?_⟩⟩⟩
  obtain ⟨ds, ed, p4⟩ := p3.nobad
  obtain ⟨i, rfl⟩ : ∃ i, d = .int i := by unfold itDown at ed; cases d <;> first | exact ⟨_, rfl⟩ | cases ed
  obtain ⟨j, rfl⟩ : ∃ i, d2 = .int i := by unfold itDown at ed; cases d2 <;> first | exact ⟨_, rfl⟩ | cases ed
  obtain ⟨k, rfl⟩ : ∃ i, d3 = .int i := by unfold itDown at ed; cases d3 <;> first | exact ⟨_, rfl⟩ | cases ed
  unfold itDown at ed
  dsimp only at ed
  split at ed
  · rename_i q
    rw [Bool.and_eq_true, Bool.and_eq_true, Bool.and_eq_true] at q
    cases ed
    have hi := inB_of q.1.1.1
    have hj := inB_of q.1.1.2
    have hk : k = -1 := of_decide_eq_true q.1.2
    subst hk
    obtain rfl := vInt v1
    obtain rfl := vInt v2
    obtain rfl := vInt v3
    exact ⟨i, j, -1, _, rfl, RgC.neg hi.1 hi.2 hj.1 hj.2, p4.done ir_down⟩
  · cases ed
theorem si_zip {elts : List Expr} {kk : Nat} (ha : SE X px W a fa) (hb : SE X px W b fb) (hg : Gl X "zip") (hm : X.mg "zip" = none) (hs : nst a = true) (hs2 : nst b = true) : SI X px W st (.Tuple elts kk tpos) (.Call (.Name "zip" p) [a, b] [] pos) (fun e h => (fa e h).bind fun x h => (fb e h).bind fun y h => R.of ((nb st x).bind fun x => (nb st y).bind fun y => itZip x y) h) := by
  refine PI.of (RZ.pi_zipA hg hm (pa_cons ha (pa_cons hb pa_nil (star_ok hs2)) (star_ok hs)) (star_ok hs) (stars_any (by simp [hs2]))) fun σ H R ⟨w, e, h, p⟩ => ⟨w, e, h, p.bind.imp fun x H1 ⟨d, h1, w1, _, x1, v1, p1⟩ => ⟨w1, e, h1, p1.bind.imp fun y H2 ⟨d2, h2, w2, _, x2, v2, p2⟩ => ?_⟩⟩
  obtain ⟨ds, ed, p3⟩ := p2.nobad
  cases e1 : nb st d with
  | none => rw [e1] at ed; cases ed
  | some d' =>
    cases e2 : nb st d2 with
    | none => rw [e1, e2] at ed; cases ed
    | some d2' =>
      rw [e1, e2] at ed
      obtain ⟨rfl, b1⟩ := nb_some e1
      obtain ⟨rfl, b2⟩ := nb_some e2
      have ed : itZip d' d2' = some ds := ed
      have v1 := v1.ext x2
      have sep : ∀ a, a ∈ w2.hp → some a ∉ w2.ow := fun a m => (p3.rr.hr.sep a m).1
      unfold itZip at ed
      have key : ∀ {xs ys : List D}, d'.ls? = some xs → d2'.ls? = some ys → ds = zipD xs ys → ZipG X R H2 [x, y] := fun {xs ys} k1 k2 k3 => by
        obtain ⟨q, us, rfl, r, ⟨_, hq⟩ | ⟨hz, _⟩⟩ := v1.sqs sep b1 (sq_of_ls k1)
        · obtain ⟨q', us', rfl, r', ⟨_, hq'⟩ | ⟨hz, _⟩⟩ := v2.sqs sep b2 (sq_of_ls k2)
          · rw [k3] at p3
            exact ⟨q, q', us, us', rfl, .inl ⟨hq _ _ (XX.of (Ext.refl _ _)), hq' _ _ (XX.of (Ext.refl _ _)), p3.done (ir_zip (walk_zip rfl) (fun w' H' x => ⟨hq w' H' x, hq' w' H' x⟩) r r')⟩⟩
          · subst hz; cases k2
        · subst hz; cases k1
      split at ed
      · cases ed
        obtain ⟨q, us, rfl, r, ⟨hz, _⟩ | ⟨_, hq⟩⟩ := v1.sqs sep b1 rfl
        · cases hz
        · obtain ⟨q', us', rfl, r', ⟨hz, _⟩ | ⟨_, hq'⟩⟩ := v2.sqs sep b2 rfl
          · cases hz
          · exact ⟨q, q', us, us', rfl, .inr ⟨hq _ _ (XX.of (Ext.refl _ _)), hq' _ _ (XX.of (Ext.refl _ _)), p3.done (ir_zip (walk_zipT rfl) (fun w' H' x => ⟨hq w' H' x, hq' w' H' x⟩) r r')⟩⟩
      · split at ed
        · rename_i xs ys k1 k2
          cases ed
          exact key k1 k2 rfl
        · cases ed
theorem si_enm {elts : List Expr} {kk : Nat} (ha : SE X px W a fa) (hg : Gl X "enumerate") (hm : X.mg "enumerate" = none) (hs : nst a = true) : SI X px W st (.Tuple elts kk tpos) (.Call (.Name "enumerate" p) [a] [] pos) (fun e h => (fa e h).bind fun x h => R.of ((nb st x).bind fun x => x.sq?.map (enmD 0)) h) := by
  refine PI.of (pi_enumA hg hm (pa_cons ha pa_nil (star_ok hs)) (star_ok hs)) fun σ H R ⟨w, e, h, p⟩ => ⟨w, e, h, p.bind.imp fun x H1 ⟨d, h1, w1, _, x1, v1, p1⟩ => ?_⟩
  obtain ⟨ds, ed, p2⟩ := p1.nobad
  cases e1 : nb st d with
  | none => rw [e1] at ed; cases ed
  | some d' =>
    rw [e1] at ed
    obtain ⟨rfl, hb⟩ := nb_some e1
    have ed : d'.sq?.map (enmD 0) = some ds := ed
    cases k1 : d'.sq? with
    | none => rw [k1] at ed; cases ed
    | some xs =>
      rw [k1] at ed
      cases ed
      obtain ⟨q, us, rfl, r, ⟨_, hq⟩ | ⟨_, hq⟩⟩ := v1.sqs (fun a m => (p2.rr.hr.sep a m).1) hb k1
      · exact ⟨q, us, rfl, .inl ⟨hq _ _ (XX.of (Ext.refl _ _)), p2.done (ir_enm hq r)⟩⟩
      · exact ⟨q, us, rfl, .inr ⟨hq _ _ (XX.of (Ext.refl _ _)), p2.done (ir_enmT hq r)⟩⟩
end
end Tv
end

section
set_option maxHeartbeats 1000000
/-! zip of three lists. -/
namespace Tv
open PySem PySem.Spec PyProof.Rows L2
def Itz3 (K : PySem.W.Frag) (a b c : Addr) : L2.It :=
  ⟨fun i H => ∃ (xs ys zs : List V) (x y z : V), SqL K H a xs ∧ SqL K H b ys ∧ SqL K H c zs ∧ xs[i]? = some x ∧ ys[i]? = some y ∧ zs[i]? = some z,
    fun i H v H' => ∃ T x y z, v = .ref T ∧ H T = none ∧ H' = upd H T (.tup [x, y, z]) ∧ (∀ xs, SqL K H a xs → xs[i]? = some x) ∧ (∀ ys, SqL K H b ys → ys[i]? = some y) ∧ ∀ zs, SqL K H c zs → zs[i]? = some z,
    fun i H => ∃ xs ys zs : List V, SqL K H a xs ∧ SqL K H b ys ∧ SqL K H c zs ∧ (i ≤ xs.length ∧ i ≤ ys.length ∧ i ≤ zs.length) ∧ (i = xs.length ∨ i = ys.length ∨ i = zs.length)⟩
theorem turn_zip3 {P : Program} {w : World} {K : PySem.W.Frag} {elts : List Expr} {kk : Nat} {tpos : Pos} {a b c z TI TO i1 i2 i3 : Addr} (D : ZipSep3 z TI TO i1 i2 i3 [i1, a] [i2, b] [i3, c]) (na : a ≠ i1) (nb : b ≠ i2) (nc : c ≠ i3) :
    Turn P w K (.Tuple elts kk tpos) (Itz3 K a b c) [z, TI, TO, i1, i2, i3] z (fun i h => IsZip h z TI TO .none ∧ IsTupOf3 h TI (.ref i1) (.ref i2) (.ref i3) ∧ (∃ x y v, IsTupOf3 h TO x y v) ∧ h.IsListIter i1 a i ∧ h.IsListIter i2 b i ∧ h.IsListIter i3 c i) where
  mem := by simp
  obj := fun i h st d hd => by
    obtain ⟨hz, hTI, ⟨x, y, v, hTO⟩, ⟨o1, e1, _, d1⟩, ⟨o2, e2, _, d2⟩, ⟨o3, e3, _, d3⟩⟩ := st
    have e' : d = z ∨ d = TI ∨ d = TO ∨ d = i1 ∨ d = i2 ∨ d = i3 := by simpa using hd
    rcases e' with q | q | q | q | q | q
    · rw [q]; exact ⟨_, hz, fun v q => nomatch q⟩
    · rw [q]; exact ⟨_, hTI, fun v q => nomatch q⟩
    · rw [q]; exact ⟨_, hTO, fun v q => nomatch q⟩
    · rw [q]; exact ⟨o1, e1, fun v q => by rw [d1] at q; cases q⟩
    · rw [q]; exact ⟨o2, e2, fun v q => by rw [d2] at q; cases q⟩
    · rw [q]; exact ⟨o3, e3, fun v q => by rw [d3] at q; cases q⟩
  keep := fun i h h' st k => by
    obtain ⟨hz, hTI, ⟨x, y, v, hTO⟩, h1, h2, h3⟩ := st
    exact ⟨k z (by simp) _ hz, k TI (by simp) _ hTI, ⟨x, y, v, k TO (by simp) _ hTO⟩, h1.at fun o q => k i1 (by simp) o q, h2.at fun o q => k i2 (by simp) o q, h3.at fun o q => k i3 (by simp) o q⟩
  item := by
    intro X hP hw hK hc i pins s σ H E I hf st hg
    subst hP hw hK
    obtain ⟨hz, hTI, ⟨x0, y0, v0, hTO⟩, h1, h2, h3⟩ := st
    obtain ⟨xs, ys, zs, x, y, v, hqx, hqy, hqz, hx, hy, hv⟩ := hg
    obtain ⟨its, rv, p, _⟩ := I.list hqx
    obtain ⟨its2, rv2, p2, _⟩ := I.list hqy
    obtain ⟨its3, rv3, p3, _⟩ := I.list hqz
    obtain ⟨u, hu, ru⟩ := rv.get hx
    obtain ⟨u2, hu2, ru2⟩ := rv2.get hy
    obtain ⟨u3, hu3, ru3⟩ := rv3.get hv
    have hzl : z < s.heap.objs.size := Heap.lt_size hz
    have hd : X.A.in1.handled = none := I.ok.hd hc
    have n1 : i < its.toArray.size := by have := (List.getElem?_eq_some_iff.mp hu).1; simpa using this
    have n2 : i < its2.toArray.size := by have := (List.getElem?_eq_some_iff.mp hu2).1; simpa using this
    have n3 : i < its3.toArray.size := by have := (List.getElem?_eq_some_iff.mp hu3).1; simpa using this
    refine wpAny_pyNext_zipD3_item D (Draws.list hd i1 a na its.toArray) (Draws.list hd i2 b nb its2.toArray) (Draws.list hd i3 c nc its3.toArray) hz hTI hTO ⟨h1, p.isList⟩ ⟨h2, p2.isList⟩ ⟨h3, p3.isList⟩ n1 n2 n3 fun w1 w2 w3 h' tk k1 k2 k3 z' TO' q1' q2' q3' hT hsz hk => ?_
    have k1 : its.toArray[i]? = some w1 := k1
    have k2 : its2.toArray[i]? = some w2 := k2
    have k3 : its3.toArray[i]? = some w3 := k3
    obtain rfl : u = w1 := by simp [hu] at k1; exact k1
    obtain rfl : u2 = w2 := by simp [hu2] at k2; exact k2
    obtain rfl : u3 = w3 := by simp [hu3] at k3; exact k3
    refine ⟨_, rfl, wpAny_letOwnedTupleGo_zip (s := { s with heap := h', toks := tk }) z' fun h'' z'' sb => ?_⟩
    have hT2 : h''.get? s.heap.objs.size = some { cls := .type "tuple", data := .seq #[u, u2, u3] } := (sb.2 _ (Nat.ne_of_gt hzl)).trans hT
    have new : ObjOk X.prog X.w (upd H s.heap.objs.size (.tup [x, y, v])) h'' s.heap.objs.size (.tup [x, y, v]) :=
      ⟨by show 3 ≤ sizeLine; decide, [u, u2, u3], .cons ru (.cons ru2 (.cons ru3 .nil)), ⟨_, hT2, rfl, _, rfl⟩⟩
    have I1 : Inv X pins σ (upd H s.heap.objs.size (.tup [x, y, v])) { s with heap := h'', toks := tk } :=
      I.turnedNew (t' := tk) (ch := [z, TI, TO, i1, i2, i3]) (fun d o hb q => (sb.2 d (fun q' => hb (by simp [q']))).trans (hk d o (fun q' => hb (by simp [q'])) (fun q' => hb (by simp [q'])) (fun q' => hb (by simp [q'])) (fun q' => hb (by simp [q'])) (fun q' => hb (by simp [q'])) q)) hf (Nat.le_refl _) new
    refine ⟨.ref s.heap.objs.size, _, I1, rfl, ⟨_, x, y, v, rfl, I.hok.fresh (Nat.le_refl _), rfl, fun l hl => by rw [I.list_inj hl hqx]; exact hx, fun l hl => by rw [I.list_inj hl hqy]; exact hy, fun l hl => by rw [I.list_inj hl hqz]; exact hv⟩, ⟨z'', ?_, ⟨u, u2, u3, ?_⟩, ?_, ?_, ?_⟩, fun d hdm => ?_⟩
    · exact (sb.2 _ D.TIz).trans (hk _ _ D.TIz D.TITO D.TIi1 D.TIi2 D.TIi3 hTI)
    · exact (sb.2 _ D.TOz).trans TO'
    · exact q1'.1.at fun o q => (sb.2 _ D.zi1.symm).trans q
    · exact q2'.1.at fun o q => (sb.2 _ D.zi2.symm).trans q
    · exact q3'.1.at fun o q => (sb.2 _ D.zi3.symm).trans q
    · have hlt : d < s.heap.objs.size := by
        have e' : d = z ∨ d = TI ∨ d = TO ∨ d = i1 ∨ d = i2 ∨ d = i3 := by simpa using hdm
        rcases e' with q | q | q | q | q | q
        · rw [q]; exact hzl
        · rw [q]; exact Heap.lt_size hTI
        · rw [q]; exact Heap.lt_size hTO
        · rw [q]; obtain ⟨_, e1, _⟩ := h1; exact Heap.lt_size e1
        · rw [q]; obtain ⟨_, e2, _⟩ := h2; exact Heap.lt_size e2
        · rw [q]; obtain ⟨_, e3, _⟩ := h3; exact Heap.lt_size e3
      rw [upd_ne (Nat.ne_of_lt hlt)]
      exact (hf d hdm).1
  done := by
    intro X hP hw hK hc i pins s σ H E I hf st hg
    subst hP hw hK
    obtain ⟨hz, hTI, ⟨x0, y0, v0, hTO⟩, h1, h2, h3⟩ := st
    obtain ⟨xs, ys, zs, hqx, hqy, hqz, hle, hend⟩ := hg
    obtain ⟨its, rv, p, _⟩ := I.list hqx
    obtain ⟨its2, rv2, p2, _⟩ := I.list hqy
    obtain ⟨its3, rv3, p3, _⟩ := I.list hqz
    have l1 := rv.length
    have l2 := rv2.length
    have l3 := rv3.length
    have hd : X.A.in1.handled = none := I.ok.hd hc
    exact wpAny_pyNext_zipD3_end D (Draws.list hd i1 a na its.toArray) (Draws.list hd i2 b nb its2.toArray) (Draws.list hd i3 c nc its3.toArray) hz hTI hTO ⟨h1, p.isList⟩ ⟨h2, p2.isList⟩ ⟨h3, p3.isList⟩ (by simp; omega) (by simp; omega) (by simp; omega) (by simp; omega) fun h' tk hk => ⟨rfl, I.turnedL (t' := tk) (ch := [z, TI, TO, i1, i2, i3]) (fun d o hb q =>
      hk d o (fun q' => hb (by simp [q'])) (fun q' => hb (by simp [q'])) (fun q' => hb (by simp [q'])) (fun q' => hb (by simp [q'])) (fun q' => hb (by simp [q'])) q) hf⟩
  self := fun A i s Q E st h => wpAny_pyIter_zip st.1 h
def iZip3 (K : PySem.W.Frag) (ta : TA) : TI := fun σ H R => ta σ H fun vs H1 => ∃ a b c xs ys zs, vs = [.ref a, .ref b, .ref c] ∧ SqL K H1 a xs ∧ SqL K H1 b ys ∧ SqL K H1 c zs ∧ R (Itz3 K a b c) H1
theorem pi_zip3 {X : Cx} {e e2 e3 : Expr} {ta : TA} {p pos tpos : Pos} {elts : List Expr} {kk : Nat} (hg : Gl X "zip") (hm : X.mg "zip" = none) (ha : PA X [e, e2, e3] ta)
    (hs : starEach [e, e2, e3] X.env = (false, eval e X.env) :: starEach [e2, e3] X.env := by rfl) (hpl : (backTo pos (starEach [e2, e3] X.env)).any (·.1) = false := by rfl) :
    PI X (.Tuple elts kk tpos) (.Call (.Name "zip" p) [e, e2, e3] [] pos) (iZip3 X.K ta) := by
  refine ⟨fun pins s σ H R I h => ?_⟩
  refine Call_ (ld_blt I hg hm PyProof.Rows.boot_zip (PyProof.Rows.callWith_type1 (thn (ha.run pos pins s σ H _ I h) fun us s1 ⟨vs, H1, I1, r1, q1⟩ => ?_) hs hpl))
  obtain ⟨a, b, c, xs, ys, zs, ex, hqx, hqy, hqz, q⟩ := q1
  subst ex
  cases r1 with
  | cons r rr =>
    cases rr with
    | cons r' rr =>
      cases rr with
      | cons r'' rr =>
        cases rr
        cases r
        cases r'
        cases r''
        obtain ⟨its, rv, p1, _⟩ := I1.list hqx
        obtain ⟨its2, rv2, p2, _⟩ := I1.list hqy
        obtain ⟨its3, rv3, p3, _⟩ := I1.list hqz
        have la : a < s1.heap.objs.size := p1.lt
        have lb : b < s1.heap.objs.size := p2.lt
        have lc : c < s1.heap.objs.size := p3.lt
        refine zip_begins3 (begins_list a its.toArray) (begins_list b its2.toArray) (begins_list c its3.toArray) p1.isList p2.isList p3.isList fun h' hz hTI hTO h1 h2 h3 hsz hk => wpAny_pyIter_zip hz ?_
        have I2 : Inv X pins σ H1 { s1 with heap := h' } := I1.kept (t' := s1.toks) hk
        refine ⟨s1.heap.objs.size + 5, [s1.heap.objs.size + 5, s1.heap.objs.size + 3, s1.heap.objs.size + 4, s1.heap.objs.size, s1.heap.objs.size + 1, s1.heap.objs.size + 2], _, _, H1, rfl, I2,
          turn_zip3 (zip_sep3 (fp1 := [a]) (fp2 := [b]) (fp3 := [c]) (fun d hd => by rw [List.mem_singleton.mp hd]; exact la) (fun d hd => by rw [List.mem_singleton.mp hd]; exact lb) (fun d hd => by rw [List.mem_singleton.mp hd]; exact lc)) (Nat.ne_of_lt la) (Nat.ne_of_lt (Nat.lt_succ_of_lt lb)) (Nat.ne_of_lt (Nat.lt_succ_of_lt (Nat.lt_succ_of_lt lc))), ⟨hz, hTI, ⟨_, _, _, hTO⟩, ⟨_, h1, rfl, rfl⟩, ⟨_, h2, rfl, rfl⟩, ⟨_, h3, rfl, rfl⟩⟩, fun d hdm => ?_, q⟩
        have e' : d = s1.heap.objs.size + 5 ∨ d = s1.heap.objs.size + 3 ∨ d = s1.heap.objs.size + 4 ∨ d = s1.heap.objs.size ∨ d = s1.heap.objs.size + 1 ∨ d = s1.heap.objs.size + 2 := by simpa using hdm
        have hle : s1.heap.objs.size ≤ d := by
          rcases e' with z | z | z | z | z | z
          · rw [z]; exact Nat.le_add_right _ _
          · rw [z]; exact Nat.le_add_right _ _
          · rw [z]; exact Nat.le_add_right _ _
          · rw [z]; exact Nat.le_refl _
          · rw [z]; exact Nat.le_add_right _ _
          · rw [z]; exact Nat.le_add_right _ _
        exact I1.fpOk hle (I1.hok.fresh hle)
theorem zip3_len : ∀ xs ys zs : List D, (zip3D xs ys zs).length = min (min xs.length ys.length) zs.length
  | [], _, _ => by simp [zip3D]
  | _ :: _, [], _ => by simp [zip3D]
  | _ :: _, _ :: _, [] => by simp [zip3D]
  | x :: xs, y :: ys, z :: zs => by
    show (zip3D xs ys zs).length + 1 = _
    rw [zip3_len xs ys zs]
    simp only [List.length_cons]
    omega
theorem zip3_at : ∀ {xs ys zs : List D} {i : Nat} {x y z : D}, xs[i]? = some x → ys[i]? = some y → zs[i]? = some z → (zip3D xs ys zs)[i]? = some (.tup [x, y, z])
  | [], _, _, _, _, _, _, h, _, _ => by simp at h
  | _ :: _, [], _, _, _, _, _, _, h, _ => by simp at h
  | _ :: _, _ :: _, [], _, _, _, _, _, _, h => by simp at h
  | x :: xs, y :: ys, z :: zs, 0, _, _, _, h1, h2, h3 => by cases h1; cases h2; cases h3; rfl
  | x :: xs, y :: ys, z :: zs, i + 1, _, _, _, h1, h2, h3 => zip3_at (xs := xs) (ys := ys) (zs := zs) (i := i) h1 h2 h3
section
variable {K : PySem.W.Frag} {w : Wd} {H : Hp} {st : Bool}
theorem vr_three {w' : Wd} {H' : Hp} {T : Addr} {x y z : D} {v u t : V} (h : H' T = none) (h1 : VR K w' H' x v) (h2 : VR K w' H' y u) (h3 : VR K w' H' z t) : VR K w' (upd H' T (.tup [v, u, t])) (.tup [x, y, z]) (.ref T) :=
  .tup (upd_same ..) (.cons (h1.ext (Ext.new0 h)) (.cons (h2.ext (Ext.new0 h)) (.cons (h3.ext (Ext.new0 h)) .nil)))
def Y3 (xs ys zs : List V) : Nat → Hp → V → Hp → Prop := fun i H v H' => ∃ T x y z, v = .ref T ∧ H T = none ∧ H' = upd H T (.tup [x, y, z]) ∧ xs[i]? = some x ∧ ys[i]? = some y ∧ zs[i]? = some z
theorem walk_zip3 {a b c : Addr} {xs ys zs : List V} : Walk (Itz3 K a b c) (min (min xs.length ys.length) zs.length) (fun H => SqL K H a xs ∧ SqL K H b ys ∧ SqL K H c zs) (Y3 xs ys zs) := by
  refine ⟨fun i _ hi q => ?_, fun _ q => ⟨xs, ys, zs, q.1, q.2.1, q.2.2, by omega, by omega⟩, fun i H v H' _ q y => ?_⟩
  · have h1 : i < xs.length := by omega
    have h2 : i < ys.length := by omega
    have h3 : i < zs.length := by omega
    exact ⟨xs, ys, zs, xs[i], ys[i], zs[i], q.1, q.2.1, q.2.2, by simp [h1], by simp [h2], by simp [h3]⟩
  · obtain ⟨T, x, z, u, h1, h2, h3, h4, h5, h6⟩ := y
    exact ⟨T, x, z, u, h1, h2, h3, h4 xs q.1, h5 ys q.2.1, h6 zs q.2.2⟩
theorem ir_zip3 {a b c : Addr} {xs ys zs : List V} {ds es fs : List D} (hg : ∀ w' H', XX st w H w' H' → SqL K H' a xs ∧ SqL K H' b ys ∧ SqL K H' c zs) (r : VRs K w H ds xs) (r2 : VRs K w H es ys) (r3 : VRs K w H fs zs) : IR K st w H (zip3D ds es fs) (Itz3 K a b c) := by
  refine ⟨_, Y3 xs ys zs, ?_, hg, fun i w' H' v H'' hi x y => ?_⟩
  · rw [zip3_len, r.length, r2.length, r3.length]; exact walk_zip3
  · obtain ⟨T, x1, y1, z1, rfl, hT, rfl, hx, hy, hz⟩ := y
    obtain ⟨d1, e1, v1⟩ := r.at_ hx
    obtain ⟨d2, e2, v2⟩ := r2.at_ hy
    obtain ⟨d3, e3, v3⟩ := r3.at_ hz
    exact ⟨_, zip3_at e1 e2 e3, .inr ⟨T, _, hT, rfl⟩, vr_three hT (v1.exts x.s) (v2.exts x.s) (v3.exts x.s)⟩
end
section
variable {X : Cx} {px : Px} {W : WX} {a b c : Expr} {fa fb fc : Ev → Hs → R D} {st : Bool} {p pos tpos : Pos}
theorem si_zip3 {elts : List Expr} {kk : Nat} (ha : SE X px W a fa) (hb : SE X px W b fb) (hc : SE X px W c fc) (hg : Gl X "zip") (hm : X.mg "zip" = none) (hs : nst a = true) (hs2 : nst b = true) (hs3 : nst c = true) : SI X px W st (.Tuple elts kk tpos) (.Call (.Name "zip" p) [a, b, c] [] pos) (fun e h => (fa e h).bind fun x h => (fb e h).bind fun y h => (fc e h).bind fun z h => R.of ((nb st x).bind fun x => (nb st y).bind fun y => (nb st z).bind fun z => itZip3 x y z) h) := by
  refine PI.of (pi_zip3 hg hm (pa_cons ha (pa_cons hb (pa_cons hc pa_nil (star_ok hs3)) (star_ok hs2)) (star_ok hs)) (star_ok hs) (stars_any (by simp [hs2, hs3]))) fun σ H R ⟨w, e, h, p⟩ => ⟨w, e, h, p.bind.imp fun x H1 ⟨d, h1, w1, _, x1, v1, p1⟩ => ⟨w1, e, h1, p1.bind.imp fun y H2 ⟨d2, h2, w2, _, x2, v2, p2⟩ => ⟨w2, e, h2, p2.bind.imp fun z H3 ⟨d3, h3, w3, _, x3, v3, p3⟩ => ?_⟩⟩⟩
  obtain ⟨ds, ed, p4⟩ := p3.nobad
  cases e1 : nb st d with
  | none => rw [e1] at ed; cases ed
  | some d' =>
    cases e2 : nb st d2 with
    | none => rw [e1, e2] at ed; cases ed
    | some d2' =>
      cases e3 : nb st d3 with
      | none => rw [e1, e2, e3] at ed; cases ed
      | some d3' =>
        rw [e1, e2, e3] at ed
        obtain ⟨rfl, b1⟩ := nb_some e1
        obtain ⟨rfl, b2⟩ := nb_some e2
        obtain ⟨rfl, b3⟩ := nb_some e3
        have ed : itZip3 d' d2' d3' = some ds := ed
        have v1 := (v1.ext x2).ext x3
        have v2 := v2.ext x3
        have sep : ∀ a, a ∈ w3.hp → some a ∉ w3.ow := fun a m => (p4.rr.hr.sep a m).1
        unfold itZip3 at ed
        split at ed
        · rename_i xs ys zs k1 k2 k3
          cases ed
          obtain ⟨q, us, rfl, r, ⟨_, hq⟩ | ⟨hz, _⟩⟩ := v1.sqs sep b1 (sq_of_ls k1)
          · obtain ⟨q', us', rfl, r', ⟨_, hq'⟩ | ⟨hz, _⟩⟩ := v2.sqs sep b2 (sq_of_ls k2)
            · obtain ⟨q'', us'', rfl, r'', ⟨_, hq''⟩ | ⟨hz, _⟩⟩ := v3.sqs sep b3 (sq_of_ls k3)
              · exact ⟨q, q', q'', us, us', us'', rfl, hq _ _ (XX.of (Ext.refl _ _)), hq' _ _ (XX.of (Ext.refl _ _)), hq'' _ _ (XX.of (Ext.refl _ _)), p4.done (ir_zip3 (fun w' H' x => ⟨hq w' H' x, hq' w' H' x, hq'' w' H' x⟩) r r' r'')⟩
              · subst hz; cases k3
            · subst hz; cases k2
          · subst hz; cases k1
        · cases ed
end
end Tv
end

section
set_option autoImplicit false
set_option maxHeartbeats 1000000
/-! Comprehensions. -/
namespace Tv
open PySem PySem.Spec PyProof.Rows L2
section
variable {K : PySem.W.Frag} {w w' : Wd} {H : Hp}
mutual
theorem VR.weak (hh : w'.hp = w.hp) (hf : ∀ a, w'.forb a → w.forb a) : ∀ {d : D} {v : V}, VR K w H d v → VR K w' H d v
  | _, _, .non => .non
  | _, _, .bl b => .bl b
  | _, _, .int i => .int i
  | _, _, .str s => .str s
  | _, _, .tup q r => .tup q (VRs.weak hh hf r)
  | _, _, .lst n q r => .lst (fun z => n (hf _ z)) q (VRs.weak hh hf r)
  | _, _, .dct n nd q => .dct (fun z => n (hf _ z)) nd q
  | _, _, .ref q => .ref (by rw [hh]; exact q)
  | _, _, .exc n l q => .exc (fun z => n (hf _ z)) l q
  | _, _, .exb n n2 q q2 => .exb (fun z => n (hf _ z)) (fun z => n2 (hf _ z)) q q2
theorem VRs.weak (hh : w'.hp = w.hp) (hf : ∀ a, w'.forb a → w.forb a) : ∀ {ds : List D} {vs : List V}, VRs K w H ds vs → VRs K w' H ds vs
  | _, _, .nil => .nil
  | _, _, .cons a b => .cons (VR.weak hh hf a) (VRs.weak hh hf b)
end
class Mu (o : HO) : Prop where
  h : muB o = true
instance {xs : List V} : Mu (.lst xs) := ⟨rfl⟩
instance {xs : List (Key × V)} : Mu (.dK xs) := ⟨rfl⟩
instance {xs : List (List Key × V)} : Mu (.dT xs) := ⟨rfl⟩
instance {C dx : Addr} {fs : List (Str × V)} : Mu (.ins C dx fs) := ⟨rfl⟩
theorem Mu.no {H : Hp} {D : Addr} {o u : HO} [hm : Mu o] (hD : H D = some o) (q : H D = some u) (n : muB u = false) : False := by
  have e : o = u := Option.some.inj (hD.symm.trans q)
  have := hm.h
  rw [e, n] at this
  cases this
theorem SqT.updD {D : Addr} {o0 o1 : HO} [Mu o0] (hD : H D = some o0) {a : Addr} {xs : List V} (h : SqT K H a xs) : SqT K (upd H D o1) a xs := by
  rcases h with (h | ⟨o, h⟩) | h
  · exact .inl (.inl (by rw [upd_ne (fun e => by rw [e] at h; exact Mu.no hD h rfl)]; exact h))
  · exact .inl (.inr ⟨o, by rw [upd_ne (fun e => by rw [e] at h; exact Mu.no hD h rfl)]; exact h⟩)
  · exact .inr h
mutual
theorem VR.updD {D : Addr} {o0 o1 : HO} [Mu o0] (hp : w.forb D) (hD : H D = some o0) : ∀ {d : Tv.D} {v : V}, VR K w H d v → VR K w (upd H D o1) d v
  | _, _, .non => .non
  | _, _, .bl b => .bl b
  | _, _, .int i => .int i
  | _, _, .str s => .str s
  | _, _, .tup q r => .tup (by rw [upd_ne (fun e => by rw [e] at q; exact Mu.no hD q rfl)]; exact q) (VRs.updD hp hD r)
  | _, _, .lst (a := a) n q r => .lst n (by have ha : a ≠ D := (fun e => n (by rw [e]; exact hp)); rw [upd_ne ha]; exact q) (VRs.updD hp hD r)
  | _, _, .dct (a := a) n nd q => .dct n nd (by have ha : a ≠ D := (fun e => n (by rw [e]; exact hp)); rw [upd_ne ha]; exact q)
  | _, _, .ref q => .ref q
  | _, _, .exc n l q => .exc n l (by rw [upd_ne (fun e => n (by rw [e]; exact hp))]; exact q)
  | _, _, .exb n n2 q q2 => .exb n n2 (by rw [upd_ne (fun e => n (by rw [e]; exact hp))]; exact q) (by rw [upd_ne (fun e => n2 (by rw [e]; exact hp))]; exact q2)
theorem VRs.updD {D : Addr} {o0 o1 : HO} [Mu o0] (hp : w.forb D) (hD : H D = some o0) : ∀ {ds : List Tv.D} {vs : List V}, VRs K w H ds vs → VRs K w (upd H D o1) ds vs
  | _, _, .nil => .nil
  | _, _, .cons a b => .cons (VR.updD hp hD a) (VRs.updD hp hD b)
end
theorem tabs_updD {T : List (Addr × Str)} {D : Addr} {o0 o1 : HO} [Mu o0] (hD : H D = some o0) (t : LamX.Tabs T H) : LamX.Tabs T (upd H D o1) := by
  intro p hp
  obtain ⟨ps, h1, h2, h3⟩ := t p hp
  refine ⟨ps, ?_, h2, fun pos cv hc => ?_⟩
  · rw [upd_ne (fun e => by rw [e] at h1; exact Mu.no hD h1 rfl)]; exact h1
  · obtain ⟨c, e1, e2⟩ := h3 pos cv hc
    exact ⟨c, e1, by rw [upd_ne (fun e => by rw [e] at e2; exact Mu.no hD e2 rfl)]; exact e2⟩
/-- a list of nobody's changes -/
theorem HR.updD {D : Addr} {o0 o1 : HO} [Mu o0] {h : Hs} (r : HR K w h H) (hp : w.forb D) (hn : D ∉ w.hp) (hD : H D = some o0) : HR K w h (upd H D o1) where
  len := r.len
  nd := r.nd
  ob := fun i a o h1 h2 => by
    have q := r.ob i a o h1 h2
    cases o with
    | lst ds =>
      obtain ⟨xs, q1, q2, q3⟩ := q
      exact ⟨xs, by rw [upd_ne (fun e => hn (by rw [← e]; exact List.mem_iff_getElem?.mpr ⟨i, h1⟩))]; exact q1, q2.updD hp hD, q3⟩
    | ins c fs =>
      obtain ⟨dx, vs, q1, q2⟩ := q
      exact ⟨dx, vs, by rw [upd_ne (fun e => hn (by rw [← e]; exact List.mem_iff_getElem?.mpr ⟨i, h1⟩))]; exact q1, q2.map fun z => VR.updD hp hD z⟩
    | dct kvs =>
      obtain ⟨ks, q1, q2⟩ := q
      exact ⟨ks, by rw [upd_ne (fun e => hn (by rw [← e]; exact List.mem_iff_getElem?.mpr ⟨i, h1⟩))]; exact q1, q2.map fun z => VR.updD hp hD z⟩
  sep := r.sep
  prd := fun a q z => by
    by_cases ha : a = D
    · rw [ha, upd_same] at z; cases z
    · rw [upd_ne ha] at z; exact r.prd a q z
/-- w, with D out of reach -/
def Wd.gd (w : Wd) (D : Addr) : Wd := { w with pr := fun a => w.pr a ∨ a = D }
theorem Ext.guard {D : Addr} {o : HO} (hD : H D = none) : Ext w H (w.gd D) (upd H D o) where
  pre := ⟨[], by simp [Wd.gd], fun _ h => by cases h⟩
  ow := rfl
  pr := fun a h => .inl h
  prf := fun a h => by
    rcases h with h | h
    · exact .inl h
    · exact .inr (by rw [h]; exact hD)
  keep := fun a u q _ _ => by rw [upd_ne (ne_of_none q hD)]; exact q
  tups := fun a xs q => (Ext.new0 (w := w) hD).tups a xs q
  dom := fun a q => (Ext.new0 (w := w) (o := o) hD).dom a q
theorem HR.guard {D : Addr} {o : HO} {h : Hs} (r : HR K w h H) (hD : H D = none) : HR K (w.gd D) h (upd H D o) where
  len := r.len
  nd := r.nd
  ob := fun i a ob h1 h2 => by
    have q := r.ob i a ob h1 h2
    cases ob with
    | lst ds =>
      obtain ⟨xs, q1, q2, q3⟩ := q
      exact ⟨xs, by rw [upd_ne (ne_of_none q1 hD)]; exact q1, q2.ext (Ext.guard hD), q3⟩
    | ins c fs =>
      obtain ⟨dx, vs, q1, q2⟩ := q
      exact ⟨dx, vs, by rw [upd_ne (ne_of_none q1 hD)]; exact q1, q2.map fun z => z.ext (Ext.guard hD)⟩
    | dct kvs =>
      obtain ⟨ks, q1, q2⟩ := q
      exact ⟨ks, by rw [upd_ne (ne_of_none q1 hD)]; exact q1, q2.map fun z => z.ext (Ext.guard hD)⟩
  sep := fun a ha => ⟨(r.sep a ha).1, fun z => by
    rcases z with z | z
    · exact (r.sep a ha).2 z
    · obtain ⟨xs, q, _⟩ := r.there ha
      rw [z, hD] at q; cases q⟩
  prd := fun a q z => by
    by_cases ha : a = D
    · rw [ha, upd_same] at z; cases z
    · rw [upd_ne ha] at z
      rcases q with q | q
      · exact r.prd a q z
      · exact ha q
theorem Ext.updD {w1 : Wd} {H1 : Hp} {D : Addr} {o : HO} (x : Ext w H w1 H1) (hD : H D = none) : Ext w H w1 (upd H1 D o) where
  pre := x.pre
  ow := x.ow
  pr := x.pr
  prf := x.prf
  keep := fun a u q h1 h2 => by rw [upd_ne (ne_of_none q hD)]; exact x.keep a u q h1 h2
  tups := fun a xs q => by
    rw [upd_ne (ne_of_none q hD)]
    exact x.tups a xs q
  dom := fun a q => by
    by_cases ha : a = D
    · rw [ha]; exact hD
    · rw [upd_ne ha] at q; exact x.dom a q
/-- w, with D in reach again -/
def Wd.ug (w : Wd) (D : Addr) : Wd := { w with pr := fun a => w.pr a ∧ a ≠ D }
theorem Ext.ug {w1 : Wd} {H1 : Hp} {D : Addr} (x : Ext w H w1 H1) (hp : ∀ a, w.pr a → H a ≠ none) (hD : H D = none) : Ext w H (w1.ug D) H1 where
  pre := x.pre
  ow := x.ow
  pr := fun a h => ⟨x.pr a h, fun e => hp a h (by rw [e]; exact hD)⟩
  prf := fun a h => x.prf a h.1
  keep := x.keep
  tups := x.tups
  dom := x.dom
theorem Wd.ug_forb {D a : Addr} (h : (w.ug D).forb a) : w.forb a := by
  rcases h with h | h | h
  · exact .inl h
  · exact .inr (.inl h)
  · exact .inr (.inr h.1)
theorem VRs.ugw {D : Addr} {ds : List Tv.D} {vs : List V} (h : VRs K w H ds vs) : VRs K (w.ug D) H ds vs := by
  have e : (w.ug D).hp = w.hp := rfl
  exact VRs.weak e (fun a => Wd.ug_forb) h
theorem VR.ugw {D : Addr} {d : Tv.D} {v : V} (h : VR K w H d v) : VR K (w.ug D) H d v := by
  have e : (w.ug D).hp = w.hp := rfl
  exact VR.weak e (fun a => Wd.ug_forb) h
theorem HR.ug {D : Addr} {h : Hs} (r : HR K w h H) : HR K (w.ug D) h H where
  len := r.len
  nd := r.nd
  ob := fun i a ob h1 h2 => by
    have q := r.ob i a ob h1 h2
    cases ob with
    | lst ds =>
      obtain ⟨xs, q1, q2, q3⟩ := q
      exact ⟨xs, q1, VRs.ugw q2, q3⟩
    | ins c fs =>
      obtain ⟨dx, vs, q1, q2⟩ := q
      exact ⟨dx, vs, q1, q2.map fun z => VR.ugw z⟩
    | dct kvs =>
      obtain ⟨ks, q1, q2⟩ := q
      exact ⟨ks, q1, q2.map fun z => VR.ugw z⟩
  sep := fun a ha => ⟨(r.sep a ha).1, fun z => (r.sep a ha).2 z.1⟩
  prd := fun a q => r.prd a q.1
theorem HR.nw {h : Hs} {H' : Hp} (r : HR K w h H) (n : Nw H H') : HR K w h H' := by
  rcases n with rfl | ⟨T, xs, hT, rfl⟩
  · exact r
  · exact r.new hT
theorem Nw.tabs {T : List (Addr × Str)} {H' : Hp} (n : Nw H H') (t : LamX.Tabs T H) : LamX.Tabs T H' := by
  rcases n with rfl | ⟨q, xs, hT, rfl⟩
  · exact t
  · exact t.ext fun b u z => by rw [upd_ne (ne_of_none z hT)]; exact z
end
/-! ### the comprehension -/
def turnC (t : T) (vs : List Nat) (fc fe : Ev → Hs → R D) (e : Ev) : D → Hs → R (Option D) := fun x h => match putT t x (e.wipe vs) with
  | none => .bad
  | some e' => (fc e' h).bind fun c h => match c.tru with
    | some true => (fe e' h).bind fun y h => if y.keep then .ok (some y) h else .bad
    | some false => .ok none h
    | none => .bad
def fComp (fi : Ev → Hs → R (List D)) (t : T) (vs : List Nat) (fc fe : Ev → Hs → R D) : Ev → Hs → R D := fun e h => (fi e h).bind fun xs h => if xs.length ≤ LIM then (compL (turnC t vs fc fe e) xs h).calm.bind fun ys h => .ok (.lst ys) h else .bad
theorem compL_cons {f : D → Hs → R (Option D)} {x : D} {xs zs : List D} {h h' : Hs} (q : compL f (x :: xs) h = .ok zs h') : ∃ o h1 ys, f x h = .ok o h1 ∧ compL f xs h1 = .ok ys h' ∧ zs = (match o with | some y => y :: ys | none => ys) := by
  unfold compL at q
  cases e1 : f x h with
  | bad => rw [e1] at q; cases q
  | exc x h1 => rw [e1] at q; cases q
  | ok o h1 =>
    rw [e1, R.bind_ok] at q
    cases e2 : compL f xs h1 with
    | bad => rw [e2] at q; cases q
    | exc x h1 => rw [e2] at q; cases q
    | ok ys h2 =>
      rw [e2, R.bind_ok] at q
      cases q
      exact ⟨o, h1, ys, rfl, e2, rfl⟩
theorem turnC_ok {t : T} {vs : List Nat} {fc fe : Ev → Hs → R D} {e : Ev} {x : D} {h h' : Hs} {o : Option D} (q : turnC t vs fc fe e x h = .ok o h') :
    ∃ e' c h1, putT t x (e.wipe vs) = some e' ∧ fc e' h = .ok c h1 ∧ ((c.tru = some true ∧ ∃ y, fe e' h1 = .ok y h' ∧ y.keep = true ∧ o = some y) ∨ (c.tru = some false ∧ h' = h1 ∧ o = none)) := by
  unfold turnC at q
  cases e1 : putT t x (e.wipe vs) with
  | none => rw [e1] at q; cases q
  | some e' =>
    rw [e1] at q
    dsimp only at q
    cases e2 : fc e' h with
    | bad => rw [e2] at q; cases q
    | exc x h1 => rw [e2] at q; cases q
    | ok c h1 =>
      rw [e2, R.bind_ok] at q
      refine ⟨e', c, h1, rfl, e2, ?_⟩
      split at q
      · rename_i hb
        cases e3 : fe e' h1 with
        | bad => rw [e3] at q; cases q
        | exc x h1 => rw [e3] at q; cases q
        | ok y h2 =>
          rw [e3, R.bind_ok] at q
          split at q
          · rename_i hk
            cases q
            exact .inl ⟨hb, y, rfl, hk, rfl⟩
          · cases q
      · rename_i hb
        cases q
        exact .inr ⟨hb, rfl, rfl⟩
      · cases q
/-- a list made from H on, as yet out of everyone's reach -/
def relF (K : PySem.W.Frag) (H0 : Hp) (w : Wd) (H : Hp) (d : D) (v : V) : Prop := ∃ a xs ds, d = .lst ds ∧ v = .ref a ∧ H0 a = none ∧ w.pr a ∧ H a = some (.lst xs) ∧ VRs K w H ds xs
def rdF (K : PySem.W.Frag) (px : Px) (W : WX) (f : Ev → Hs → R D) : TE := fun σ H Q => ∃ w e h, Pre K px W σ (relF K H) w e h H Q (f e h)
theorem Pre.rel {α β : Type} {K : PySem.W.Frag} {px : Px} {W : WX} {σ : L2.St} {rel rel' : Wd → Hp → α → β → Prop} {w : Wd} {e : Ev} {h : Hs} {H : Hp} {Q : β → Hp → Prop} {r : R α} (p : Pre K px W σ rel w e h H Q r) (i : ∀ w H a b, rel' w H a b → rel w H a b) : Pre K px W σ rel' w e h H Q r := ⟨p.rr, by
  have q := p.po
  cases r with
  | ok a h' => exact fun b w' H' x1 x2 x3 x4 => q b w' H' x1 x2 x3 (i _ _ _ _ x4)
  | exc x h' => exact q
  | bad => exact q⟩
abbrev SEF (X : Cx) (px : Px) (W : WX) (e : Expr) (f : Ev → Hs → R D) : Prop := PE X e (rdF X.K px W f)
abbrev Wno : WX := fun _ _ _ _ => False
def rdTs (K : PySem.W.Frag) (px : Px) (W : WX) (f : Ev → Hs → R D) : TT := rdT K px W (tst f)
abbrev STs (X : Cx) (px : Px) (W : WX) (es : List Expr) (f : Ev → Hs → R D) : Prop := PTs X es (rdTs X.K px W f)
section
variable {X : Cx} {px : Px} {W : WX} {e : Expr} {f : Ev → Hs → R D}
theorem SEF.rd {K : PySem.W.Frag} {σ : L2.St} {H : Hp} {Q : VK} (q : rdE K px W f σ H Q) : rdF K px W f σ H Q := by
  obtain ⟨w, e, hh, p⟩ := q
  refine ⟨w, e, hh, p.rr, ?_⟩
  have q := p.po
  cases e1 : f e hh with
  | bad => rw [e1] at q; exact q
  | exc x h' => rw [e1] at q; exact q
  | ok d h' =>
    rw [e1] at q
    rintro v w' H' x1 x2 x3 ⟨a, xs, ds, rfl, rfl, h0, h1, h2, h3⟩
    refine q _ (w'.ug a) H' (x1.ug p.rr.hr.prd h0) x2.ug x3 (.of (.of (.lst ?_ h2 (VRs.ugw h3))))
    rintro (z | z | z)
    · exact (x2.sep a z).2 h1
    · have z : some a ∈ w'.ow := z
      rw [x1.ow] at z
      obtain ⟨i, hi⟩ := List.mem_iff_getElem?.mp z
      exact (p.rr.er.ot i a hi).1 h0
    · exact z.2 rfl
theorem SEF.se (h : SEF X px W e f) : SE X px W e f := PE.of h fun σ H Q q => SEF.rd q
theorem PTs.of {es : List Expr} {t t' : TT} (h : PTs X es t) (i : ∀ σ H Q, t' σ H Q → t σ H Q) : PTs X es t' := ⟨fun pins s σ H Q I q => h.run pins s σ H Q I (i σ H Q q)⟩
theorem sts_nil : STs X px W [] (fun _ h => .ok (.bl true) h) := PTs.of pts_nil fun σ H Q ⟨w, e, h, p⟩ => p.po true w H (Ext.refl _ _) p.rr.hr p.rr.tb rfl
theorem sts_one (h : ST X px W e f) : STs X px W [e] f := pts_one h
end
theorem comp_rd {K : PySem.W.Frag} {px : Px} {W : WX} {vs : List Nat} {fi : Ev → Hs → R (List D)} {t : T} {fc fe : Ev → Hs → R D} (htv : ∀ i ∈ t.is, i ∈ vs) {σ : L2.St} {H : Hp} {Q : VK} (q : rdF K px W (fComp fi t vs fc fe) σ H Q) :
    tLc (rdI K px W false fi) (rdG K t) (rdTs K px Wno fc) (rdE K px Wno fe) vs σ H Q := by
  obtain ⟨w, e, h, p⟩ := q
  refine ⟨w, e, h, p.bind.imp fun J H1 ⟨xs, h1, w1, _, x1, ir, p1⟩ => fun D hD => ?_⟩
  split at p1
  · rename_i hlen
    obtain ⟨zs, hz, ezs⟩ : ∃ zs hz, compL (turnC t vs fc fe e) xs h1 = .ok zs hz := by
      have q := p1.po
      cases e1 : compL (turnC t vs fc fe e) xs h1 with
      | bad => rw [e1] at q; exact q.elim
      | exc x h2 => rw [e1] at q; exact q.elim
      | ok zs hz => exact ⟨zs, hz, rfl⟩
    rw [ezs, R.calm_ok, R.bind_ok] at p1
    obtain ⟨G, Y, hw, hG, hY⟩ := ir.ex
    refine lc_it hw (fun i H2 => ∃ w2 h2 acc ys zs', Ext w1 H1 w2 H2 ∧ HR K w2 h2 H2 ∧ LamX.Tabs px.T H2 ∧ w2.pr D ∧ H2 D = some (.lst acc) ∧ VRs K w2 H2 ys acc ∧ acc.length ≤ i ∧ compL (turnC t vs fc fe e) (xs.drop i) h2 = .ok zs' hz ∧ zs = ys ++ zs') ?_ ?_ ?_ ?_
    · exact ⟨w1.gd D, h1, [], [], zs, Ext.guard hD, p1.rr.hr.guard hD, (p1.rr.new hD).tb, .inr rfl, upd_same, .nil, Nat.le_refl _, ezs, rfl⟩
    · rintro i H2 _ ⟨w2, h2, acc, ys, zs', a1, _⟩
      exact hG w2 H2 a1
    · rintro i x H2 H3 hin ⟨w2, h2, acc, ys, zs', a1, a2, a3, a4, a5, a6, a7, a8, a9⟩ hy
      obtain ⟨d, hd, nw, hv⟩ := hY i w2 H2 x H3 hin a1 hy
      have edrop : xs.drop i = d :: xs.drop (i + 1) := by
        rw [List.drop_eq_getElem_cons hin]
        congr 1
        rw [List.getElem?_eq_getElem hin] at hd
        exact Option.some.inj hd
      rw [edrop] at a8
      obtain ⟨o, h3, zs2, b1, b2, b3⟩ := compL_cons a8
      obtain ⟨e', c, h4, c1, c2, c3⟩ := turnC_ok b1
      have x3 : Ext w1 H1 w2 H3 := a1.trans nw.ext
      have r3 : HR K w2 h2 H3 := a2.nw nw
      have t3 : LamX.Tabs px.T H3 := nw.tabs a3
      have nD : D ∉ w2.hp := fun z => (a2.sep D z).2 a4
      have d3 : H3 D = some (.lst acc) := (nw.ext (w := w2)).keep D _ a5 nD fun ps z => by cases z
      have v3 : VRs K w2 H3 ys acc := a6.ext nw.ext
      have er3 : ER K w2 (e.wipe vs) (L2.wipe σ vs) H3 := (p1.rr.er.ext x3 fun a m => (p1.rr.hr.sep a m).1).wipe _
      refine ⟨w2, e.wipe vs, d, e', hv, er3, c1, fun σ' l hl hm he' => ⟨?_, ?_⟩⟩
      · rw [hl, sets_wipe l _ fun p hp => htv _ (hm p hp), wipe_wipe _ _ fun u hu => hu]
      have done : ∀ {w5 : Wd} {H5 : Hp} {h5 : Hs}, Ext w2 H3 w5 H5 → HR K w5 h5 H5 → LamX.Tabs px.T H5 → Ext w1 H1 w5 H5 ∧ w5.pr D ∧ D ∉ w5.hp ∧ H5 D = some (.lst acc) ∧ VRs K w5 H5 ys acc := fun {w5 H5 h5} y1 y2 y3 => by
        have k1 := y1.pr D a4
        exact ⟨x3.trans y1, k1, fun z => (y2.sep D z).2 k1, y1.keep D _ d3 nD (fun ps z => by cases z), v3.ext y1⟩
      refine ⟨w2, e', h2, ⟨⟨r3, he', t3⟩, ?_⟩⟩
      unfold tst
      rw [c2, R.bind_ok]
      rcases c3 with ⟨c4, y, c5, c6, c7⟩ | ⟨c4, c5, c6⟩
      · rw [c4]
        intro b w5 H5 y1 y2 y3 y4
        cases y4
        rw [if_pos rfl]
        refine ⟨w5, e', h4, ⟨⟨y2, he'.ext y1 fun a m => (r3.sep a m).1, y3⟩, ?_⟩⟩
        rw [c5]
        intro v w6 H6 y5 y6 y7 y8
        obtain ⟨k1, k2, k3, k4, k5⟩ := done (y1.trans y5) y6 y7
        refine ⟨acc, k4, ?_, w6, h3, acc ++ [v], ys ++ [y], zs2, k1.updD hD, y6.updD (.inr (.inr k2)) k3 k4, tabs_updD k4 y7, k2, upd_same, (k5.snoc (VT.keep y8 c6)).updD (.inr (.inr k2)) k4, ?_, b2, ?_⟩
        · rw [← LIM_eq]; exact Nat.lt_of_le_of_lt a7 (Nat.lt_of_lt_of_le hin hlen)
        · rw [List.length_append]; exact Nat.add_le_add_right a7 1
        · rw [a9, b3, c7, List.append_assoc]; rfl
      · rw [c4]
        intro b w5 H5 y1 y2 y3 y4
        cases y4
        rw [if_neg (by simp)]
        obtain ⟨k1, k2, k3, k4, k5⟩ := done y1 y2 y3
        refine ⟨w5, h4, acc, ys, zs2, k1, y2, y3, k2, k4, k5, Nat.le_succ_of_le a7, ?_, ?_⟩
        · rw [← c5]; exact b2
        · rw [a9, b3, c6]
    · rintro H2 ⟨w2, h2, acc, ys, zs', a1, a2, a3, a4, a5, a6, a7, a8, a9⟩
      rw [List.drop_length] at a8
      cases a8
      rw [List.append_nil] at a9
      subst a9
      exact p1.po (.ref D) w2 H2 a1 a2 a3 ⟨D, acc, zs, rfl, rfl, x1.dom D hD, a4, a5, a6⟩
  · exact p1.po.elim
theorem se_compF {X : Cx} {px : Px} {W : WX} {elt tg iter : Expr} {ifs : List Expr} {scope : Scope} {own : List (Str × Nat)} {pos : Pos} {fi : Ev → Hs → R (List D)} {t : T} {fc fe : Ev → Hs → R D} (hc : X.calm = true) (hN : X.N.Nodup) (hi : SI X px W false tg iter fi) (ok : BlkOk X.N X.env.scope scope own)
    (htv : ∀ i ∈ t.is, i ∈ own.map (·.2))
    (hg : ∀ (s : Shared) (H : Hp) (C : Addr) (cl : List (Str × Addr)) (fp : List Addr), SG (X.blk s H scope (compEnvC scope cl C X.env) fp) tg t) (ht : ∀ (s : Shared) (H : Hp) (C : Addr) (cl : List (Str × Addr)) (fp : List Addr), STs (X.blk s H scope (compEnvC scope cl C X.env) fp) px Wno ifs fc)
    (he : ∀ (s : Shared) (H : Hp) (C : Addr) (cl : List (Str × Addr)) (fp : List Addr), SE (X.blk s H scope (compEnvC scope cl C X.env) fp) px Wno elt fe) (hs : ∀ x, foldedSetIterable iter X.env x = pure x) :
    SEF X px W (.ListComp elt [⟨tg, iter, ifs, 0⟩] scope pos) (fComp fi t (own.map (·.2)) fc fe) :=
  PE.of (pe_lc (g := rdG X.K t) (tt := rdTs X.K px Wno fc) (te := rdE X.K px Wno fe) hc hN hi ok hg ht he hs) fun σ H Q q => comp_rd htv q
theorem se_lstF {X : Cx} {px : Px} {W : WX} {es : List Expr} {fr : Ev → Hs → R (List D)} {pos : Pos} (ha : SA X px W es fr) (hl : es.length ≤ 1000) (hn : ∀ e h ds h', fr e h = .ok ds h' → ds.length = es.length) : SEF X px W (.List es pos) (fun e h => (fr e h).bind fun ds h => if ds.all D.keep then .ok (.lst ds) h else .bad) := by
  refine PE.of (pe_lst ha) fun σ H Q ⟨w, e, h, p⟩ => ?_
  refine ⟨w, e, h, p.bind.imp fun x H1 ⟨d1, h1, w1, e1, x1, v1, p1⟩ => ?_⟩
  split at p1
  · rename_i hk
    have v2 := VTs.keep v1 hk
    refine ⟨by rw [← v2.length, hn _ _ _ _ e1, sizeLine_eq]; omega, fun q hq => ?_⟩
    exact p1.po (.ref q) (w1.gd q) _ (Ext.guard hq) (p1.rr.hr.guard hq) (p1.rr.new hq).tb ⟨q, x, d1, rfl, rfl, x1.dom q hq, .inr rfl, upd_same, v2.ext (Ext.guard hq)⟩
  · exact p1.po.elim
end Tv
end

section
set_option autoImplicit false
set_option maxHeartbeats 1000000
/-! Statements. -/
namespace Tv
open PySem PySem.Spec PyProof.Rows L2
def PoS (K : PySem.W.Frag) (px : Px) (W : WX) (D : Ends) (w : Wd) (H : Hp) : R Fl → Prop
  | .ok (.nx e') h' => ∀ w' σ' H', ExtS w H w' H' → RR K px w' e' h' σ' H' → D.nx σ' H'
  | .ok (.rt d) h' => ∀ w' v H', ExtS w H w' H' → HR K w' h' H' → LamX.Tabs px.T H' → VR K w' H' d v → D.rt v H'
  | .exc x h' => ∀ cls dd w' σ' H', ExtS w H w' H' → HR K w' h' H' → LamX.Tabs px.T H' → XR px H' x cls dd → W cls dd σ' H'
  | .bad => False
structure PrS (K : PySem.W.Frag) (px : Px) (W : WX) (D : Ends) (w : Wd) (e : Ev) (h : Hs) (σ : L2.St) (H : Hp) (r : R Fl) : Prop where
  rr : RR K px w e h σ H
  po : PoS K px W D w H r
def rdS (K : PySem.W.Frag) (px : Px) (W : WX) (f : Ev → Hs → R Fl) : TS := fun D σ H => ∃ w e h, PrS K px W D w e h σ H (f e h)
abbrev SS (X : Cx) (px : Px) (W : WX) (s : Stmt) (f : Ev → Hs → R Fl) : Prop := PS X s (rdS X.K px W f)
abbrev SB (X : Cx) (px : Px) (W : WX) (s : List Stmt) (f : Ev → Hs → R Fl) : Prop := PSs X s (rdS X.K px W f)
theorem PS.of {X : Cx} {s : Stmt} {t t' : TS} (h : PS X s t) (i : ∀ D σ H, t' D σ H → t D σ H) : PS X s t' := ⟨fun pins s σ H D I q => h.run pins s σ H D I (i D σ H q)⟩
theorem PSs.of {X : Cx} {s : List Stmt} {t t' : TS} (h : PSs X s t) (i : ∀ D σ H, t' D σ H → t D σ H) : PSs X s t' := ⟨fun pins s σ H D I q => h.run pins s σ H D I (i D σ H q)⟩
section
variable {K : PySem.W.Frag} {px : Px} {W : WX} {D : Ends} {w w1 : Wd} {e : Ev} {h : Hs} {σ : L2.St} {H H1 : Hp} {r : R Fl}
theorem PoS.later (q : PoS K px W D w H r) (x : ExtS w H w1 H1) : PoS K px W D w1 H1 r := by
  cases r with
  | bad => exact q
  | exc y h' => exact fun cls dd w' σ' H' a => q cls dd w' σ' H' (x.trans a)
  | ok f h' =>
    cases f with
    | nx e' => exact fun w' σ' H' a => q w' σ' H' (x.trans a)
    | rt d => exact fun w' v H' a => q w' v H' (x.trans a)
/-- an expression first -/
theorem PrS.bind {α β : Type} {rel : Wd → Hp → α → β → Prop} {a : R α} {k : α → Hs → R Fl} (p : PrS K px W D w e h σ H (a.bind k)) :
    Pre K px W σ rel w e h H (fun v H1 => ∃ d h1 w1, a = .ok d h1 ∧ Ext w H w1 H1 ∧ rel w1 H1 d v ∧ PrS K px W D w1 e h1 σ H1 (k d h1)) a := by
  refine ⟨p.rr, ?_⟩
  have q := p.po
  cases a with
  | bad => exact q
  | exc y h' => exact fun cls dd w' H' x1 x2 x3 x4 => q cls dd w' σ H' x1.s x2 x3 x4
  | ok d h' =>
    intro v w1 H1 x1 x2 x3 x4
    exact ⟨d, h', w1, rfl, x1, x4, p.rr.ext x1 x2 x3, PoS.later q x1.s⟩
theorem PrS.done {e' : Ev} {h' : Hs} (p : PrS K px W D w e h σ H (.ok (.nx e') h')) {w' : Wd} {σ' : L2.St} {H' : Hp} (x : ExtS w H w' H') (r : RR K px w' e' h' σ' H') : D.nx σ' H' := p.po w' σ' H' x r
theorem PoS.mono {D' : Ends} (q : PoS K px W D w H r) (hn : ∀ σ H, D.nx σ H → D'.nx σ H) (hr : ∀ v H, D.rt v H → D'.rt v H) : PoS K px W D' w H r := by
  cases r with
  | bad => exact q
  | exc y h' => exact q
  | ok f h' =>
    cases f with
    | nx e' => exact fun w' σ' H' a b => hn _ _ (q w' σ' H' a b)
    | rt d => exact fun w' v H' a b c d => hr _ _ (q w' v H' a b c d)
theorem PrS.seqX {a : R Fl} {k : Ev → Hs → R Fl} (p : PrS K px W D w e h σ H (a.fl k)) : PrS K px W { D with nx := fun σ' H' => ∃ w' e' h', ExtS w H w' H' ∧ PrS K px W D w' e' h' σ' H' (k e' h') } w e h σ H a := by
  refine ⟨p.rr, ?_⟩
  have q := p.po
  cases a with
  | bad => exact q
  | exc y h' => exact q
  | ok f h' =>
    cases f with
    | nx e' => exact fun w' σ' H' x r => ⟨w', e', h', x, r, PoS.later q x⟩
    | rt d => exact q
theorem PrS.seq {a : R Fl} {k : Ev → Hs → R Fl} (p : PrS K px W D w e h σ H (a.fl k)) : PrS K px W { D with nx := fun σ' H' => ∃ w' e' h', PrS K px W D w' e' h' σ' H' (k e' h') } w e h σ H a :=
  ⟨p.rr, p.seqX.po.mono (fun _ _ ⟨w', e', h', _, q⟩ => ⟨w', e', h', q⟩) (fun _ _ q => q)⟩
end
section
variable {X : Cx} {px : Px} {W : WX} {st : Stmt} {sts : List Stmt} {f g : Ev → Hs → R Fl} {a b c : Expr} {fa fb fc : Ev → Hs → R D} {pos pos' : Pos}
theorem sb_nil : SB X px W [] (fun e h => .ok (.nx e) h) := PSs.of pss_nil fun D σ H ⟨w, e, h, p⟩ => p.done (ExtS.refl _ _) p.rr
theorem sb_cons (h1 : SS X px W st f) (h2 : SB X px W sts g) : SB X px W (st :: sts) (fun e h => (f e h).fl g) :=
  PSs.of (pss_cons h1 h2) fun D σ H ⟨w, e, h, p⟩ => ⟨w, e, h, p.seq⟩
theorem ss_if {ga gb : Ev → Hs → R Fl} {sa sb : List Stmt} (hc : ST X px W c fc) (ha : SB X px W sa ga) (hb : SB X px W sb gb) : SS X px W (.If c sa sb pos) (fun e h => (fc e h).bind fun x h => match x.tru with
    | some true => ga e h
    | some false => gb e h
    | none => .bad) := by
  refine PS.of (ps_if hc ha hb) fun D σ H ⟨w, e, h, p⟩ => ⟨w, e, h, p.rr, ?_⟩
  have q : PoS X.K px W D w H ((fc e h).bind fun x h => match x.tru with
    | some true => ga e h
    | some false => gb e h
    | none => .bad) := p.po
  unfold tst
  cases e1 : fc e h with
  | bad => rw [e1] at q; exact q.elim
  | exc y h' => rw [e1] at q; exact fun cls dd w' H' x1 x2 x3 x4 => q cls dd w' σ H' x1.s x2 x3 x4
  | ok d h' =>
    rw [e1, R.bind_ok] at q
    rw [R.bind_ok]
    cases e2 : d.tru with
    | none => rw [e2] at q; exact q.elim
    | some k =>
      rw [e2] at q
      intro b w1 H1 x1 x2 x3 x4
      cases x4
      cases k with
      | true => rw [if_pos rfl]; exact ⟨w1, e, h', p.rr.ext x1 x2 x3, PoS.later q x1.s⟩
      | false => rw [if_neg (by simp)]; exact ⟨w1, e, h', p.rr.ext x1 x2 x3, PoS.later q x1.s⟩
theorem ss_ex (ha : SE X px W a fa) (hs : swapsWith a none pos.line X.env = pure false) : SS X px W (.Expr a pos) (fun e h => (fa e h).bind fun _ h => .ok (.nx e) h) :=
  PS.of (ps_expr ha hs) fun D σ H ⟨w, e, h, p⟩ => ⟨w, e, h, p.bind.imp fun x H1 ⟨d, h1, w1, _, x1, v1, p1⟩ => p1.done (ExtS.refl _ _) p1.rr⟩
theorem ss_set {i : Nat} {x : Str} (hN : X.N.Nodup) (hn : NmOk X x i) (ha : SE X px W a fa) (hs : swapsWith a (some (.Name x pos')) pos.line X.env = pure false) : SS X px W (.Assign [.Name x pos'] a pos) (fun e h => (fa e h).bind fun x h => if x.keep then .ok (.nx (e.put i (.v x))) h else .bad) := by
  refine PS.of (ps_set hN hn.1 hn.2.1 ha hs hn.2.2) fun D σ H ⟨w, e, h, p⟩ => ⟨w, e, h, p.bind.imp fun x H1 ⟨d, h1, w1, _, x1, v1, p1⟩ => ?_⟩
  split at p1
  · rename_i hk
    exact p1.done (ExtS.refl _ _) ⟨p1.rr.hr, p1.rr.er.put i (.of (VT.keep v1 hk)), p1.rr.tb⟩
  · exact p1.po.elim
theorem ss_asg {t : T} {tg : Expr} (ha : SE X px W a fa) (hg : SG X tg t) (hs : swapsWithSole [tg] a pos.line X.env = pure false) (hw : swappedStores [tg] a X.env = pure none) (h1 : (assignEach [tg] X.env).map (·.2) = [assign tg X.env]) :
    SS X px W (.Assign [tg] a pos) (fun e h => (fa e h).bind fun x h => if x.keep then match putT t x e with
      | some e' => .ok (.nx e') h
      | none => .bad else .bad) := by
  refine PS.of (ps_asg ha hg hs hw h1) fun D σ H ⟨w, e, h, p⟩ => ⟨w, e, h, p.bind.imp fun x H1 ⟨d, h1, w1, _, x1, v1, p1⟩ => ?_⟩
  split at p1
  · rename_i hk
    cases e1 : putT t d e with
    | none => rw [e1] at p1; exact p1.po.elim
    | some e' =>
      rw [e1] at p1
      exact ⟨w1, e, d, e', VT.keep v1 hk, p1.rr.er, e1, fun σ' l hl hm he => p1.done (ExtS.refl _ _) ⟨p1.rr.hr, he, p1.rr.tb⟩⟩
  · exact p1.po.elim
/-! ### loops -/
theorem ss_while {gb : Ev → Hs → R Fl} {body : List Stmt} (n : Nat) (hp : PassesOwn (model X.prog X.w) X.A X.env X.xe) (hc : ST X px W c fc) (hb : SB X px W body gb) : SS X px W (.While c body [] pos) (whlL (fun e h => (fc e h).bind fun x h => R.of x.tru h) gb n) := by
  refine PS.of (ps_while hp hc hb) fun D σ H ⟨w, e, h, p⟩ => ?_
  refine ⟨fun m σ H => ∃ w e h, PrS X.K px W D w e h σ H (whlL (fun e h => (fc e h).bind fun x h => R.of x.tru h) gb m e h), ⟨n, w, e, h, p⟩, ?_⟩
  rintro m σ1 H1 ⟨w1, e1, h1, p1⟩
  cases m with
  | zero => exact p1.po.elim
  | succ m =>
    refine ⟨w1, e1, h1, p1.bind.imp fun b H2 ⟨d, h2, w2, _, x1, v1, p2⟩ => ?_⟩
    cases v1
    cases b with
    | true =>
      rw [if_pos rfl] at p2 ⊢
      exact ⟨fun σ H => ∃ w e h, PrS X.K px W D w e h σ H (whlL (fun e h => (fc e h).bind fun x h => R.of x.tru h) gb m e h), fun σ' H' q => ⟨m, Nat.lt_succ_self m, q⟩, w2, e1, h2, ⟨p2.rr, p2.seq.po.mono (fun _ _ q => q) (fun _ _ q => q)⟩⟩
    | false =>
      rw [if_neg (by simp)] at p2 ⊢
      exact p2.done (ExtS.refl _ _) p2.rr
theorem ss_for {gb : Ev → Hs → R Fl} {body : List Stmt} {tg it : Expr} {t : T} {fi : Ev → Hs → R (List D)} (hp : PassesOwn (model X.prog X.w) X.A X.env X.xe) (hc : X.calm = true) (hi : SI X px W true tg it fi) (hg : SG X tg t) (hb : SB X px W body gb) (hs : ∀ x, foldedSetIterable it X.env x = pure x) :
    SS X px W (.For tg it body [] pos) (fun e h => (fi e h).bind fun xs h => forL (fun x e h => match putT t x e with
      | none => .bad
      | some e' => gb e' h) xs e h) := by
  refine PS.of (ps_for hp hc hi hg hb hs) fun D σ H ⟨w, e, h, p⟩ => ⟨w, e, h, p.bind.imp fun J H1 ⟨xs, h1, w1, _, x1, ir, p1⟩ => ?_⟩
  obtain ⟨G, Y, hw, hG, hY⟩ := ir.ex
  refine for_it hw (fun i σ2 H2 => ∃ w2 e2 h2, ExtS w1 H1 w2 H2 ∧ PrS X.K px W D w2 e2 h2 σ2 H2 (forL (fun x e h => match putT t x e with
      | none => .bad
      | some e' => gb e' h) (xs.drop i) e2 h2)) ⟨w1, e, h1, ExtS.refl _ _, p1⟩ ?_ ?_ ?_
  · rintro i σ2 H2 hi ⟨w2, e2, h2, x2, p2⟩
    exact hG w2 H2 x2
  · rintro i x σ2 H2 H3 hin ⟨w2, e2, h2, x2, p2⟩ hy
    obtain ⟨d, hd, nw, hv⟩ := hY i w2 H2 x H3 hin x2 hy
    have edrop : xs.drop i = d :: xs.drop (i + 1) := by
      rw [List.drop_eq_getElem_cons hin]
      congr 1
      rw [List.getElem?_eq_getElem hin] at hd
      exact Option.some.inj hd
    rw [edrop] at p2
    have x3 : ExtS w1 H1 w2 H3 := x2.trans (nw.ext (w := w2)).s
    have r3 : RR X.K px w2 e2 h2 σ2 H3 := p2.rr.ext nw.ext (p2.rr.hr.nw nw) (nw.tabs p2.rr.tb)
    have p3 : PrS X.K px W D w2 e2 h2 σ2 H3 _ := ⟨r3, PoS.later p2.po (nw.ext (w := w2)).s⟩
    unfold forL at p3
    have p4 := p3.seqX
    cases e1 : putT t d e2 with
    | none => rw [e1] at p4; exact p4.po.elim
    | some e' =>
      rw [e1] at p4
      refine ⟨w2, e2, d, e', hv, r3.er, e1, fun σ' l hl hm he => ⟨w2, e', h2, ⟨r3.hr, he, r3.tb⟩, ?_⟩⟩
      exact p4.po.mono (fun σ H ⟨w', e', h', x4, q⟩ => ⟨w', e', h', x3.trans x4, q⟩) (fun _ _ q => q)
  · rintro σ2 H2 ⟨w2, e2, h2, x2, p2⟩
    rw [List.drop_length] at p2
    exact p2.done (ExtS.refl _ _) p2.rr
/-! ### return -/
def Wd.fin (w : Wd) : Wd := { w with ow := w.ow.map fun _ => none }
theorem fin_none {l : List (Option Addr)} {a : Addr} : ¬ some a ∈ l.map fun _ => (none : Option Addr) := by
  intro z
  obtain ⟨x, _, e⟩ := List.mem_map.mp z
  cases e
theorem ext_fin {w : Wd} {H : Hp} : ExtS w H w.fin H where
  pre := ⟨[], by simp [Wd.fin], fun _ h => by cases h⟩
  fo := fun a h => by
    rcases h with h | h | h
    · exact .inl (.inl h)
    · exact (fin_none h).elim
    · exact .inl (.inr (.inr h))
  keep := fun _ _ h _ _ _ => h
  tups := fun _ _ h => h
  mi := fun a h => (fin_none h).elim
  pr := fun _ h => h
  dom := fun _ h => h
theorem get_fin : ∀ (e : Ev) (i : Nat), e.fin.get i = (e.get i).fin
  | [], _ => rfl
  | x :: r, 0 => rfl
  | x :: r, n + 1 => get_fin r n
theorem HR.exts {K : PySem.W.Frag} {w w' : Wd} {h : Hs} {H : Hp} (r : HR K w h H) (x : ExtS w H w' H) (e : w'.hp = w.hp) (ow : ∀ a, some a ∈ w'.ow → a ∉ w.hp) (pr : ∀ a, w'.pr a ↔ w.pr a) : HR K w' h H where
  len := by rw [e]; exact r.len
  nd := by rw [e]; exact r.nd
  ob := fun i a o h1 h2 => by
    rw [e] at h1
    have q := r.ob i a o h1 h2
    cases o with
    | lst ds =>
      obtain ⟨xs, q1, q2, q3⟩ := q
      exact ⟨xs, q1, q2.exts x, q3⟩
    | ins c fs =>
      obtain ⟨dx, vs, q1, q2⟩ := q
      exact ⟨dx, vs, q1, q2.map fun z => z.exts x⟩
    | dct kvs =>
      obtain ⟨ks, q1, q2⟩ := q
      exact ⟨ks, q1, q2.map fun z => z.exts x⟩
  sep := fun a ha => ⟨fun z => ow a z (by rw [← e]; exact ha), fun z => (r.sep a (by rw [← e]; exact ha)).2 ((pr a).mp z)⟩
  prd := fun a q => r.prd a ((pr a).mp q)
theorem RR.fin {K : PySem.W.Frag} {w : Wd} {e : Ev} {h : Hs} {σ : L2.St} {H : Hp} (r : RR K px w e h σ H) : RR K px w.fin e.fin h σ H where
  hr := r.hr.exts ext_fin rfl (fun a z => (fin_none z).elim) fun a => Iff.rfl
  er := {
    len := by unfold Ev.fin; rw [List.length_map]; exact r.er.len
    wl := by show (w.ow.map _).length = _; rw [List.length_map]; exact r.er.wl
    sl := fun i => by
      rw [get_fin]
      have q := r.er.sl i
      cases e1 : e.get i with
      | u => trivial
      | v d =>
        rw [e1] at q
        obtain ⟨v, h1, h2⟩ := q
        exact ⟨v, h1, h2.exts ext_fin⟩
      | k kvs => trivial
      | o ds =>
        rw [e1] at q
        obtain ⟨a, xs, h1, h2, h3, h4, _⟩ := q
        have m : some a ∈ w.ow := List.mem_iff_getElem?.mpr ⟨i, h2⟩
        refine ⟨.ref a, h1, .of (.lst ?_ h3 (h4.exts ext_fin))⟩
        rintro (z | z | z)
        · exact (r.hr.sep a z).1 m
        · exact fin_none z
        · exact (r.er.ot i a h2).2 z
    inj := fun i j a h => (fin_none (List.mem_iff_getElem?.mpr ⟨i, h⟩)).elim
    ot := fun i a h => (fin_none (List.mem_iff_getElem?.mpr ⟨i, h⟩)).elim }
  tb := r.tb
theorem ss_ret (ha : SE X px W a fa) : SS X px W (.Return (some a) pos) (fun e h => (fa e.fin h).bind fun x h => if x.keep then .ok (.rt x) h else .bad) := by
  refine PS.of (ps_ret ha) fun D σ H ⟨w, e, h, p⟩ => ?_
  refine ⟨w.fin, e.fin, h, p.rr.fin, ?_⟩
  have q : PoS X.K px W D w.fin H ((fa e.fin h).bind fun x h => if x.keep then .ok (.rt x) h else .bad) := PoS.later p.po ext_fin
  cases e1 : fa e.fin h with
  | bad => rw [e1] at q; exact q
  | exc y h' => rw [e1] at q; exact fun cls dd w' H' x1 x2 x3 x4 => q cls dd w' σ H' x1.s x2 x3 x4
  | ok d h' =>
    rw [e1, R.bind_ok] at q
    intro v w1 H1 x1 x2 x3 x4
    split at q
    · rename_i hk
      exact q w1 v H1 x1.s x2 x3 (VT.keep x4 hk)
    · exact q.elim
theorem ss_retP (ha : SE X px W a fa) : SS X px W (.Return (some a) pos) (fun e h => (fa e h).bind fun x h => if x.keep then .ok (.rt x) h else .bad) := by
  refine PS.of (ps_ret ha) fun D σ H ⟨w, e, h, p⟩ => ?_
  refine ⟨w, e, h, p.rr, ?_⟩
  have q : PoS X.K px W D w H ((fa e h).bind fun x h => if x.keep then .ok (.rt x) h else .bad) := p.po
  cases e1 : fa e h with
  | bad => rw [e1] at q; exact q
  | exc y h' => rw [e1] at q; exact fun cls dd w' H' x1 x2 x3 x4 => q cls dd w' σ H' x1.s x2 x3 x4
  | ok d h' =>
    rw [e1, R.bind_ok] at q
    intro v w1 H1 x1 x2 x3 x4
    split at q
    · rename_i hk
      exact q w1 v H1 x1.s x2 x3 (VT.keep x4 hk)
    · exact q.elim
theorem ss_retN : SS X px W (.Return none pos) (fun _ h => .ok (.rt .non) h) :=
  PS.of ps_retN fun D σ H ⟨w, e, h, p⟩ => p.po w .non H (ExtS.refl _ _) p.rr.hr p.rr.tb .non
/-! ### lists of a name's own -/
/-- slot i's own list at a (or none) -/
def Wd.put (w : Wd) (i : Nat) (a : Option Addr) : Wd := { w with ow := w.ow.set i a }
theorem mem_set {α : Type} {l : List α} {i : Nat} {x y : α} (h : y ∈ l.set i x) : y ∈ l ∨ y = x := List.mem_or_eq_of_mem_set h
theorem ext_put {w : Wd} {H : Hp} {i : Nat} {a : Option Addr} (h : ∀ b, a = some b → w.forb b ∨ True) (hm : ∀ b, a = some b → some b ∈ w.ow) : ExtS w H (w.put i a) H where
  pre := ⟨[], by simp [Wd.put], fun _ h => by cases h⟩
  fo := fun b z => by
    rcases z with z | z | z
    · exact .inl (.inl z)
    · rcases mem_set z with q | q
      · exact .inl (.inr (.inl q))
      · exact .inl (.inr (.inl (hm b q.symm)))
    · exact .inl (.inr (.inr z))
  keep := fun _ _ h _ _ _ => h
  tups := fun _ _ h => h
  mi := fun b z => by
    rcases mem_set z with q | q
    · exact .inl q
    · exact .inl (hm b q.symm)
  pr := fun _ h => h
  dom := fun _ h => h
theorem ow_set {w : Wd} {i j : Nat} {a : Option Addr} {b : Addr} (h : (w.put i a).ow[j]? = some (some b)) : (j = i ∧ a = some b) ∨ (j ≠ i ∧ w.ow[j]? = some (some b)) := by
  have h : (w.ow.set i a)[j]? = some (some b) := h
  by_cases hj : i = j
  · subst hj
    by_cases hl : i < w.ow.length
    · rw [List.getElem?_set_self hl] at h
      exact .inl ⟨rfl, Option.some.inj h⟩
    · rw [List.getElem?_eq_none (by rw [List.length_set]; omega)] at h; cases h
  · rw [List.getElem?_set_ne hj] at h
    exact .inr ⟨fun e => hj e.symm, h⟩
end
end Tv
end

section
set_option autoImplicit false
set_option maxHeartbeats 1000000
/-! Lists that names own; the heap's own lists. -/
namespace Tv
open PySem PySem.Spec PyProof.Rows L2
section
variable {K : PySem.W.Frag} {px : Px} {W : WX} {w w1 : Wd} {e : Ev} {h h1 : Hs} {σ : L2.St} {H H1 : Hp}
/-- the list at a is slot i's own from now on -/
def Wd.own (w : Wd) (i : Nat) (a : Addr) : Wd := { w.ug a with ow := w.ow.set i (some a) }
theorem Wd.own_forb {i : Nat} {a b : Addr} (ha : w.pr a) (h : (w.own i a).forb b) : w.forb b := by
  rcases h with z | z | z
  · exact .inl z
  · rcases mem_set z with q | q
    · exact .inr (.inl q)
    · rw [Option.some.inj q]; exact .inr (.inr ha)
  · exact .inr (.inr z.1)
theorem ext_own {i : Nat} {a : Addr} (x : Ext w H w1 H1) (hp : ∀ b, w.pr b → H b ≠ none) (ha : H a = none) (h1 : w1.pr a) : ExtS w H (w1.own i a) H1 where
  pre := x.pre
  fo := fun b z => x.s.fo b (Wd.own_forb h1 z)
  keep := x.s.keep
  tups := x.tups
  mi := fun b z => by
    rcases mem_set z with q | q
    · exact .inl (by rw [← x.ow]; exact q)
    · rw [Option.some.inj q]; exact .inr ha
  pr := fun b z => ⟨x.pr b z, fun e => hp b z (by rw [e]; exact ha)⟩
  dom := x.dom
theorem get_set {α : Type} {l : List α} {i j : Nat} {x y : α} (h : (l.set i x)[j]? = some y) : (j = i ∧ y = x ∧ i < l.length) ∨ (j ≠ i ∧ l[j]? = some y) := by
  by_cases hj : i = j
  · subst hj
    by_cases hl : i < l.length
    · rw [List.getElem?_set_self hl] at h
      exact .inl ⟨rfl, (Option.some.inj h).symm, hl⟩
    · rw [List.getElem?_eq_none (by rw [List.length_set]; omega)] at h; cases h
  · rw [List.getElem?_set_ne hj] at h
    exact .inr ⟨fun e => hj e.symm, h⟩
/-- a slot other than the one that changes -/
theorem SlR.oth {w' : Wd} {H' : Hp} (x : ExtS w H w' H') {j : Nat} {s : Option (Option V)} (ho : ∀ a, w.ow[j]? = some (some a) → w'.ow[j]? = some (some a) ∧ ∀ o, H a = some o → (∀ ps, o ≠ .tbl ps) → H' a = some o) : ∀ {y : Sl}, SlR K w H j s y → SlR K w' H' j s y
  | .u, _ => trivial
  | .v d, ⟨v, q1, q2⟩ => ⟨v, q1, q2.exts x⟩
  | .o ds, ⟨a, xs, q1, q2, q3, q4, q5⟩ => ⟨a, xs, q1, (ho a q2).1, (ho a q2).2 _ q3 (fun ps z => by cases z), q4.exts x, q5⟩
  | .k t kvs, ⟨a, o, q1, q2, z, q4⟩ => ⟨a, o, q1, (ho a q2).1, (ho a q2).2 _ z q4.nt, q4.mapP fun y => y.exts x⟩
/-- a new list, owned -/
theorem RR.ownG (r : RR K px w e h σ H) (x : Ext w H w1 H1) (hr : HR K w1 h1 H1) (tb : LamX.Tabs px.T H1) (i : Nat) {a : Addr} {o : HO} {s : Sl} (ha : H a = none) (hf : w1.pr a) (hl : H1 a = some o) (hs : (w1.own i a).ow[i]? = some (some a) → SlR K (w1.own i a) H1 i (some (some (.ref a))) s) :
    RR K px (w1.own i a) (e.put i s) h1 (σ.set i (some (.ref a))) H1 := by
  have xs1 := ext_own (i := i) x r.hr.prd ha hf
  have sep : ∀ b, b ∈ w.hp → some b ∉ w.ow := fun b m => (r.hr.sep b m).1
  have hweak : ∀ {ds : List D} {xs : List V}, VRs K w1 H1 ds xs → VRs K (w1.own i a) H1 ds xs := fun {ds xs} q => by
    have e : (w1.own i a).hp = w1.hp := rfl
    exact VRs.weak e (fun b => Wd.own_forb hf) q
  have hweak1 : ∀ {d : D} {v : V}, VR K w1 H1 d v → VR K (w1.own i a) H1 d v := fun {d v} q => by
    have e : (w1.own i a).hp = w1.hp := rfl
    exact VR.weak e (fun b => Wd.own_forb hf) q
  have ot1 := (r.er.ext x sep).ot
  refine ⟨?_, ⟨?_, ?_, fun j => ?_, fun j k b q1 q2 => ?_, fun j b q => ?_⟩, tb⟩
  · refine ⟨hr.len, hr.nd, fun j b o q1 q2 => ?_, fun b hb => ⟨fun z => ?_, fun z => (hr.sep b hb).2 z.1⟩, fun b z => hr.prd b z.1⟩
    · have q := hr.ob j b o q1 q2
      cases o with
      | lst es =>
        obtain ⟨ys, z1, z2, z3⟩ := q
        exact ⟨ys, z1, hweak z2, z3⟩
      | ins c fs =>
        obtain ⟨dx, vs, z1, z2⟩ := q
        exact ⟨dx, vs, z1, z2.map fun z => hweak1 z⟩
      | dct kvs =>
        obtain ⟨ks, z1, z2⟩ := q
        exact ⟨ks, z1, z2.map fun z => hweak1 z⟩
    · rcases mem_set z with q | q
      · exact (hr.sep b hb).1 q
      · rw [Option.some.inj q] at hb; exact (hr.sep a hb).2 hf
  · rw [Ev.length_put, List.length_set]; exact r.er.len
  · show (w1.ow.set i _).length = _
    rw [List.length_set, List.length_set, x.ow]; exact r.er.wl
  · by_cases hj : i = j
    · subst hj
      rcases Ev.get_put e i s with q | ⟨q1, q2⟩
      · rw [q]; trivial
      · rw [q2]
        have h2 : i < σ.length := by rw [← r.er.len]; exact q1
        rw [List.getElem?_set_self h2]
        exact hs (List.getElem?_set_self (by rw [x.ow, r.er.wl]; exact h2))
    · rw [Ev.get_put_ne e _ hj, List.getElem?_set_ne hj]
      refine SlR.oth xs1 (fun b q => ⟨?_, fun o z zt => ?_⟩) (r.er.sl j)
      · show (w1.ow.set i _)[j]? = _
        rw [List.getElem?_set_ne hj, x.ow]; exact q
      · exact x.keep b o z (fun m => sep b m (List.mem_iff_getElem?.mpr ⟨j, q⟩)) zt
  · rcases get_set q1 with ⟨a1, a2, _⟩ | ⟨a1, a2⟩ <;> rcases get_set q2 with ⟨b1, b2, _⟩ | ⟨b1, b2⟩
    · rw [a1, b1]
    · rw [x.ow] at b2
      cases a2
      exact ((r.er.ot _ _ b2).1 ha).elim
    · rw [x.ow] at a2
      cases b2
      exact ((r.er.ot _ _ a2).1 ha).elim
    · rw [x.ow] at a2 b2
      exact r.er.inj j k b a2 b2
  · rcases get_set q with ⟨a1, a2, _⟩ | ⟨a1, a2⟩
    · cases a2
      exact ⟨(by rw [hl]; exact Option.some_ne_none _), fun z => z.2 rfl⟩
    · have z := ot1 j b a2
      exact ⟨z.1, fun y => z.2 y.1⟩
theorem RR.own (r : RR K px w e h σ H) (x : Ext w H w1 H1) (hr : HR K w1 h1 H1) (tb : LamX.Tabs px.T H1) (i : Nat) {a : Addr} {xs : List V} {ds : List D} (ha : H a = none) (hf : w1.pr a) (hl : H1 a = some (.lst xs)) (hv : VRs K w1 H1 ds xs) (hk : ds.all D.keep = true) :
    RR K px (w1.own i a) (e.put i (.o ds)) h1 (σ.set i (some (.ref a))) H1 := by
  refine r.ownG x hr tb i ha hf hl fun z => ?_
  have e : (w1.own i a).hp = w1.hp := rfl
  exact ⟨a, xs, rfl, z, hl, VRs.weak e (fun b => Wd.own_forb hf) hv, hk⟩
theorem RR.ownK (r : RR K px w e h σ H) (x : Ext w H w1 H1) (hr : HR K w1 h1 H1) (tb : LamX.Tabs px.T H1) (i : Nat) {a : Addr} {t : Bool} {o : HO} (ha : H a = none) (hf : w1.pr a) (hl : H1 a = some o) (hv : KvR K (w1.own i a) H1 [] t o) :
    RR K px (w1.own i a) (e.put i (.k t [])) h1 (σ.set i (some (.ref a))) H1 :=
  r.ownG x hr tb i ha hf hl fun z => ⟨a, o, rfl, z, hl, hv⟩
theorem VS.updD {D : Addr} {o0 o1 : HO} [Mu o0] (hp : w.forb D) (hD : H D = some o0) (hs : ∀ b, b ∉ w.hp → some b ∉ w.ow → b ≠ D) {d : Tv.D} {v : V} (q : VS K w H d v) : VS K w (upd H D o1) d v := by
  cases q with
  | of q => exact .of (q.updD hp hD)
  | scrK q r => exact .scrK q (r.updD hp hD)
  | @scr a xs ds n1 n2 q r =>
    refine .scr n1 n2 ?_ (r.updD hp hD)
    rcases q with q | ⟨o, q⟩
    · exact .inl (by rw [upd_ne (hs a n1 n2)]; exact q)
    · exact .inr ⟨o, by rw [upd_ne (hs a n1 n2)]; exact q⟩
theorem SlR.updD {D : Addr} {o0 o1 : HO} [Mu o0] (hp : w.forb D) (hD : H D = some o0) (hs : ∀ b, b ∉ w.hp → some b ∉ w.ow → b ≠ D) {j : Nat} (ho : ∀ b, w.ow[j]? = some (some b) → b ≠ D) {s : Option (Option V)} : ∀ {y : Sl}, SlR K w H j s y → SlR K w (upd H D o1) j s y
  | .u, _ => trivial
  | .v d, ⟨v, q1, q2⟩ => ⟨v, q1, q2.updD hp hD hs⟩
  | .o ds, ⟨a, xs, q1, q2, q3, q4, q5⟩ => ⟨a, xs, q1, q2, by rw [upd_ne (ho a q2)]; exact q3, q4.updD hp hD, q5⟩
  | .k t kvs, ⟨a, o, q1, q2, z, q4⟩ => ⟨a, o, q1, q2, by rw [upd_ne (ho a q2)]; exact z, q4.mapP fun y => y.updD hp hD⟩
theorem ext_updD {D : Addr} {o0 o1 : HO} [Mu o0] (hp : D ∈ w.hp ∨ some D ∈ w.ow) (hD : H D = some o0) : ExtS w H w (upd H D o1) where
  pre := ⟨[], by simp, fun _ h => by cases h⟩
  fo := fun a h => .inl h
  keep := fun a o q n1 n2 _ => by
    have ha : a ≠ D := fun e => by
      rcases hp with z | z
      · exact n1 (by rw [e]; exact z)
      · exact n2 (by rw [e]; exact z)
    rw [upd_ne ha]; exact q
  tups := fun a xs q => by
    rw [upd_ne (fun e => by rw [e] at q; exact Mu.no hD q rfl)]; exact q
  mi := fun _ h => .inl h
  pr := fun _ h => h
  dom := fun a q => by
    by_cases ha : a = D
    · rw [ha, upd_same] at q; cases q
    · rw [upd_ne ha] at q; exact q
/-- slot i's own list changes -/
theorem RR.slot (r : RR K px w e h σ H) {i : Nat} {ds : List D} (hi : e.get i = .o ds) : ∃ a xs, σ[i]? = some (some (.ref a)) ∧ H a = some (.lst xs) ∧ VRs K w H ds xs ∧ ds.all D.keep = true ∧ some a ∈ w.ow ∧ w.ow[i]? = some (some a) ∧
    ∀ ds' xs', VRs K w H ds' xs' → ds'.all D.keep = true → RR K px w (e.put i (.o ds')) h σ (upd H a (.lst xs')) ∧ ExtS w H w (upd H a (.lst xs')) := by
  have q := r.er.sl i
  rw [hi] at q
  obtain ⟨a, xs, q1, q2, q3, q4, q5⟩ := q
  have m : some a ∈ w.ow := List.mem_iff_getElem?.mpr ⟨i, q2⟩
  have nh : a ∉ w.hp := fun z => (r.hr.sep a z).1 m
  refine ⟨a, xs, q1, q3, q4, q5, m, q2, fun ds' xs' hv hk => ⟨⟨r.hr.updD (.inr (.inl m)) nh q3, ⟨?_, r.er.wl, fun j => ?_, r.er.inj, fun j b z => ⟨fun y => ?_, (r.er.ot j b z).2⟩⟩, tabs_updD q3 r.tb⟩, ext_updD (.inr m) q3⟩⟩
  · rw [Ev.length_put]; exact r.er.len
  · by_cases hj : i = j
    · subst hj
      rcases Ev.get_put e i (.o ds') with z | ⟨z1, z2⟩
      · rw [z]; trivial
      · rw [z2]
        exact ⟨a, xs', q1, q2, upd_same, hv.updD (.inr (.inl m)) q3, hk⟩
    · rw [Ev.get_put_ne e _ hj]
      refine SlR.updD (.inr (.inl m)) q3 (fun b n1 n2 z => n2 (by rw [z]; exact m)) (fun b z y => hj ?_) (r.er.sl j)
      rw [y] at z
      exact r.er.inj i j a q2 z
  · by_cases hb : b = a
    · rw [hb, upd_same] at y; cases y
    · rw [upd_ne hb] at y; exact (r.er.ot j b z).1 y
theorem KvR.mu {kvs : List (D × D)} : ∀ {t : Bool} {o : HO}, KvR K w H kvs t o → Mu o
  | false, _, ⟨_, h, _⟩ => by rw [h]; exact inferInstance
  | true, _, ⟨_, h, _⟩ => by rw [h]; exact inferInstance
/-- slot i's own dict changes -/
theorem RR.slotK (r : RR K px w e h σ H) {i : Nat} {t : Bool} {kvs : List (D × D)} (hi : e.get i = .k t kvs) : ∃ a o, σ[i]? = some (some (.ref a)) ∧ H a = some o ∧ KvR K w H kvs t o ∧ some a ∈ w.ow ∧ w.ow[i]? = some (some a) ∧
    ∀ kvs' o', KvR K w H kvs' t o' → RR K px w (e.put i (.k t kvs')) h σ (upd H a o') ∧ ExtS w H w (upd H a o') := by
  have q := r.er.sl i
  rw [hi] at q
  obtain ⟨a, o, q1, q2, q3, q4⟩ := q
  have mu : Mu o := q4.mu
  have m : some a ∈ w.ow := List.mem_iff_getElem?.mpr ⟨i, q2⟩
  have nh : a ∉ w.hp := fun z => (r.hr.sep a z).1 m
  refine ⟨a, o, q1, q3, q4, m, q2, fun kvs' o' hv => ⟨⟨r.hr.updD (.inr (.inl m)) nh q3, ⟨?_, r.er.wl, fun j => ?_, r.er.inj, fun j b z => ⟨fun y => ?_, (r.er.ot j b z).2⟩⟩, tabs_updD q3 r.tb⟩, ext_updD (.inr m) q3⟩⟩
  · rw [Ev.length_put]; exact r.er.len
  · by_cases hj : i = j
    · subst hj
      rcases Ev.get_put e i (.k t kvs') with z | ⟨z1, z2⟩
      · rw [z]; trivial
      · rw [z2]
        exact ⟨a, o', q1, q2, upd_same, hv.mapP fun y => y.updD (.inr (.inl m)) q3⟩
    · rw [Ev.get_put_ne e _ hj]
      refine SlR.updD (.inr (.inl m)) q3 (fun b n1 n2 z => n2 (by rw [z]; exact m)) (fun b z y => hj ?_) (r.er.sl j)
      rw [y] at z
      exact r.er.inj i j a q2 z
  · by_cases hb : b = a
    · rw [hb, upd_same] at y; cases y
    · rw [upd_ne hb] at y; exact (r.er.ot j b z).1 y
/-- a list of the small heap changes -/
theorem RR.heap (r : RR K px w e h σ H) {k : Nat} {ds : List D} (hi : h[k]? = some (.lst ds)) {v : V} (hv : VR K w H (.ref k) v) : ∃ a xs, v = .ref a ∧ H a = some (.lst xs) ∧ VRs K w H ds xs ∧ ds.all D.keep = true ∧
    ∀ ds' xs', VRs K w H ds' xs' → ds'.all D.keep = true → RR K px w e (h.set k (.lst ds')) σ (upd H a (.lst xs')) ∧ ExtS w H w (upd H a (.lst xs')) := by
  cases hv with
  | @ref _ a ha =>
    obtain ⟨xs, q3, q4, q5⟩ := r.hr.ob k a _ ha hi
    have m : a ∈ w.hp := List.mem_iff_getElem?.mpr ⟨k, ha⟩
    refine ⟨a, xs, rfl, q3, q4, q5, fun ds' xs' hv hk => ⟨⟨⟨?_, r.hr.nd, fun j b o z1 z2 => ?_, r.hr.sep, fun b z y => ?_⟩, ⟨r.er.len, r.er.wl, fun j => ?_, r.er.inj, fun j b z => ⟨fun y => ?_, (r.er.ot j b z).2⟩⟩, tabs_updD q3 r.tb⟩, ext_updD (.inl m) q3⟩⟩
    · rw [List.length_set]; exact r.hr.len
    · rcases get_set z2 with ⟨b1, b2, _⟩ | ⟨b1, b2⟩
      · subst b1 b2
        rw [ha] at z1
        cases z1
        exact ⟨xs', upd_same, hv.updD (.inl m) q3, hk⟩
      · have q := r.hr.ob j b o z1 b2
        cases o with
        | lst es =>
          obtain ⟨ys, c1, c2, c3⟩ := q
          have hb : b ≠ a := fun z => b1 (by
            rw [z] at z1
            obtain ⟨l1, e1⟩ := List.getElem?_eq_some_iff.mp z1
            obtain ⟨l2, e2⟩ := List.getElem?_eq_some_iff.mp ha
            exact (List.getElem_inj r.hr.nd).mp (e1.trans e2.symm))
          exact ⟨ys, by rw [upd_ne hb]; exact c1, c2.updD (.inl m) q3, c3⟩
        | ins c fs =>
          obtain ⟨dx, vs, c1, c2⟩ := q
          have hb : b ≠ a := fun z => b1 (by
            rw [z] at z1
            obtain ⟨l1, e1⟩ := List.getElem?_eq_some_iff.mp z1
            obtain ⟨l2, e2⟩ := List.getElem?_eq_some_iff.mp ha
            exact (List.getElem_inj r.hr.nd).mp (e1.trans e2.symm))
          exact ⟨dx, vs, by rw [upd_ne hb]; exact c1, c2.map fun z => VR.updD (.inl m) q3 z⟩
        | dct kvs =>
          obtain ⟨ks, c1, c2⟩ := q
          have hb : b ≠ a := fun z => b1 (by
            rw [z] at z1
            obtain ⟨l1, e1⟩ := List.getElem?_eq_some_iff.mp z1
            obtain ⟨l2, e2⟩ := List.getElem?_eq_some_iff.mp ha
            exact (List.getElem_inj r.hr.nd).mp (e1.trans e2.symm))
          exact ⟨ks, by rw [upd_ne hb]; exact c1, c2.map fun z => VR.updD (.inl m) q3 z⟩
    · by_cases hb : b = a
      · rw [hb, upd_same] at y; cases y
      · rw [upd_ne hb] at y; exact r.hr.prd b z y
    · refine SlR.updD (.inl m) q3 (fun b n1 n2 z => n1 (by rw [z]; exact m)) (fun b z y => ?_) (r.er.sl j)
      rw [y] at z
      exact (r.hr.sep a m).1 (List.mem_iff_getElem?.mpr ⟨j, z⟩)
    · by_cases hb : b = a
      · rw [hb, upd_same] at y; cases y
      · rw [upd_ne hb] at y; exact (r.er.ot j b z).1 y
/-- slot i's own list is a value from now on -/
theorem ext_drop {i : Nat} : ExtS w H (w.put i none) H := ext_put (fun _ h => by cases h) (fun _ h => by cases h)
theorem RR.frz (r : RR K px w e h σ H) {i : Nat} {ds : List D} (hi : e.get i = .o ds) : RR K px (w.put i none) (e.put i (.v (.lst ds))) h σ H := by
  have q := r.er.sl i
  rw [hi] at q
  obtain ⟨a, xs, q1, q2, q3, q4, q5⟩ := q
  have m : some a ∈ w.ow := List.mem_iff_getElem?.mpr ⟨i, q2⟩
  have sub : ∀ b, some b ∈ (w.put i none).ow → some b ∈ w.ow := fun b z => by
    rcases mem_set z with y | y
    · exact y
    · cases y
  refine ⟨r.hr.exts ext_drop rfl (fun b z y => (r.hr.sep b y).1 (sub b z)) fun b => Iff.rfl, ⟨?_, ?_, fun j => ?_, fun j k b z1 z2 => ?_, fun j b z => ?_⟩, r.tb⟩
  · rw [Ev.length_put]; exact r.er.len
  · show (w.ow.set i none).length = _
    rw [List.length_set]; exact r.er.wl
  · by_cases hj : i = j
    · subst hj
      rcases Ev.get_put e i (.v (.lst ds)) with z | ⟨z1, z2⟩
      · rw [z]; trivial
      · rw [z2]
        refine ⟨.ref a, q1, .of (.lst ?_ q3 (q4.exts ext_drop))⟩
        rintro (z | z | z)
        · exact (r.hr.sep a z).1 m
        · obtain ⟨j, hj⟩ := List.mem_iff_getElem?.mp z
          rcases get_set hj with ⟨_, b2, _⟩ | ⟨b1, b2⟩
          · cases b2
          · exact b1 (r.er.inj j i a b2 q2)
        · exact (r.er.ot i a q2).2 z
    · rw [Ev.get_put_ne e _ hj]
      refine SlR.oth ext_drop (fun b q => ⟨?_, fun o z _ => z⟩) (r.er.sl j)
      show (w.ow.set i none)[j]? = _
      rw [List.getElem?_set_ne hj]; exact q
  · rcases get_set z1 with ⟨_, b, _⟩ | ⟨_, b⟩
    · cases b
    · rcases get_set z2 with ⟨_, c, _⟩ | ⟨_, c⟩
      · cases c
      · exact r.er.inj j k _ b c
  · rcases get_set z with ⟨_, b, _⟩ | ⟨_, b⟩
    · cases b
    · exact r.er.ot j _ b
end
end Tv
end

section
set_option autoImplicit false
set_option maxHeartbeats 1000000
/-! Statements over lists that change; raise. -/
namespace Tv
open PySem PySem.Spec PyProof.Rows L2
section
variable {X : Cx} {px : Px} {W : WX} {sts : List Stmt} {f g : Ev → Hs → R Fl} {a b c : Expr} {fa fb fc : Ev → Hs → R D} {pos pos' pos2 p apos cpos : Pos} {i j : Nat} {x y : Str}
/-- a name that may be read -/
structure RdOk (X : Cx) (x : Str) (i : Nat) : Prop where
  ix : X.N[i]? = some x
  vis : Vis X.env.scope x
  db : (x == ("__debug__" : Str)) = false
  cd : (x == ("__classdict__" : Str)) = false
theorem RdOk.pe (h : RdOk X x i) {p : Pos} : PE X (.Name x p) (tVar i) := pe_var h.ix h.vis h.db h.cd
/-- ghosts -/
def fFrz (i : Nat) : Ev → Hs → R Fl := fun e h => (match e.get i with
    | .o xs => .ok (.nx (e.put i (.v (.lst xs)))) h
    | _ => .bad)
theorem sb_frz (i : Nat) (h : SB X px W sts g) : SB X px W sts (fun e h => (fFrz i e h).fl g) := by
  refine PSs.of h fun D σ H ⟨w, e, h, p⟩ => ?_
  unfold fFrz at p
  dsimp only at p
  cases e1 : e.get i with
  | o xs =>
    rw [e1] at p
    exact ⟨w.put i none, _, h, p.rr.frz e1, PoS.later p.po ext_drop⟩
  | u => rw [e1] at p; exact p.po.elim
  | v d => rw [e1] at p; exact p.po.elim
  | k kvs => rw [e1] at p; exact p.po.elim
/-! ### x = [..], the list x's own -/
def fOwn (i : Nat) (fa : Ev → Hs → R D) : Ev → Hs → R Fl := fun e h => (fa e h).bind fun x h => (match x with
    | .lst xs => if xs.all D.keep then .ok (.nx (e.put i (.o xs))) h else .bad
    | _ => .bad)
theorem own_rd {K : PySem.W.Frag} {En : Ends} {σ : L2.St} {H : Hp} (q : rdS K px W (fOwn i fa) En σ H) : tAsg (rdF K px W fa) (gName i) En σ H := by
  obtain ⟨w, e, h, p⟩ := q
  refine ⟨w, e, h, p.rr, ?_⟩
  have q := p.po
  unfold fOwn at q
  cases e1 : fa e h with
  | bad => rw [e1] at q; exact q
  | exc y h' => rw [e1] at q; exact fun cls dd w' H' x1 x2 x3 x4 => q cls dd w' σ H' x1.s x2 x3 x4
  | ok d h' =>
    rw [e1, R.bind_ok] at q
    rintro v w1 H1 x1 x2 x3 ⟨a, xs, ds, rfl, rfl, h0, h1, h2, h3⟩
    dsimp only at q
    split at q
    · rename_i hk
      exact q (w1.own i a) _ H1 (ext_own x1 p.rr.hr.prd h0 h1) (p.rr.own x1 x2 x3 i h0 h1 h2 h3 hk)
    · exact q.elim
theorem ss_own (hN : X.N.Nodup) (hn : NmOk X x i) (ha : SEF X px W a fa) (hs : swapsWith a (some (.Name x pos')) pos.line X.env = pure false) : SS X px W (.Assign [.Name x pos'] a pos) (fOwn i fa) :=
  PS.of (ps_set hN hn.1 hn.2.1 ha hs hn.2.2) fun D σ H q => own_rd q
/-! ### a new list by an operator -/
def lstO (d : D) (h : Hs) : R D := match d with
  | .lst xs => .ok (.lst xs) h
  | _ => .bad
def rdL (K : PySem.W.Frag) (px : Px) (W : WX) (f : Ev → Hs → R D) : TE := fun σ H Q => ∃ w e h, Pre K px W σ (relF K H) w e h H Q ((f e h).bind lstO)
abbrev SEL (X : Cx) (px : Px) (W : WX) (e : Expr) (f : Ev → Hs → R D) : Prop := PE X e (rdL X.K px W f)
theorem SEF.sel (h : SEF X px W a fa) : SEL X px W a fa := PE.of h fun σ H Q ⟨w, e, hh, p⟩ => ⟨w, e, hh, p.rr, by
  have q := p.po
  cases e1 : fa e hh with
  | bad => rw [e1] at q; exact q
  | exc x h' => rw [e1] at q; exact q
  | ok d h' =>
    rw [e1] at q
    rintro v w' H' x1 x2 x3 ⟨l, xs, ds, rfl, rfl, r⟩
    exact q _ w' H' x1 x2 x3 ⟨l, xs, ds, rfl, rfl, r⟩⟩
theorem ownL_rd {K : PySem.W.Frag} {En : Ends} {σ : L2.St} {H : Hp} (q : rdS K px W (fOwn i fa) En σ H) : tAsg (rdL K px W fa) (gName i) En σ H := by
  obtain ⟨w, e, h, p⟩ := q
  refine ⟨w, e, h, p.rr, ?_⟩
  have q := p.po
  unfold fOwn at q
  cases e1 : fa e h with
  | bad => rw [e1] at q; exact q
  | exc y h' => rw [e1] at q; exact fun cls dd w' H' x1 x2 x3 x4 => q cls dd w' σ H' x1.s x2 x3 x4
  | ok d h' =>
    rw [e1, R.bind_ok] at q
    rw [R.bind_ok]
    by_cases hd : ∃ xs, d = .lst xs
    · obtain ⟨ys, rfl⟩ := hd
      dsimp only at q
      split at q
      · rename_i hk
        rintro v w1 H1 x1 x2 x3 ⟨l, xs, ds, ed, rfl, h0, h1, h2, h3⟩
        cases ed
        exact q (w1.own i l) _ H1 (ext_own x1 p.rr.hr.prd h0 h1) (p.rr.own x1 x2 x3 i h0 h1 h2 h3 hk)
      · exact q.elim
    · cases d <;> first | exact absurd ⟨_, rfl⟩ hd | exact q.elim
theorem ss_ownL (hN : X.N.Nodup) (hn : NmOk X x i) (ha : SEL X px W a fa) (hs : swapsWith a (some (.Name x pos')) pos.line X.env = pure false) : SS X px W (.Assign [.Name x pos'] a pos) (fOwn i fa) :=
  PS.of (ps_set hN hn.1 hn.2.1 ha hs hn.2.2) fun D σ H q => ownL_rd q
theorem Pre.newF {K : PySem.W.Frag} {σ : L2.St} {w : Wd} {e : Ev} {h : Hs} {H H0 : Hp} {Q : VK} {ds : List D} {q : Addr} {xs : List V} (p : Pre K px W σ (relF K H0) w e h H Q (.ok (.lst ds) h)) (h0 : ∀ a, H a = none → H0 a = none) (hq : H q = none) (hv : VRs K w H ds xs) : Q (.ref q) (upd H q (.lst xs)) :=
  p.po (.ref q) (w.gd q) _ (Ext.guard hq) (p.rr.hr.guard hq) (p.rr.new hq).tb ⟨q, xs, ds, rfl, rfl, h0 q hq, .inr rfl, upd_same, hv.ext (Ext.guard hq)⟩
def rL2 (K : PySem.W.Frag) (px : Px) (W : WX) (f : D → D → Option D) : R2 := fun x y H Q => ∃ σ w e h H0 d1 d2, VT K w H d1 x ∧ VT K w H d2 y ∧ (∀ a, H a = none → H0 a = none) ∧ Pre K px W σ (relF K H0) w e h H Q ((R.of (f d1 d2) h).bind lstO)
theorem rL_of {K : PySem.W.Frag} {σ : L2.St} {w : Wd} {e : Ev} {h : Hs} {H H0 : Hp} {Q : VK} {o : Option D} (p : Pre K px W σ (relF K H0) w e h H Q ((R.of o h).bind lstO)) : ∃ ds, o = some (.lst ds) ∧ Pre K px W σ (relF K H0) w e h H Q (.ok (.lst ds) h) := by
  cases o with
  | none => exact p.po.elim
  | some d =>
    by_cases hd : ∃ xs, d = .lst xs
    · obtain ⟨ys, rfl⟩ := hd
      exact ⟨ys, rfl, p⟩
    · cases d <;> first | exact absurd ⟨_, rfl⟩ hd | exact p.po.elim
theorem op_addL : OpR X (binaryOp .Add) (rL2 X.K px W dAdd) := by
  intro pins s σ H x y v u Q I rx ry q
  obtain ⟨σ', w, e, h, H0, d1, d2, v1, v2, hd, p0⟩ := q
  obtain ⟨ds, ed, p⟩ := rL_of p0
  unfold dAdd at ed
  split at ed <;> first | (cases ed; done) | skip
  · have := (ofLen_some ed).1; cases this
  · have := (ofLen_some ed).1; cases this
  · split at ed
    · rename_i q1 q2
      obtain ⟨a, xs, rfl, h1, r1⟩ := v1.la q1
      obtain ⟨b, ys, rfl, h2, r2⟩ := v2.la q2
      obtain ⟨eq, hz⟩ := ofLen_some ed
      cases eq
      exact op_catR pins s σ H _ _ v u Q I rx ry ⟨a, b, xs, ys, rfl, rfl, h1, h2, by rw [← r1.length, ← r2.length]; exact hz, fun p' hp' => p.newF hd hp' (r1.append r2)⟩
    · cases ed
theorem op_mulL : OpR X (binaryOp .Mult) (rL2 X.K px W dMul) := by
  intro pins s σ H x y v u Q I rx ry q
  obtain ⟨σ', w, e, h, H0, d1, d2, v1, v2, hd, p0⟩ := q
  obtain ⟨ds, ed, p⟩ := rL_of p0
  unfold dMul at ed
  split at ed
  · split at ed <;> cases ed
  · split at ed
    · rename_i hc
      obtain ⟨a, xs, rfl, n1, h1, r1⟩ := vLst v1
      obtain rfl := vInt v2
      cases ed
      exact op_repR pins s σ H _ _ v u Q I rx ry ⟨_, _, _, rfl, rfl, h1, hc.1, hc.2.1, by rw [← r1.length]; exact hc.2.2, fun p' hp' => p.newF hd hp' (r1.flat _)⟩
    · cases ed
  · split at ed
    · cases ed
    · split at ed <;> cases ed
  · cases ed
theorem sel_bin {o : Bop} {r : OpR X (binaryOp (bopOf o)) (rL2 X.K px W (dBin o))} (ha : SE X px W a fa) (hb : SE X px W b fb) : SEL X px W (.BinOp a (bopOf o) b pos) (fun e h => (fa e h).bind fun x h => (fb e h).bind fun y h => R.of (dBin o x y) h) := by
  refine PE.of (pe_op r ha hb) fun σ H Q ⟨w, e, h, p⟩ => ?_
  have p : Pre X.K px W σ (relF X.K H) w e h H Q ((fa e h).bind fun x h => ((fb e h).bind fun y h => R.of (dBin o x y) h).bind lstO) := by
    rw [R.bind_assoc] at p
    exact p
  refine ⟨w, e, h, p.bind.imp fun x H1 ⟨d1, h1, w1, _, x1, v1, p1⟩ => ⟨w1, e, h1, ?_⟩⟩
  rw [R.bind_assoc] at p1
  refine p1.bind.imp fun y H2 ⟨d2, h2, w2, _, x2, v2, p2⟩ => ?_
  exact ⟨σ, w2, e, h2, H, d1, d2, v1.ext x2, v2, fun a ha => x1.dom a (x2.dom a ha), p2⟩
/-! ### x.append(a), x.extend(a), x.pop() -/
theorem own_ty {K : PySem.W.Frag} {a : Addr} {xs : List V} {H : Hp} (h : H a = some (.lst xs)) : tyV K "list" (.ref a) H := .inl ⟨rfl, xs, .inl (.inl h)⟩
theorem keep_snoc {ds : List D} {d : D} (h : ds.all D.keep = true) (k : d.keep = true) : (ds ++ [d]).all D.keep = true := by
  rw [List.all_append, h]; simp [k]
theorem slot_bad {K : PySem.W.Frag} {En : Ends} {w : Wd} {H : Hp} {e : Ev} {h : Hs} {σ : L2.St} {k : List D → R Fl} (p : PrS K px W En w e h σ H (match e.get i with
    | .o xs => k xs
    | _ => .bad)) : ∃ xs, e.get i = .o xs ∧ PrS K px W En w e h σ H (k xs) := by
  cases e1 : e.get i with
  | o xs => rw [e1] at p; exact ⟨xs, rfl, p⟩
  | u => rw [e1] at p; exact p.po.elim
  | v d => rw [e1] at p; exact p.po.elim
  | k kvs => rw [e1] at p; exact p.po.elim
theorem own_keep {K : PySem.W.Frag} {w w' : Wd} {H H' : Hp} (hr : ∀ a, a ∈ w.hp → some a ∉ w.ow) {a : Addr} {o : HO} (m : some a ∈ w.ow) (h : H a = some o) (x : Ext w H w' H') (ht : ∀ ps, o ≠ .tbl ps) : H' a = some o := x.keep a o h (fun z => hr a z m) ht
def fApp (i : Nat) (fa : Ev → Hs → R D) : Ev → Hs → R Fl := fun e h => (match e.get i with
    | .o xs => (fa e h).bind fun x h => if x.keep && decide (xs.length < LIM) then .ok (.nx (e.put i (.o (xs ++ [x])))) h else .bad
    | _ => .bad)
theorem ss_app (hr : RdOk X x i) (ha : SE X px W a fa) (hl : (apos.endLine == cpos.line) = true) (hs : nst a = true) : SS X px W (.Expr (.Call (.Attribute (.Name x p) "append" apos) [a] [] cpos) pos) (fApp i fa) := by
  refine PS.of (ps_expr (pe_bm PySem.F.plainAttrs_list PySem.F.slot_list_append PySem.F.type_list_append mt_append hr.pe (pa_cons ha pa_nil (star_ok hs)) rfl (by rw [star_ok hs]; rfl) hl (star_ok hs) rfl)) fun En σ H ⟨w, e, h, p⟩ => ?_
  obtain ⟨xs, e1, p⟩ := slot_bad p
  obtain ⟨q, us, s1, s2, s3, s4, s5, s6, _⟩ := p.rr.slot e1
  refine ⟨.ref q, s1, own_ty s2, w, e, h, p.bind.imp fun v H1 ⟨d, h1, w1, _, x1, v1, p1⟩ => ?_⟩
  obtain ⟨q', us', t1, t2, t3, t4, t5, t6, t7⟩ := p1.rr.slot e1
  rw [s1] at t1
  cases t1
  split at p1
  · rename_i hk
    rw [Bool.and_eq_true] at hk
    have hlt : xs.length < LIM := of_decide_eq_true hk.2
    obtain ⟨r1, x2⟩ := t7 (xs ++ [d]) (us' ++ [v]) (t3.snoc (VT.keep v1 hk.1)) (keep_snoc t4 hk.1)
    exact ⟨q, us', v, rfl, rfl, t2, by rw [← t3.length, ← LIM_eq]; exact hlt, p1.done x2 r1⟩
  · exact p1.po.elim
def fExt (i : Nat) (fa : Ev → Hs → R D) : Ev → Hs → R Fl := fun e h => (match e.get i with
    | .o xs => (fa e h).bind fun x h => (match x with
      | .lst ys => if ys.all D.keep && decide (xs.length + ys.length ≤ LIM) then .ok (.nx (e.put i (.o (xs ++ ys)))) h else .bad
      | _ => .bad)
    | _ => .bad)
theorem lst_at {K : PySem.W.Frag} {w : Wd} {H : Hp} {v : V} {ds : List D} (h : VT K w H (.lst ds) v) : ∃ b xs, v = .ref b ∧ H b = some (.lst xs) ∧ VRs K w H ds xs := by
  cases h with
  | of h => cases h with
    | of h => cases h with
      | lst n q r => exact ⟨_, _, rfl, q, r⟩
theorem ss_ext (hr : RdOk X x i) (ha : SE X px W a fa) (hl : (apos.endLine == cpos.line) = true) (hs : nst a = true) : SS X px W (.Expr (.Call (.Attribute (.Name x p) "extend" apos) [a] [] cpos) pos) (fExt i fa) := by
  refine PS.of (ps_expr (pe_bm PySem.F.plainAttrs_list PySem.F.slot_list_extend PySem.F.type_list_extend mt_extend hr.pe (pa_cons ha pa_nil (star_ok hs)) rfl (by rw [star_ok hs]; rfl) hl (star_ok hs) rfl)) fun En σ H ⟨w, e, h, p⟩ => ?_
  obtain ⟨xs, e1, p⟩ := slot_bad p
  obtain ⟨q, us, s1, s2, s3, s4, s5, s6, _⟩ := p.rr.slot e1
  refine ⟨.ref q, s1, own_ty s2, w, e, h, p.bind.imp fun v H1 ⟨d, h1, w1, _, x1, v1, p1⟩ => ?_⟩
  obtain ⟨q', us', t1, t2, t3, t4, t5, t6, t7⟩ := p1.rr.slot e1
  rw [s1] at t1
  cases t1
  by_cases hd : ∃ ys, d = .lst ys
  · obtain ⟨ys, rfl⟩ := hd
    dsimp only at p1
    split at p1
    · rename_i hk
      rw [Bool.and_eq_true] at hk
      have hlt : xs.length + ys.length ≤ LIM := of_decide_eq_true hk.2
      obtain ⟨b, zs, rfl, z1, z2⟩ := lst_at v1
      obtain ⟨r1, x2⟩ := t7 (xs ++ ys) (us' ++ zs) (t3.append z2) (by rw [List.all_append, t4, hk.1]; rfl)
      exact ⟨q, b, us', zs, rfl, rfl, t2, z1, by rw [← t3.length, ← z2.length, ← LIM_eq]; exact hlt, p1.done x2 r1⟩
    · exact p1.po.elim
  · cases d <;> first | exact p1.po.elim | exact absurd ⟨_, rfl⟩ hd
def fPop (i : Nat) : Ev → Hs → R Fl := fun e h => (match e.get i with
    | .o xs => if xs.isEmpty then .bad else .ok (.nx (e.put i (.o xs.dropLast))) h
    | _ => .bad)
theorem VRs.dropLast {K : PySem.W.Frag} {w : Wd} {H : Hp} : ∀ {ds : List D} {vs : List V}, VRs K w H ds vs → VRs K w H ds.dropLast vs.dropLast
  | _, _, .nil => .nil
  | _, _, .cons a .nil => .nil
  | _, _, .cons a (.cons b r) => .cons a (VRs.dropLast (.cons b r))
theorem keep_dropLast {ds : List D} (h : ds.all D.keep = true) : ds.dropLast.all D.keep = true := by
  rw [List.all_eq_true] at h ⊢
  exact fun d hd => h d (List.dropLast_subset _ hd)
theorem ss_pop (hr : RdOk X x i) (hl : (apos.endLine == cpos.line) = true) : SS X px W (.Expr (.Call (.Attribute (.Name x p) "pop" apos) [] [] cpos) pos) (fPop i) := by
  refine PS.of (ps_expr (pe_bm0 PySem.F.plainAttrs_list PySem.F.slot_list_pop PySem.F.type_list_pop mt_pop hr.pe rfl hl)) fun En σ H ⟨w, e, h, p⟩ => ?_
  obtain ⟨xs, e1, p⟩ := slot_bad p
  obtain ⟨q, us, s1, s2, s3, s4, s5, s6, s7⟩ := p.rr.slot e1
  split at p
  · exact p.po.elim
  · rename_i hne
    obtain ⟨r1, x2⟩ := s7 xs.dropLast us.dropLast s3.dropLast (keep_dropLast s4)
    have hu : us ≠ [] := fun z => by
      rw [z] at s3
      cases s3
      exact hne rfl
    refine ⟨.ref q, s1, own_ty s2, q, us, us.getLast hu, rfl, rfl, s2, ?_, p.done x2 r1⟩
    rw [List.getLast_eq_getElem hu]
    exact List.getElem?_eq_getElem _
/-- i1, i2 = x.pop(0) -/
def fPopu (i : Nat) (is : List Nat) : Ev → Hs → R Fl := fun e h => (match e.get i with
    | .o (x :: xs) => (match putT (.t is) x (e.put i (.o xs)) with
      | some e' => .ok (.nx e') h
      | none => .bad)
    | _ => .bad)
theorem ss_popu {es : List Expr} {is : List Nat} {k : Nat} {q0 : Pos} {a0 : Expr} (hN : X.N.Nodup) (hc : X.calm = true) (hr : RdOk X x i) (hn : NmsOk X es is) (ha : SE X px W a0 (fun _ h => .ok (.int 0) h)) (hl : (apos.endLine == cpos.line) = true) (hs : nst a0 = true)
    (hws : swapsWithSole [.Tuple es k q0] (.Call (.Attribute (.Name x p) "pop" apos) [a0] [] cpos) pos.line X.env = pure false) (hw : swappedStores [.Tuple es k q0] (.Call (.Attribute (.Name x p) "pop" apos) [a0] [] cpos) X.env = pure none) : SS X px W (.Assign [.Tuple es k q0] (.Call (.Attribute (.Name x p) "pop" apos) [a0] [] cpos) pos) (fPopu i is) := by
  refine PS.of (ps_asg (pe_bm PySem.F.plainAttrs_list PySem.F.slot_list_pop PySem.F.type_list_pop mt_popAt hr.pe (pa_cons ha pa_nil (star_ok hs)) rfl (by rw [star_ok hs]; rfl) hl (star_ok hs) rfl) (sg_tup hc hN hn) hws hw) fun En σ H ⟨w, e, h, p⟩ => ?_
  unfold fPopu at p
  cases e1 : e.get i with
  | u => rw [e1] at p; exact p.po.elim
  | v d => rw [e1] at p; exact p.po.elim
  | k t kvs => rw [e1] at p; exact p.po.elim
  | o zs =>
    rw [e1] at p
    cases zs with
    | nil => exact p.po.elim
    | cons d ds =>
      dsimp only at p
      cases e2 : putT (.t is) d (e.put i (.o ds)) with
      | none => rw [e2] at p; exact p.po.elim
      | some e' =>
        rw [e2] at p
        obtain ⟨q, us, s1, s2, s3, s4, s5, s6, s7⟩ := p.rr.slot e1
        refine ⟨.ref q, s1, own_ty s2, w, e, h, p.rr, fun v w1 H1 x1 x2 x3 x4 => ?_⟩
        obtain rfl := vInt x4
        have rr := p.rr.ext x1 x2 x3
        obtain ⟨q', us', t1, t2, t3, t4, t5, t6, t7⟩ := rr.slot e1
        rw [s1] at t1
        cases t1
        cases t3 with
        | @cons _ u _ us2 a r =>
          obtain ⟨r1, x5⟩ := t7 ds us2 r (by rw [List.all_cons, Bool.and_eq_true] at t4; exact t4.2)
          refine ⟨q, u :: us2, 0, 0, u, rfl, rfl, t2, by decide, by decide, ?_, rfl, ?_⟩
          · unfold seqIndex?
            simp
          · exact ⟨w1, e.put i (.o ds), d, e', a.updD (.inr (.inl t5)) t2, r1.er, e2, fun σ' l hl hm he => p.done (x1.s.trans x5) ⟨r1.hr, he, r1.tb⟩⟩
/-! ### stores into lists -/
def fSi (i : Nat) (fb fc : Ev → Hs → R D) : Ev → Hs → R Fl := fun e h => (match e.get i with
    | .o xs => (fc e h).bind fun z h => (fb e h).bind fun y h => (match y with
      | .int j => if z.keep then (match setL xs j z with
        | some ys => .ok (.nx (e.put i (.o ys))) h
        | none => .bad) else .bad
      | _ => .bad)
    | _ => .bad)
theorem VRs.set_ {K : PySem.W.Frag} {w : Wd} {H : Hp} {d : D} {v : V} (q : VR K w H d v) : ∀ {ds : List D} {vs : List V}, VRs K w H ds vs → ∀ j : Nat, VRs K w H (ds.set j d) (vs.set j v)
  | _, _, .nil, _ => .nil
  | _, _, .cons a r, 0 => .cons q r
  | _, _, .cons a r, j + 1 => .cons a (VRs.set_ q r j)
theorem keep_set {ds : List D} {d : D} {j : Nat} (h : ds.all D.keep = true) (k : d.keep = true) : (ds.set j d).all D.keep = true := by
  rw [List.all_eq_true] at h ⊢
  intro z hz
  rcases List.mem_or_eq_of_mem_set hz with q | q
  · exact h z q
  · rw [q]; exact k
theorem setL_of {α : Type} {xs ys : List α} {i : Int} {x : α} (h : setL xs i x = some ys) : ∃ j, ixN xs.length i = some j ∧ ys = xs.set j x := by
  unfold setL at h
  cases e1 : ixN xs.length i with
  | none => rw [e1] at h; cases h
  | some j => rw [e1] at h; cases h; exact ⟨j, rfl, rfl⟩
theorem ss_si (hr : RdOk X x i) (hb : SE X px W b fb) (hc : SE X px W c fc) (hs : swapsWithSole [.Subscript (.Name x p) b pos2] c pos.line X.env = pure false) (hw : swappedStores [.Subscript (.Name x p) b pos2] c X.env = pure none) (h1 : (assignEach [.Subscript (.Name x p) b pos2] X.env).map (·.2) = [assign (.Subscript (.Name x p) b pos2) X.env])
    (ha : ∀ v, assign (.Subscript (.Name x p) b pos2) X.env v = (do
      let ov ← holding [v] (eval (.Name x p) X.env)
      let iv ← holding [v, ov] (eval b X.env)
      standAt pos2
      holding [v, ov, iv] (setItem ov iv v)
      release [v, ov, iv] [])) : SS X px W (.Assign [.Subscript (.Name x p) b pos2] c pos) (fSi i fb fc) := by
  refine PS.of (ps_asg hc (pg_sub hr.pe hb set_list ha) hs hw h1) fun En σ H ⟨w, e, h, p⟩ => ?_
  obtain ⟨xs, e1, p⟩ := slot_bad p
  refine ⟨w, e, h, p.bind.imp fun v H1 ⟨d, h1, w1, _, x1, v1, p1⟩ => ?_⟩
  obtain ⟨q, us, s1, s2, s3, s4, s5, s6, _⟩ := p1.rr.slot e1
  refine ⟨.ref q, s1, w1, e, h1, p1.bind.imp fun u H2 ⟨d2, h2, w2, _, x2, v2, p2⟩ => ?_⟩
  obtain ⟨q', us', t1, t2, t3, t4, t5, t6, t7⟩ := p2.rr.slot e1
  rw [s1] at t1
  cases t1
  obtain ⟨k, rfl⟩ : ∃ k, d2 = .int k := by cases d2 <;> first | exact ⟨_, rfl⟩ | exact p2.po.elim
  obtain rfl := vInt v2
  dsimp only at p2
  split at p2
  · rename_i hk
    cases e2 : setL xs k d with
    | none => rw [e2] at p2; exact p2.po.elim
    | some ys =>
      rw [e2] at p2
      obtain ⟨j, e3, rfl⟩ := setL_of e2
      obtain ⟨r1, x3⟩ := t7 _ _ (VRs.set_ (VT.keep (v1.ext x2) hk) t3 j) (keep_set t4 hk)
      exact ⟨q, us', k, j, rfl, rfl, t2, by rw [← t3.length]; exact e3, p2.done x3 r1⟩
  · exact p2.po.elim
def fSr (fa fb fc : Ev → Hs → R D) : Ev → Hs → R Fl := fun e h => (fc e h).bind fun z h => (fa e h).bind fun x h => (fb e h).bind fun y h => (match x, y with
    | .ref r, .int j => if z.keep then (match h[r]? with
      | some (.lst xs) => (match setL xs j z with
        | some ys => .ok (.nx e) (h.set r (.lst ys))
        | none => .bad)
      | _ => .bad) else .bad
    | _, _ => .bad)
theorem ref_at {K : PySem.W.Frag} {w : Wd} {H : Hp} {v : V} {k : Nat} (h : VT K w H (.ref k) v) : VR K w H (.ref k) v := VT.keep h rfl
theorem ss_sr (ha' : SE X px W a fa) (hb : SE X px W b fb) (hc : SE X px W c fc) (hs : swapsWithSole [.Subscript a b pos2] c pos.line X.env = pure false) (hw : swappedStores [.Subscript a b pos2] c X.env = pure none) (h1 : (assignEach [.Subscript a b pos2] X.env).map (·.2) = [assign (.Subscript a b pos2) X.env])
    (ha : ∀ v, assign (.Subscript a b pos2) X.env v = (do
      let ov ← holding [v] (eval a X.env)
      let iv ← holding [v, ov] (eval b X.env)
      standAt pos2
      holding [v, ov, iv] (setItem ov iv v)
      release [v, ov, iv] [])) : SS X px W (.Assign [.Subscript a b pos2] c pos) (fSr fa fb fc) := by
  refine PS.of (ps_asg hc (pg_sub ha' hb set_list ha) hs hw h1) fun En σ H ⟨w, e, h, p⟩ => ?_
  refine ⟨w, e, h, p.bind.imp fun v H1 ⟨d, h1, w1, _, x1, v1, p1⟩ => ⟨w1, e, h1, p1.bind.imp fun u H2 ⟨d2, h2, w2, _, x2, v2, p2⟩ => ⟨w2, e, h2, p2.bind.imp fun t H3 ⟨d3, h3, w3, _, x3, v3, p3⟩ => ?_⟩⟩⟩
  obtain ⟨r, rfl⟩ : ∃ r, d2 = .ref r := by cases d2 <;> first | exact ⟨_, rfl⟩ | exact p3.po.elim
  obtain ⟨k, rfl⟩ : ∃ k, d3 = .int k := by cases d3 <;> first | exact ⟨_, rfl⟩ | exact p3.po.elim
  obtain rfl := vInt v3
  dsimp only at p3
  split at p3
  · rename_i hk
    split at p3
    · rename_i xs e1
      cases e2 : setL xs k d with
      | none => rw [e2] at p3; exact p3.po.elim
      | some ys =>
        rw [e2] at p3
        obtain ⟨j, e3, rfl⟩ := setL_of e2
        obtain ⟨q, us, rfl, t2, t3, t4, t5⟩ := p3.rr.heap e1 (ref_at (v2.ext x3))
        obtain ⟨r1, x4⟩ := t5 _ _ (VRs.set_ (VT.keep ((v1.ext x2).ext x3) hk) t3 j) (keep_set t4 hk)
        exact ⟨q, us, k, j, rfl, rfl, t2, by rw [← t3.length]; exact e3, p3.done x4 r1⟩
    · exact p3.po.elim
  · exact p3.po.elim
end
end Tv
end

section
set_option autoImplicit false
set_option maxHeartbeats 1000000
/-! Further expressions: -a, a[::-1], {..}, the heap's own lists. -/
namespace Tv
open PySem PySem.Spec PyProof.Rows L2
section
variable {prog : Program} {wo : World} {A : Around} {E : Value → Shared → Prop} {s : Shared}
theorem rev_pick (xs : Array Value) : ((List.range xs.size).filterMap fun (k : Nat) => xs[(((xs.size : Int) - 1) + (k : Int) * (-1)).toNat]?).toArray = xs.toList.reverse.toArray := by
  have e : (fun (k : Nat) => xs[(((xs.size : Int) - 1) + (k : Int) * (-1)).toNat]?) = fun k => xs[xs.size - 1 - k]? := by
    funext k
    have e2 : ((((xs.size : Int) - 1) + (k : Int) * (-1)).toNat) = xs.size - 1 - k := by omega
    rw [e2]
  rw [e]
  have q := PySem.W.krv_pick xs
  unfold slicePick at q
  rw [PySem.W.krv_bounds] at q
  have q : ((sliceRange ((xs.size : Int) - 1) (-1) (-1)).filterMap (xs[·]?)).toArray = xs.toList.reverse.toArray := q
  rw [PySem.W.krv_sliceRange, List.filterMap_map] at q
  exact q
theorem sliceRev {sl : Addr} {vl vu vs : Value} {n : Nat} {Q : Int × Int × Nat → Shared → Prop} (hs : s.heap.IsSliceOf sl vl vu vs) (pl : IsPart vl none) (pu : IsPart vu none) (ps : IsPart vs (some (-1)))
    (h : Q ((n : Int) - 1, -1, n) s) : wpAny (model prog wo) A (Builtin.Slice.sliceApplied (.ref sl) (pure (n : Int))) Q E s := by
  obtain ⟨os, hos, hcs, hds⟩ := id hs
  unfold Builtin.Slice.sliceApplied Builtin.Slice.sliceFields
  refine wpAny_bind (wpAny_bind (wpAny_field hos hds (x := vl) rfl (wpAny_bind (wpAny_field hos hds (x := vu) rfl (wpAny_bind (wpAny_field hos hds (x := vs) rfl (wpAny_pure ?_)))))))
  refine wpAny_bind (HT.slicePart_ ps ?_)
  show wpAny _ _ (if ((-1 : Int) == 0) = true then _ else _) _ _ s
  rw [if_neg (by decide)]
  refine wpAny_bind (HT.slicePart_ pl (wpAny_bind (HT.slicePart_ pu (wpAny_bind (wpAny_pure ?_)))))
  show wpAny _ _ (match Builtin.Slice.sliceAdjust none none (-1) (n : Int) with | (lo, hi) => pure (lo, (-1 : Int), Builtin.Slice.slicePlaces lo hi (-1))) _ _ s
  have e1 : Builtin.Slice.sliceAdjust none none (-1) (n : Int) = ((n : Int) - 1, -1) := rfl
  rw [e1]
  have e2 : Builtin.Slice.slicePlaces ((n : Int) - 1) (-1) (-1) = n := by
    unfold Builtin.Slice.slicePlaces
    rw [if_neg (by decide)]
    split
    · have : ((n : Int) - 1 - -1 - 1) / (- -1) = (n : Int) - 1 := by
        rw [show (- -1 : Int) = 1 by decide, Int.ediv_one]; omega
      rw [this]; omega
    · omega
  show wpAny _ _ (pure ((n : Int) - 1, (-1 : Int), Builtin.Slice.slicePlaces ((n : Int) - 1) (-1) (-1))) _ _ s
  rw [e2]
  exact wpAny_pure h
theorem getItem_tuple_rev {t sl : Addr} {items : Array Value} {vl vu vs : Value} {Q : Value → Shared → Prop} (ht : IsTup s.heap t items) (hs : s.heap.IsSliceOf sl vl vu vs) (pl : IsPart vl none) (pu : IsPart vu none) (ps : IsPart vs (some (-1)))
    (h : Q (.ref s.heap.objs.size) { s with heap := s.heap.push { cls := .type "tuple", data := .seq items.toList.reverse.toArray } })
    (hsz : items.size ≤ sizeLine) : wpAny (model prog wo) A (getItem (.ref t) (.ref sl)) Q E s := by
  have htake : sizeOk (.seq items.toList.reverse.toArray) := by
    show items.toList.reverse.toArray.size ≤ sizeLine
    rw [List.size_toArray, List.length_reverse, Array.length_toList]; exact hsz
  obtain ⟨os, hos, hcs, hds⟩ := id hs
  have hTs : s.TypeIs (.ref sl) "slice" := ⟨os, hos, hcs⟩
  unfold getItem
  try with_reducible refine wpAny_holding ?_
  first | refine wpAny_bind (wpAny_pure ?_) | skip
  refine wpAny_bind (wpAny_sequenceKey ht.typeIs (by decide) ?_)
  refine wpAny_bind (wpAny_callSpecial?_slot (name := Str.ofString "__getitem__") ht.typeIs PyProof.Rows.slot_tuple_getitem
    (wpAny_call_entry PyProof.Rows.slot_tuple_getitem ht.typeIs entry_tuple_getitem ?_ (args_tuple_getitem _ _)))
  show wpAny _ _ (Builtin.Tuple.tupleItemsOf (.ref t) >>= _) _ _ s
  refine wpAny_bind (tupleItemsOf_ ht ?_)
  refine wpAny_bind (wpAny_typeOf hTs ?_)
  rw [if_pos (by decide)]
  refine wpAny_bind (sliceRev hs pl pu ps ?_)
  have hno : ¬ ((((items.size : Int) - 1) == 0 && (-1 : Int) == 1 && items.size == items.size) = true) := by
    intro q
    rw [Bool.and_eq_true, Bool.and_eq_true] at q
    exact absurd q.1.2 (by decide)
  show wpAny _ _ (if (((items.size : Int) - 1) == 0 && (-1 : Int) == 1 && items.size == items.size) = true then _ else _) _ _ s
  rw [if_neg hno, rev_pick]
  first
    | exact wpAny_bind (m := Builtin.Tuple.tupleExact _) (wpAny_newObj_type (wpAny_pure ⟨_, rfl, wpAny_pure h⟩) htake)
    | exact wpAny_bind (m := Builtin.Tuple.tupleExact _) (wpAny_newObj_type (wpAny_bind (wpAny_pure (wpAny_pure ⟨_, rfl, wpAny_pure h⟩))) htake)
end
def tRevA (K : PySem.W.Frag) (te : TE) : TE := fun σ H Q => te σ H fun x H1 => ∃ a xs, x = .ref a ∧ ((SqL K H1 a xs ∧ ∀ p, H1 p = none → Q (.ref p) (upd H1 p (.lst xs.reverse))) ∨ (SqT K H1 a xs ∧ ∀ p, H1 p = none → Q (.ref p) (upd H1 p (.tup xs.reverse))))
theorem pe_revA {X : Cx} {e : Expr} {te : TE} {k : Nat} {p1 p2 p3 pos : Pos} (he : PE X e te) : PE X (.Subscript e (.Slice none none (some (.UnaryOp .USub (.Constant (.int 1) k p1) p2)) p3) pos) (tRevA X.K te) := by
  refine ⟨fun pins s σ H Q I h => ?_⟩
  refine Subscript_ (thn (he.run pins s σ H _ I h) fun v s1 ⟨x, H1, I1, r1, q1⟩ => ?_)
  obtain ⟨a, xs, ex, q⟩ := q1
  subst ex
  cases r1
  have hst : PO X (some (.UnaryOp .USub (.Constant (.int 1) k p1) p2)) (tPart (tUn (rU fun i => .int (-i)) (tC (.int 1)))) := po_some (pe_un un_neg pe_int)
  refine wpAny_Slice (thn (po_none.run pins s1 σ H1 (fun o H2 => o = none ∧ H2 = H1) I1 ⟨rfl, rfl⟩) fun vl s2 ⟨l, H2, I2, pl, el, e2⟩ => ?_)
  subst el e2
  refine thn (po_none.run pins s2 σ H2 (fun o H3 => o = none ∧ H3 = H2) I2 ⟨rfl, rfl⟩) fun vu s3 ⟨u, H3, I3, pu, eu, e3⟩ => ?_
  subst eu e3
  refine thn (hst.run pins s3 σ H3 (fun o H4 => o = some (-1) ∧ H4 = H3) I3 ⟨1, rfl, -1, rfl, rfl, rfl⟩) fun vs s4 ⟨o, H4, I4, ps, eo, e4⟩ => ?_
  subst eo e4
  have I5 : Inv X pins σ H4 { s4 with heap := s4.heap.push { cls := .type "slice", data := .fields #[vl, vu, vs] } } := I4.kept (t' := s4.toks) fun b ob q => Heap.get?_push_of_some _ q
  show wpAny (model X.prog X.w) X.A (subscriptTail e (.Slice none none (some (.UnaryOp .USub (.Constant (.int 1) k p1) p2)) p3) (.ref a) (.ref s4.heap.objs.size)) (EP X pins σ Q) X.xe { s4 with heap := s4.heap.push { cls := .type "slice", data := .fields #[vl, vu, vs] } }
  rcases q with ⟨hx, q⟩ | ⟨hx, q⟩
  · obtain ⟨its, r, ht, hz⟩ := I5.list hx
    have hlen := r.length
    refine tail_any (ops := [.ref a, .ref s4.heap.objs.size]) ht.isList.typeIs (PySem.slot_list_getitem.lookup) ?_ (by with_unfolding_all rfl)
    refine wpAny_getItem_list_slice ht.isList (Heap.IsSliceOf.new _ vl vu vs) pl pu ps (by decide) ?_ (by rw [List.size_toArray]; omega)
    rw [PySem.W.krv_pick]
    refine ⟨.ref _, _, I5.laid (t' := s4.toks) (o := .lst xs.reverse) (fun b ob q => Heap.get?_push_of_some _ q) (Nat.le_refl _) ?_, rfl, q _ (I5.hok.fresh (Nat.le_refl _))⟩
    exact ⟨by rw [List.length_reverse]; exact hz, _, 0, r.reverse, Heap.get?_push_size _ rfl⟩
  · obtain ⟨its, r, ht, hz⟩ := I5.tuple hx
    have hlen := r.length
    refine tail_any (ops := [.ref a, .ref s4.heap.objs.size]) ht.typeIs PyProof.Rows.slot_tuple_getitem.lookup ?_ (by with_unfolding_all rfl)
    refine getItem_tuple_rev ht (Heap.IsSliceOf.new _ vl vu vs) pl pu ps ?_ (by rw [List.size_toArray]; omega)
    refine ⟨.ref _, _, I5.laid (t' := s4.toks) (o := .tup xs.reverse) (fun b ob q => Heap.get?_push_of_some _ q) (Nat.le_refl _) ?_, rfl, q _ (I5.hok.fresh (Nat.le_refl _))⟩
    exact ⟨by rw [List.length_reverse]; exact hz, _, r.reverse, IsTup.new _ _⟩
section
variable {X : Cx} {px : Px} {W : WX} {a b c : Expr} {fa fb fc : Ev → Hs → R D} {pos : Pos} {es : List Expr} {fr : Ev → Hs → R (List D)}
theorem se_neg (ha : SE X px W a fa) : SE X px W (.UnaryOp .USub a pos) (fun e h => (fa e h).bind fun x h => match x with
    | .int i => .ok (.int (-i)) h
    | _ => .bad) := by
  refine PE.of (pe_un un_neg ha) fun σ H Q ⟨w, e, h, p⟩ => ⟨w, e, h, p.bind.imp fun x H1 ⟨d, h1, w1, _, x1, v1, p1⟩ => ?_⟩
  obtain ⟨i, rfl⟩ : ∃ i, d = .int i := by cases d <;> first | exact ⟨_, rfl⟩ | exact p1.po.elim
  exact ⟨i, vInt v1, p1.done (.int _)⟩
theorem se_rev {k : Nat} {p1 p2 p3 : Pos} (ha : SE X px W a fa) : SE X px W (.Subscript a (.Slice none none (some (.UnaryOp .USub (.Constant (.int 1) k p1) p2)) p3) pos) (fun e h => (fa e h).bind fun x h => R.of (dRev x) h) := by
  refine PE.of (pe_revA ha) fun σ H Q ⟨w, e, h, p⟩ => ⟨w, e, h, p.bind.imp fun x H1 ⟨d, h1, w1, _, x1, v1, p1⟩ => ?_⟩
  obtain ⟨d', ed, p2⟩ := p1.nobad
  unfold dRev at ed
  split at ed
  · cases ed
    obtain ⟨a, xs, rfl, hq, r⟩ := vTup v1
    exact ⟨a, xs, rfl, .inr ⟨sqt hq, fun q hq => p2.newT hq r.reverse⟩⟩
  · cases e1 : d.ls? with
    | none => rw [e1] at ed; cases ed
    | some ds =>
      rw [e1] at ed
      cases ed
      obtain ⟨a, xs, rfl, hq, r⟩ := v1.ls e1
      exact ⟨a, xs, rfl, .inl ⟨hq, fun q hq => p2.newL hq r.reverse⟩⟩
/-- a list of the heap's own -/
theorem HR.push {K : PySem.W.Frag} {w : Wd} {h : Hs} {H : Hp} {q : Addr} {xs : List V} {ds : List D} (r : HR K w h H) (hq : H q = none) (nf : ¬ w.forb q) (hv : VRs K w H ds xs) (hk : ds.all D.keep = true) :
    Ext w H { w with hp := w.hp ++ [q] } (upd H q (.lst xs)) ∧ HR K { w with hp := w.hp ++ [q] } (h ++ [.lst ds]) (upd H q (.lst xs)) := by
  have x : Ext w H { w with hp := w.hp ++ [q] } (upd H q (.lst xs)) := ⟨⟨[q], rfl, fun a m => by rw [List.mem_singleton.mp m]; exact hq⟩, rfl, fun _ h => h, fun _ h => .inl h, (Ext.new0 (w := w) hq).keep, (Ext.new0 (w := w) hq).tups, (Ext.new0 (w := w) (o := .lst xs) hq).dom⟩
  refine ⟨x, ⟨?_, ?_, fun i a o h1 h2 => ?_, fun a ha => ?_, fun a z y => ?_⟩⟩
  · show (w.hp ++ [q]).length = _
    rw [List.length_append, List.length_append, r.len]; rfl
  · show (w.hp ++ [q]).Nodup
    rw [List.nodup_append]
    exact ⟨r.nd, by simp, fun a ha b hb => by rw [List.mem_singleton.mp hb]; exact fun e => nf (.inl (e ▸ ha))⟩
  · by_cases hi : i < h.length
    · have h1 : (w.hp ++ [q])[i]? = some a := h1
      rw [List.getElem?_append_left (by rw [r.len]; exact hi)] at h1
      rw [List.getElem?_append_left hi] at h2
      have z := r.ob i a o h1 h2
      cases o with
      | lst es =>
        obtain ⟨ys, z1, z2, z3⟩ := z
        exact ⟨ys, by rw [upd_ne (ne_of_none z1 hq)]; exact z1, z2.ext x, z3⟩
      | ins c fs =>
        obtain ⟨dx, vs, z1, z2⟩ := z
        exact ⟨dx, vs, by rw [upd_ne (ne_of_none z1 hq)]; exact z1, z2.map fun y => y.ext x⟩
      | dct kvs =>
        obtain ⟨ks, z1, z2⟩ := z
        exact ⟨ks, by rw [upd_ne (ne_of_none z1 hq)]; exact z1, z2.map fun y => y.ext x⟩
    · have e : i = h.length := by
        have := (List.getElem?_eq_some_iff.mp h2).1
        rw [List.length_append] at this
        simp only [List.length_singleton] at this
        omega
      subst e
      have h1 : (w.hp ++ [q])[h.length]? = some a := h1
      rw [← r.len, List.getElem?_concat_length] at h1
      rw [List.getElem?_concat_length] at h2
      cases h1
      cases h2
      exact ⟨xs, upd_same, hv.ext x, hk⟩
  · rcases List.mem_append.mp ha with z | z
    · exact r.sep a z
    · rw [List.mem_singleton.mp z]
      exact ⟨fun y => nf (.inr (.inl y)), fun y => nf (.inr (.inr y))⟩
  · by_cases ha : a = q
    · rw [ha, upd_same] at y; cases y
    · rw [upd_ne ha] at y; exact r.prd a z y
theorem se_mls (ha : SA X px W es fr) (hl : es.length ≤ 1000) (hn : ∀ e h ds h', fr e h = .ok ds h' → ds.length = es.length) : SE X px W (.List es pos) (fun e h => (fr e h).bind fun ds h => if ds.all D.keep then .ok (.ref h.length) (h ++ [.lst ds]) else .bad) := by
  refine PE.of (pe_lst ha) fun σ H Q ⟨w, e, h, p⟩ => ?_
  refine ⟨w, e, h, p.bind.imp fun x H1 ⟨d1, h1, w1, e1, x1, v1, p1⟩ => ?_⟩
  split at p1
  · rename_i hk
    have v2 := VTs.keep v1 hk
    refine ⟨by rw [← v2.length, hn _ _ _ _ e1, sizeLine_eq]; omega, fun q hq => ?_⟩
    obtain ⟨y1, y2⟩ := p1.rr.hr.push hq (p1.rr.free hq) v2 hk
    refine p1.po (.ref q) _ _ y1 y2 (p1.rr.new hq).tb (.of (.of (.ref ?_)))
    show (w1.hp ++ [q])[h1.length]? = some q
    rw [← p1.rr.hr.len, List.getElem?_concat_length]
  · exact p1.po.elim
end
end Tv
end

section
set_option autoImplicit false
set_option maxHeartbeats 1000000
/-! Further statements. -/
namespace Tv
open PySem PySem.Spec PyProof.Rows L2
section
variable {X : Cx} {px : Px} {W : WX} {sts : List Stmt} {f g : Ev → Hs → R Fl} {a b c : Expr} {fa fb fc : Ev → Hs → R D} {pos pos' pos2 p apos cpos : Pos} {i j : Nat} {x y : Str}
/-! ### a[b], i = c -/
def fSd2 (fa fb : Ev → Hs → R D) (i : Nat) (fc : Ev → Hs → R D) : Ev → Hs → R Fl := fun e h => (fc e h).bind fun z h => (match z with
    | .tup [p, q] => (fa e h).bind fun x h => (fb e h).bind fun y h => (match x, y with
      | .ref r, .int j => (match h[r]? with
        | some (.lst xs) => (match setL xs j p with
          | some ys => .ok (.nx (e.put i (.v q))) (h.set r (.lst ys))
          | none => .bad)
        | _ => .bad)
      | _, _ => .bad)
    | _ => .bad)
mutual
theorem VR.kp {K : PySem.W.Frag} {w : Wd} {H : Hp} : ∀ {d : D} {v : V}, VR K w H d v → d.keep = true
  | _, _, .non => rfl
  | _, _, .bl b => rfl
  | _, _, .int i => rfl
  | _, _, .str s => rfl
  | _, _, .tup q r => rfl
  | _, _, .lst n q r => rfl
  | _, _, .dct n nd q => rfl
  | _, _, .ref q => rfl
  | _, _, .exc _ _ _ => rfl
  | _, _, .exb _ _ _ _ => rfl
end
theorem vr_tup2 {K : PySem.W.Frag} {w : Wd} {H : Hp} {d1 d2 : D} {v : V} (h : VR K w H (.tup [d1, d2]) v) : ∃ t v1 v2, v = .ref t ∧ SqT K H t [v1, v2] ∧ VR K w H d1 v1 ∧ VR K w H d2 v2 := by
  cases h with
  | tup q r => cases r with
    | cons a r => cases r with
      | cons b r => cases r; exact ⟨_, _, _, rfl, .inl (.inl q), a, b⟩
theorem asg_sub (h : nsl b = true) : ∀ v, assign (.Subscript a b pos2) X.env v = (do
      let ov ← holding [v] (eval a X.env)
      let iv ← holding [v, ov] (eval b X.env)
      standAt pos2
      holding [v, ov, iv] (setItem ov iv v)
      release [v, ov, iv] []) := by
  intro v
  cases b <;> first | rfl | cases h
theorem ss_sd2 {kk : Nat} (hcal : X.calm = true) (hN : X.N.Nodup) (hn : NmOk X x i) (ha' : SE X px W a fa) (hb : SE X px W b fb) (hc : SE X px W c fc) (hsl : nsl b = true)
    (hs : swapsWithSole [.Tuple [.Subscript a b pos2, .Name x p] kk pos'] c pos.line X.env = pure false) (hw : swappedStores [.Tuple [.Subscript a b pos2, .Name x p] kk pos'] c X.env = pure none) : SS X px W (.Assign [.Tuple [.Subscript a b pos2, .Name x p] kk pos'] c pos) (fSd2 fa fb i fc) := by
  refine PS.of (ps_asg hc (pg_tup (n := 2) hcal (pgs_cons (pg_sub ha' hb set_list (asg_sub hsl)) (pgs_cons (pg_name hN hn.1 hn.2.1 hn.2.2) pgs_nil))) hs hw) fun En σ H ⟨w, e, h, p⟩ => ?_
  refine ⟨w, e, h, p.bind.imp fun v H1 ⟨d, h1, w1, _, x1, v1, p1⟩ => ?_⟩
  obtain ⟨d1, d2, rfl⟩ : ∃ d1 d2, d = .tup [d1, d2] := by
    split at p1
    · exact ⟨_, _, rfl⟩
    · exact p1.po.elim
  obtain ⟨t, u1, u2, rfl, hq, r1, r2⟩ := vr_tup2 (VT.keep v1 rfl)
  refine ⟨t, [u1, u2], rfl, hq, rfl, u1, [u2], rfl, w1, e, h1, PrS.bind p1 |>.imp fun u H2 ⟨dx, h2, w2, _, x2, v2, p2⟩ => ⟨w2, e, h2, p2.bind.imp fun u' H3 ⟨dy, h3, w3, _, x3, v3, p3⟩ => ?_⟩⟩
  obtain ⟨r, rfl⟩ : ∃ r, dx = .ref r := by cases dx <;> first | exact ⟨_, rfl⟩ | exact p3.po.elim
  obtain ⟨k, rfl⟩ : ∃ k, dy = .int k := by cases dy <;> first | exact ⟨_, rfl⟩ | exact p3.po.elim
  obtain rfl := vInt v3
  dsimp only at p3
  split at p3
  · rename_i xs e1
    cases e2 : setL xs k d1 with
    | none => rw [e2] at p3; exact p3.po.elim
    | some ys =>
      rw [e2] at p3
      obtain ⟨j, e3, rfl⟩ := setL_of e2
      obtain ⟨q, us, rfl, t2, t3, t4, t5⟩ := p3.rr.heap e1 (ref_at (v2.ext x3))
      have r1' := (r1.ext x2).ext x3
      obtain ⟨y1, x4⟩ := t5 _ _ (VRs.set_ r1' t3 j) (keep_set t4 r1'.kp)
      refine ⟨q, us, k, j, rfl, rfl, t2, by rw [← t3.length]; exact e3, u2, [], rfl, rfl, ?_⟩
      exact p3.done x4 ⟨y1.hr, y1.er.put i (.of (((r2.ext x2).ext x3).exts x4)), y1.tb⟩
  · exact p3.po.elim
/-! ### i = j, the list j's own -/
/-- the value of a name, told -/
def fMv (i j : Nat) : Ev → Hs → R Fl := fun e h => (match e.get j with
    | .o xs => .ok (.nx ((e.put j .u).put i (.o xs))) h
    | _ => .bad)
theorem RR.mv {K : PySem.W.Frag} {w : Wd} {e : Ev} {h : Hs} {σ : L2.St} {H : Hp} (r : RR K px w e h σ H) {i j : Nat} (hij : i ≠ j) {ds : List D} (hj : e.get j = .o ds) : ∃ a, σ[j]? = some (some (.ref a)) ∧ RR K px ((w.put j none).put i (some a)) ((e.put j .u).put i (.o ds)) h (σ.set i (some (.ref a))) H ∧ ExtS w H ((w.put j none).put i (some a)) H := by
  have q := r.er.sl j
  rw [hj] at q
  obtain ⟨a, xs, q1, q2, q3, q4, q5⟩ := q
  have m : some a ∈ w.ow := List.mem_iff_getElem?.mpr ⟨j, q2⟩
  have sub : ∀ b, some b ∈ ((w.put j none).put i (some a)).ow → some b ∈ w.ow := fun b z => by
    rcases mem_set z with y | y
    · rcases mem_set y with y | y
      · exact y
      · cases y
    · rw [Option.some.inj y]; exact m
  have x : ExtS w H ((w.put j none).put i (some a)) H := ⟨⟨[], by simp [Wd.put], fun _ h => by cases h⟩, fun b z => by
    rcases z with z | z | z
    · exact .inl (.inl z)
    · exact .inl (.inr (.inl (sub b z)))
    · exact .inl (.inr (.inr z)), fun _ _ h _ _ _ => h, fun _ _ h => h, fun b z => .inl (sub b z), fun _ h => h, fun _ h => h⟩
  have hjl : j < σ.length := (List.getElem?_eq_some_iff.mp q1).1
  have at_ : ∀ (k : Nat) (b : Addr), ((w.put j none).put i (some a)).ow[k]? = some (some b) → (k = i ∧ b = a) ∨ (k ≠ i ∧ k ≠ j ∧ w.ow[k]? = some (some b)) := fun k b z => by
    rcases get_set z with ⟨a1, a2, _⟩ | ⟨a1, a2⟩
    · exact .inl ⟨a1, Option.some.inj a2⟩
    · rcases get_set a2 with ⟨_, c2, _⟩ | ⟨c1, c2⟩
      · cases c2
      · exact .inr ⟨a1, c1, c2⟩
  refine ⟨a, q1, ⟨r.hr.exts x rfl (fun b z y => (r.hr.sep b y).1 (sub b z)) fun b => Iff.rfl, ⟨?_, ?_, fun k => ?_, fun k l b z1 z2 => ?_, fun k b z => ?_⟩, r.tb⟩, x⟩
  · rw [Ev.length_put, Ev.length_put, List.length_set]; exact r.er.len
  · show ((w.ow.set j none).set i _).length = _
    rw [List.length_set, List.length_set, List.length_set]; exact r.er.wl
  · by_cases hk : i = k
    · subst hk
      rcases Ev.get_put (e.put j .u) i (.o ds) with z | ⟨z1, z2⟩
      · rw [z]; trivial
      · rw [z2]
        rw [Ev.length_put, r.er.len] at z1
        refine ⟨a, xs, List.getElem?_set_self z1, ?_, q3, q4.exts x, q5⟩
        show ((w.ow.set j none).set i _)[i]? = _
        exact List.getElem?_set_self (by rw [List.length_set, r.er.wl]; exact z1)
    · rw [Ev.get_put_ne _ _ hk, List.getElem?_set_ne hk]
      by_cases hk2 : j = k
      · subst hk2
        rcases Ev.get_put e j .u with z | ⟨_, z⟩ <;> (rw [z]; trivial)
      · rw [Ev.get_put_ne _ _ hk2]
        refine SlR.oth x (fun b q => ⟨?_, fun o z _ => z⟩) (r.er.sl k)
        show ((w.ow.set j none).set i _)[k]? = _
        rw [List.getElem?_set_ne hk, List.getElem?_set_ne hk2]; exact q
  · rcases at_ k b z1 with ⟨a1, a2⟩ | ⟨a1, a2, a3⟩ <;> rcases at_ l b z2 with ⟨b1, b2⟩ | ⟨b1, b2, b3⟩
    · rw [a1, b1]
    · rw [a2] at b3
      exact (b2 (r.er.inj l j a b3 q2)).elim
    · rw [b2] at a3
      exact (a2 (r.er.inj k j a a3 q2)).elim
    · exact r.er.inj k l b a3 b3
  · rcases at_ k b z with ⟨a1, a2⟩ | ⟨a1, a2, a3⟩
    · rw [a2]; exact r.er.ot j a q2
    · exact r.er.ot k b a3
theorem ss_mv (hN : X.N.Nodup) (hn : NmOk X x i) (hr : RdOk X y j) (hij : i ≠ j) (hs : swapsWith (.Name y p) (some (.Name x pos')) pos.line X.env = pure false) : SS X px W (.Assign [.Name x pos'] (.Name y p) pos) (fMv i j) := by
  refine PS.of (ps_set hN hn.1 hn.2.1 hr.pe hs hn.2.2) fun En σ H ⟨w, e, h, p⟩ => ?_
  unfold fMv at p
  cases e1 : e.get j with
  | o xs =>
    rw [e1] at p
    obtain ⟨a, s1, r1, x1⟩ := p.rr.mv hij e1
    exact ⟨.ref a, s1, p.done x1 r1⟩
  | u => rw [e1] at p; exact p.po.elim
  | v d => rw [e1] at p; exact p.po.elim
  | k kvs => rw [e1] at p; exact p.po.elim
/-! ### i, j = a, b, stored one by one -/
def fPar (i j : Nat) (fa fb : Ev → Hs → R D) : Ev → Hs → R Fl := fun e h => (fa e h).bind fun x h => (fb e h).bind fun y h => if x.keep && y.keep then .ok (.nx ((e.put i (.v x)).put j (.v y))) h else .bad
theorem ss_par {kt k2 : Nat} {px' py' pt pt2 : Pos} (hcal : X.calm = true) (hN : X.N.Nodup) (hn : NmOk X x i) (hm : NmOk X y j) (hij : i ≠ j) (hx : X.env.scope.names.lookup x = some .local) (hy : X.env.scope.names.lookup y = some .local) (ha : SE X px W a fa) (hb : SE X px W b fb) (sa : nst a = true) (sb : nst b = true)
    (hw : swappedStores [.Tuple [.Name x px', .Name y py'] kt pt] (.Tuple [a, b] k2 pt2) X.env = pure (some [x, y])) : SS X px W (.Assign [.Tuple [.Name x px', .Name y py'] kt pt] (.Tuple [a, b] k2 pt2) pos) (fPar i j fa fb) := by
  refine PS.of (ps_par hcal hN hn.1 hm.1 hij hx hy (pa_cons ha (pa_cons hb pa_nil (star_ok sb)) (star_ok sa)) hw) fun En σ H ⟨w, e, h, p⟩ => ?_
  refine ⟨w, e, h, p.bind.imp fun v H1 ⟨d, h1, w1, _, x1, v1, p1⟩ => ⟨w1, e, h1, p1.bind.imp fun u H2 ⟨d2, h2, w2, _, x2, v2, p2⟩ => ?_⟩⟩
  split at p2
  · rename_i hk
    rw [Bool.and_eq_true] at hk
    exact ⟨v, u, rfl, p2.done (ExtS.refl _ _) ⟨p2.rr.hr, (p2.rr.er.put i (.of ((VT.keep v1 hk.1).ext x2))).put j (.of (VT.keep v2 hk.2)), p2.rr.tb⟩⟩
  · exact p2.po.elim
/-! ### raise -/
theorem ss_raise {cn m : Str} {C : Addr} {ci jj : Nat} {bmB : List Value} {B newId initId : String} {p2 : Pos} (hc : X.calm = true) (tk : Takes X W) (F : ExcBaseFacts B newId initId bmB) (q : PySem.W.excIn X.K C bmB newId = true) (gC : X.mg cn = some (.ref C)) (kC : PySem.W.keepIn X.K (.ref C) = true) (r : Raises X (.ref C)) (hg : Gl X cn)
    (hdb : (cn == ("__debug__" : Str)) = false) (hC : px.ex ci = C) (h16 : ci ≠ 16) : SS X px W (.Raise (some (.Call (.Name cn p) [.Constant (.str m) jj p2] [] pos2)) none pos) (fun _ h => .exc (.exc ci (.str m)) h) := by
  refine PS.of (ps_raise hc tk (pmk_own F q gC kC r hg hdb)) fun En σ H ⟨w, e, h, p⟩ => ?_
  exact p.po _ none w σ H (ExtS.refl _ _) p.rr.hr p.rr.tb ⟨by rw [hC], fun _ => rfl, fun z => absurd z h16⟩
end
end Tv
end

section
set_option autoImplicit false
set_option maxHeartbeats 1000000
/-! Calls of the program's own defs. -/
namespace Tv
open PySem PySem.Spec PyProof.Rows L2
inductive VSs (K : PySem.W.Frag) (w : Wd) (H : Hp) : List D → List V → Prop
  | nil : VSs K w H [] []
  | cons {d : D} {v : V} {ds : List D} {vs : List V} : VS K w H d v → VSs K w H ds vs → VSs K w H (d :: ds) (v :: vs)
def PostF (K : PySem.W.Frag) (px : Px) (w : Wd) (H : Hp) (Q : VK) (E : XK) : R D → Prop
  | .ok d h' => ∀ v w' H', ExtS w H w' H' → HR K w' h' H' → LamX.Tabs px.T H' → VR K w' H' d v → Q v H'
  | .exc x h' => ∀ cls dd w' H', ExtS w H w' H' → HR K w' h' H' → LamX.Tabs px.T H' → XR px H' x cls dd → E cls dd H'
  | .bad => False
/-- what a def promises: F, by values -/
def spF (K : PySem.W.Frag) (px : Px) (F : List D → Hs → R D) (vs : List V) (H : Hp) (Q : VK) (E : XK) : Prop :=
  ∃ w h ds, w.ow = [] ∧ HR K w h H ∧ LamX.Tabs px.T H ∧ VSs K w H (ds.map D.hand) vs ∧ PostF K px w H Q E (F ds h)
def CallG (P : Program) (wo : World) (K : PySem.W.Frag) (mg : Str → Option Value) (base : Heap) (px : Px) (k : Nat) (f : Addr) (fd : FuncData) (ps : List Str) (F : List D → Hs → R D) : Prop :=
  ∀ (A : Around) (outer : List Env) (s : Shared) (H : Hp) (ar : Args) (us : List Value) (vs : List V) (Q : VK) (E : XK), Room (2 * k + 4) A → A.guards = some [] → Env0 P wo K mg base A outer s H → BindsTo s fd ar (ps.zip us) → Vals vs us → vs.length = ps.length → spF K px F vs H Q E →
    codeAny (model P wo) A (.call (.ref f) ar) (CR (L2.CX P wo) outer P wo H s Q E) s
/-- how a def's names bind: all written, or the last one left out -/
structure BindX (K : PySem.W.Frag) (fd : FuncData) (ps : List Str) (o : Option Int) : Prop where
  full : Binds K fd ps []
  short : ∀ i, o = some i → ∃ t, Binds K fd ps [.int i t]
section
variable {K : PySem.W.Frag} {px : Px} {w : Wd} {H : Hp} {h : Hs}
theorem VSs.len : ∀ {ds : List D} {vs : List V}, VSs K w H ds vs → ds.length = vs.length
  | _, _, .nil => rfl
  | _, _, .cons _ r => congrArg (· + 1) (VSs.len r)
theorem VTs.len : ∀ {ds : List D} {vs : List V}, VTs K w H ds vs → ds.length = vs.length
  | _, _, .nil => rfl
  | _, _, .cons _ r => congrArg (· + 1) (VTs.len r)
/-- the callee's world: nothing is owned -/
def Wd.call (w : Wd) : Wd := ⟨w.hp, [], fun a => w.pr a ∨ some a ∈ w.ow⟩
theorem Wd.call_forb {a : Addr} : w.call.forb a ↔ w.forb a := by
  constructor
  · rintro (z | z | z | z)
    · exact .inl z
    · cases z
    · exact .inr (.inr z)
    · exact .inr (.inl z)
  · rintro (z | z | z)
    · exact .inl z
    · exact .inr (.inr (.inr z))
    · exact .inr (.inr (.inl z))
theorem VT.hand {d : D} {v : V} (q : VT K w H d v) : VS K w.call H d.hand v := by
  have e : w.call.hp = w.hp := rfl
  cases q with
  | of q =>
    cases q with
    | of q =>
      have k := q.kp
      have e2 : d.hand = d := by cases d <;> first | rfl | cases k
      rw [e2]
      exact .of (VR.weak e (fun a z => Wd.call_forb.mp z) q)
    | scr n1 n2 q r => exact .scr n1 (by intro z; cases z) q (VRs.weak e (fun a z => Wd.call_forb.mp z) r)
    | scrK q r => exact .scrK q (VRs.weak e (fun a z => Wd.call_forb.mp z) r)
  | bor m n q r => exact .scr n (by intro z; cases z) (.inl q) (VRs.weak e (fun a z => Wd.call_forb.mp z) r)
theorem VTs.hands : ∀ {ds : List D} {vs : List V}, VTs K w H ds vs → VSs K w.call H (ds.map D.hand) vs
  | _, _, .nil => .nil
  | _, _, .cons a r => .cons a.hand r.hands
theorem VSs.snoc {i : Int} : ∀ {ds : List D} {vs : List V}, VSs K w H (ds.map D.hand) vs → VSs K w H ((ds ++ [D.int i]).map D.hand) (vs ++ [V.int i])
  | [], _, .nil => .cons (.of (.int i)) .nil
  | _ :: _, _, .cons a r => .cons a (VSs.snoc r)
theorem HR.weak {w' : Wd} (r : HR K w h H) (e : w'.hp = w.hp) (hf : ∀ a, w'.forb a → w.forb a) (hs : ∀ a, a ∈ w.hp → some a ∉ w'.ow ∧ ¬ w'.pr a) (hp : ∀ a, w'.pr a → H a ≠ none) : HR K w' h H where
  len := by rw [e]; exact r.len
  nd := by rw [e]; exact r.nd
  ob := fun i a o h1 h2 => by
    rw [e] at h1
    have q := r.ob i a o h1 h2
    cases o with
    | lst ds =>
      obtain ⟨xs, q1, q2, q3⟩ := q
      exact ⟨xs, q1, VRs.weak e hf q2, q3⟩
    | ins c fs =>
      obtain ⟨dx, vs, q1, q2⟩ := q
      exact ⟨dx, vs, q1, q2.map fun z => VR.weak e hf z⟩
    | dct kvs =>
      obtain ⟨ks, q1, q2⟩ := q
      exact ⟨ks, q1, q2.map fun z => VR.weak e hf z⟩
  sep := fun a ha => hs a (by rw [← e]; exact ha)
  prd := hp
theorem RR.call {e : Ev} {σ : L2.St} (r : RR K px w e h σ H) : HR K w.call h H := by
  refine r.hr.weak rfl (fun a z => Wd.call_forb.mp z) (fun a ha => ⟨(fun z => by cases z), fun z => ?_⟩) fun a z => ?_
  · rcases z with z | z
    · exact (r.hr.sep a ha).2 z
    · exact (r.hr.sep a ha).1 z
  · rcases z with z | z
    · exact r.hr.prd a z
    · obtain ⟨i, hi⟩ := List.mem_iff_getElem?.mp z
      exact (r.er.ot i a hi).1
/-- back from a callee -/
def Wd.back (w wc : Wd) : Wd := ⟨wc.hp, w.ow, w.pr⟩
theorem Wd.back_forb {wc : Wd} {H' : Hp} (x : ExtS w.call H wc H') {a : Addr} (z : (w.back wc).forb a) : wc.forb a := by
  rcases z with z | z | z
  · exact .inl z
  · exact .inr (.inr (x.pr a (.inr z)))
  · exact .inr (.inr (x.pr a (.inl z)))
theorem Ext.back {wc : Wd} {H' : Hp} (x : ExtS w.call H wc H') : Ext w H (w.back wc) H' := ⟨x.pre, rfl, fun _ h => h, fun _ h => .inl h, fun a o h n t => x.keep a o h n (by intro z; cases z) t, x.tups, x.dom⟩
theorem HR.back {wc : Wd} {H' : Hp} {h' : Hs} (x : ExtS w.call H wc H') (r : HR K wc h' H') : HR K (w.back wc) h' H' :=
  r.weak rfl (fun a z => Wd.back_forb x z) (fun a ha => ⟨fun z => (r.sep a ha).2 (x.pr a (.inr z)), fun z => (r.sep a ha).2 (x.pr a (.inl z))⟩) fun a z => r.prd a (x.pr a (.inl z))
end
section
variable {X : Cx} {px : Px} {W : WX} {a : Expr} {es : List Expr} {fr : Ev → Hs → R (List D)} {F : List D → Hs → R D} {k : Nat} {f : Addr} {fd : FuncData} {ps : List Str} {x : Str} {p pos : Pos}
theorem se_call (G : CallG X.prog X.w X.K X.mg X.base px k f fd ps F) (hr : Room (2 * k + 4) X.A) (gd : X.A.guards = some []) (tk : Takes X W) (hg : Gl X x) (hm : X.mg x = some (.ref f)) (hk : PySem.W.keepIn X.K (.ref f) = true) (hb : Binds X.K fd ps [])
    (ha : SA X px W (a :: es) fr) (hs : (a :: es).all nst = true) (hn : ∀ e h ds h', fr e h = .ok ds h' → ds.length = ps.length) (hdb : (x == ("__debug__" : Str)) = false) : SE X px W (.Call (.Name x p) (a :: es) [] pos) (fun e h => (fr e h).bind F) := by
  rw [List.all_cons, Bool.and_eq_true] at hs
  refine ⟨fun pins s σ H Q I q => ?_⟩
  obtain ⟨w, e, h, p⟩ := q
  refine wpAny_Call_Name_kw (ld_glob I hg hm ?_ hdb)
  refine PySem.W.callWith_K (h₀ := X.base) I.ok.mod.kin hk (thn (ha.run pos pins s σ H _ I ⟨w, e, h, p.bind⟩) fun us s1 ⟨vs, H1, I1, r, ds, h1, w1, e1, x1, v1, p1⟩ => ⟨I1.kIn, ?_⟩) (star_ok hs.1) (stars_any hs.2)
  have hl : vs.length = ps.length := by rw [← VTs.len v1]; exact hn _ _ _ _ e1
  have b := hb s1 us I1.kIn (by rw [List.append_nil, ← r.length]; exact hl)
  rw [List.append_nil] at b
  refine wpAny_call (codeAny_mono (G X.A X.stack s1 H1 ⟨us, []⟩ us vs Q (WE W σ) hr gd I1.env0 b r hl ⟨w1.call, h1, ds, rfl, p1.rr.call, p1.rr.tb, v1.hands, ?_⟩) fun r s' hq => ?_)
  · have q := p1.po
    cases e2 : F ds h1 with
    | bad => rw [e2] at q; exact q
    | exc y h' => rw [e2] at q; exact fun cls dd w' H' y1 y2 y3 y4 => q cls dd _ H' (Ext.back y1) (HR.back y1 y2) y3 y4
    | ok d h' =>
      rw [e2] at q
      intro v w' H' y1 y2 y3 y4
      have e3 : (w1.back w').hp = w'.hp := rfl
      exact q v _ H' (Ext.back y1) (HR.back y1 y2) y3 (.of (.of (VR.weak e3 (fun a z => Wd.back_forb y1 z) y4)))
  · cases r with
    | error u => exact passAt tk σ pins H1 s1 u s' I1 hq
    | ok fl =>
      cases fl with
      | ret u => exact I1.after hq
      | next => exact False.elim hq
      | brk => exact False.elim hq
      | cont => exact False.elim hq
theorem se_cld {di : Int} (G : CallG X.prog X.w X.K X.mg X.base px k f fd ps F) (hr : Room (2 * k + 4) X.A) (gd : X.A.guards = some []) (tk : Takes X W) (hg : Gl X x) (hm : X.mg x = some (.ref f)) (hk : PySem.W.keepIn X.K (.ref f) = true) {t : Tok} (hb : Binds X.K fd ps [.int di t])
    (ha : SA X px W (a :: es) fr) (hs : (a :: es).all nst = true) (hn : ∀ e h ds h', fr e h = .ok ds h' → ds.length + 1 = ps.length) (hdb : (x == ("__debug__" : Str)) = false) : SE X px W (.Call (.Name x p) (a :: es) [] pos) (fun e h => (fr e h).bind fun ds h => F (ds ++ [.int di]) h) := by
  rw [List.all_cons, Bool.and_eq_true] at hs
  refine ⟨fun pins s σ H Q I q => ?_⟩
  obtain ⟨w, e, h, p⟩ := q
  refine wpAny_Call_Name_kw (ld_glob I hg hm ?_ hdb)
  refine PySem.W.callWith_K (h₀ := X.base) I.ok.mod.kin hk (thn (ha.run pos pins s σ H _ I ⟨w, e, h, p.bind⟩) fun us s1 ⟨vs, H1, I1, r, ds, h1, w1, e1, x1, v1, p1⟩ => ⟨I1.kIn, ?_⟩) (star_ok hs.1) (stars_any hs.2)
  have hl : (vs ++ [V.int di]).length = ps.length := by rw [List.length_append, ← VTs.len v1]; exact hn _ _ _ _ e1
  have b := hb s1 us I1.kIn (by rw [List.length_append, ← r.length]; rw [List.length_append] at hl; exact hl)
  refine wpAny_call (codeAny_mono (G X.A X.stack s1 H1 ⟨us, []⟩ (us ++ [.int di t]) (vs ++ [.int di]) Q (WE W σ) hr gd I1.env0 b (r.append (.cons (show RelV (.int di) (Value.int di t) from ⟨t, rfl⟩) .nil)) hl ⟨w1.call, h1, ds ++ [.int di], rfl, p1.rr.call, p1.rr.tb, v1.hands.snoc, ?_⟩) fun r s' hq => ?_)
  · have q := p1.po
    cases e2 : F (ds ++ [.int di]) h1 with
    | bad => rw [e2] at q; exact q
    | exc y h' => rw [e2] at q; exact fun cls dd w' H' y1 y2 y3 y4 => q cls dd _ H' (Ext.back y1) (HR.back y1 y2) y3 y4
    | ok d h' =>
      rw [e2] at q
      intro v w' H' y1 y2 y3 y4
      have e3 : (w1.back w').hp = w'.hp := rfl
      exact q v _ H' (Ext.back y1) (HR.back y1 y2) y3 (.of (.of (VR.weak e3 (fun a z => Wd.back_forb y1 z) y4)))
  · cases r with
    | error u => exact passAt tk σ pins H1 s1 u s' I1 hq
    | ok fl =>
      cases fl with
      | ret u => exact I1.after hq
      | next => exact False.elim hq
      | brk => exact False.elim hq
      | cont => exact False.elim hq
end
/-! ### a def's promise -/
section
variable {P : Program} {wo : World} {K : PySem.W.Frag} {mg : Str → Option Value} {base : Heap} {px : Px} {k : Nat} {f : Addr} {name qual : Str} {params : Arguments} {body : List Stmt} {scope : Scope} {dV kV doc pm cdv ct oc : Value} {an od : Option Addr} {osl : Array (Option Value)} {N ps : List Str}
theorem VSs.at_ {w : Wd} {H : Hp} : ∀ {ds : List D} {vs : List V}, VSs K w H ds vs → ∀ {i : Nat}, i < ds.length → ∃ d v, ds[i]? = some d ∧ vs[i]? = some v ∧ VS K w H d v
  | _, _, .cons a r, 0, _ => ⟨_, _, rfl, rfl, a⟩
  | _, _, .cons a r, i + 1, h => VSs.at_ r (by simpa using h)
theorem Ev.get_map : ∀ (ds : List D) (r : Ev) (i : Nat) (d : D), ds[i]? = some d → Ev.get (ds.map Sl.v ++ r) i = .v d
  | [], _, _, _, h => by simp at h
  | x :: ds, r, 0, d, h => by cases h; rfl
  | x :: ds, r, i + 1, d, h => Ev.get_map ds r i d h
theorem Ev.get_rep : ∀ (n i : Nat), Ev.get (List.replicate n Sl.u) i = .u
  | 0, _ => rfl
  | n + 1, 0 => rfl
  | n + 1, i + 1 => Ev.get_rep n i
theorem Ev.get_past : ∀ (ds : List D) (r : Ev) (i : Nat), Ev.get (ds.map Sl.v ++ r) (ds.length + i) = Ev.get r i
  | [], r, i => by simp
  | x :: ds, r, i => by
    rw [List.length_cons, show ds.length + 1 + i = (ds.length + i) + 1 by omega]
    exact Ev.get_past ds r i
def Wd.enter (w : Wd) (n : Nat) : Wd := ⟨w.hp, List.replicate n none, w.pr⟩
theorem rep_none {n : Nat} {a : Addr} : some a ∉ List.replicate n (none : Option Addr) := fun z => by cases (List.mem_replicate.mp z).2
theorem Wd.enter_forb {w : Wd} {n : Nat} {a : Addr} (z : (w.enter n).forb a) : w.forb a := by
  rcases z with z | z | z
  · exact .inl z
  · exact (rep_none z).elim
  · exact .inr (.inr z)
theorem ext_enter {w : Wd} {n : Nat} {H : Hp} : ExtS w H (w.enter n) H := ⟨⟨[], by simp [Wd.enter], fun _ h => by cases h⟩, fun a z => .inl (Wd.enter_forb z), fun _ _ h _ _ _ => h, fun _ _ h => h, fun a z => (rep_none z).elim, fun _ h => h, fun _ h => h⟩
theorem start_RR {w : Wd} {h : Hs} {H : Hp} {ds : List D} {vs : List V} (r : HR K w h H) (tb : LamX.Tabs px.T H) (hv : VSs K w H ds vs) (hl : vs.length ≤ N.length) : RR K px (w.enter N.length) (startE N.length ds) h (L2.start N vs) H := by
  have hlen := hv.len
  refine ⟨r.weak rfl (fun a z => Wd.enter_forb z) (fun a ha => ⟨rep_none, (r.sep a ha).2⟩) r.prd, ⟨?_, ?_, fun i => ?_, fun i j a q => (rep_none (List.mem_iff_getElem?.mpr ⟨i, q⟩)).elim, fun i a q => (rep_none (List.mem_iff_getElem?.mpr ⟨i, q⟩)).elim⟩, tb⟩
  · unfold startE L2.start
    simp only [List.length_append, List.length_map, List.length_replicate]
    omega
  · show (List.replicate N.length none).length = _
    unfold L2.start
    simp only [List.length_append, List.length_map, List.length_replicate]
    omega
  · unfold startE
    by_cases hi : i < ds.length
    · obtain ⟨d, v, e1, e2, q⟩ := hv.at_ hi
      rw [Ev.get_map ds _ i d e1]
      refine ⟨v, ?_, q.exts ext_enter⟩
      unfold L2.start
      rw [List.getElem?_append_left (by rw [List.length_map]; omega), List.getElem?_map, e2]; rfl
    · have e : i = ds.length + (i - ds.length) := by omega
      rw [e, Ev.get_past, Ev.get_rep]
      trivial
theorem callG_of {cl : Nat → List D → Hs → R D} {b : Ss} (lk : K.lookup f = some ⟨oc, od, .func (PySem.W.fnOf name qual params body scope dV kV doc pm an cdv ct), osl⟩) (hcd : PySem.W.codeIn K cdv qual = true) (S : FnScope N ps scope) (hpl : ps.length ≤ N.length)
    (hbody : ∀ (A : Around) (outer : List Env) (s : Shared) (H : Hp) (E : XK), Room (2 * k + 6) A → A.guards = some [] →
      SB (cxOf (L2.CX P wo) P wo K mg base N qual scope f cdv A outer s H E) px (fun cls d _ H => E cls d H) body (exB cl b)) :
    CallG P wo K mg base px (k + 1) f (PySem.W.fnOf name qual params body scope dV kV doc pm an cdv ct) ps (fun ds h => (exB cl b (startE N.length (ds.map D.hand)) h).out) := by
  intro A outer s H ar us vs Q E hr gd e0 hb r hl sp
  refine LamX.run_ofS (k := 2 * k + 5) lk hcd S hr e0 hb r hl fun hr' => ⟨_, hbody A outer s H E hr gd, ?_⟩
  obtain ⟨w, h, ds, _, h1, h2, h3, h4⟩ := sp
  refine ⟨w.enter N.length, _, h, start_RR h1 h2 h3 (by rw [hl]; exact hpl), ?_⟩
  have h4 : PostF K px w H Q E (exB cl b (startE N.length (ds.map D.hand)) h).out := h4
  cases e1 : exB cl b (startE N.length (ds.map D.hand)) h with
  | bad => rw [e1] at h4; exact h4
  | exc y h' => rw [e1] at h4; exact fun cls dd w' σ' H' y1 y2 y3 y4 => h4 cls dd w' H' (ext_enter.trans y1) y2 y3 y4
  | ok fl h' =>
    rw [e1] at h4
    cases fl with
    | nx e' => exact fun w' σ' H' y1 y2 => h4 .non w' H' (ext_enter.trans y1) y2.hr y2.tb .non
    | rt d => exact fun w' v H' y1 y2 y3 y4 => h4 v w' H' (ext_enter.trans y1) y2 y3 y4
end
end Tv
end

section
set_option autoImplicit false
set_option maxHeartbeats 1000000
/-! A list that a def tells is the asker's own: nothing that may change is handed in, so what is told is new. -/
namespace Tv
open PySem PySem.Spec PyProof.Rows L2
section
variable {K : PySem.W.Frag} {px : Px} {w : Wd} {H : Hp} {h : Hs}
theorem HR.more {w' : Wd} {H' : Hp} (r : HR K w h H) (x : Ext w H w' H') (e : w'.hp = w.hp) (hk : ∀ a, a ∈ w.hp → H' a = H a) (hs : ∀ a, a ∈ w.hp → ¬ w'.pr a) (hp : ∀ a, w'.pr a → H' a ≠ none) : HR K w' h H' where
  len := by rw [e]; exact r.len
  nd := by rw [e]; exact r.nd
  ob := fun i a o h1 h2 => by
    rw [e] at h1
    have q := r.ob i a o h1 h2
    cases o with
    | lst ds =>
      obtain ⟨xs, q1, q2, q3⟩ := q
      exact ⟨xs, by rw [hk a (List.mem_iff_getElem?.mpr ⟨i, h1⟩)]; exact q1, q2.ext x, q3⟩
    | ins c fs =>
      obtain ⟨dx, vs, q1, q2⟩ := q
      exact ⟨dx, vs, by rw [hk a (List.mem_iff_getElem?.mpr ⟨i, h1⟩)]; exact q1, q2.map fun z => z.ext x⟩
    | dct kvs =>
      obtain ⟨ks, q1, q2⟩ := q
      exact ⟨ks, by rw [hk a (List.mem_iff_getElem?.mpr ⟨i, h1⟩)]; exact q1, q2.map fun z => z.ext x⟩
  sep := fun a ha => ⟨by rw [x.ow]; exact (r.sep a (by rw [← e]; exact ha)).1, hs a (by rw [← e]; exact ha)⟩
  prd := hp
mutual
/-- what holds nothing that may change looks alike in any world -/
theorem VR.still {w' : Wd} : ∀ {d : D} {v : V}, VR K w H d v → D.tt d = true → VR K w' H d v
  | _, _, .non, _ => .non
  | _, _, .bl b, _ => .bl b
  | _, _, .int i, _ => .int i
  | _, _, .str s, _ => .str s
  | _, _, .tup q r, k => .tup q (VRs.still r k)
  | _, _, .lst _ _ _, k => by cases k
  | _, _, .dct _ _ _, k => by cases k
  | _, _, .ref _, k => by cases k
  | _, _, .exc _ _ _, k => by cases k
  | _, _, .exb _ _ _ _, k => by cases k
theorem VRs.still {w' : Wd} : ∀ {ds : List D} {vs : List V}, VRs K w H ds vs → D.tts ds = true → VRs K w' H ds vs
  | _, _, .nil, _ => .nil
  | _, _, .cons a r, k => by
    unfold D.tts at k
    rw [Bool.and_eq_true] at k
    exact .cons (VR.still a k.1) (VRs.still r k.2)
end
theorem VTs.still {w' : Wd} : ∀ {ds : List D} {vs : List V}, VTs K w H ds vs → D.tts ds = true → VSs K w' H (ds.map D.hand) vs
  | _, _, .nil, _ => .nil
  | d :: _, _, .cons a r, k => by
    unfold D.tts at k
    rw [Bool.and_eq_true] at k
    have hh : d.hand = d := by cases d <;> first | rfl | (cases k.1; done)
    have hk : d.keep = true := by cases d <;> first | rfl | (cases k.1; done)
    rw [List.map_cons, hh]
    exact .cons (.of (VR.still (VT.keep a hk) k.1)) (VTs.still r k.2)
end
section
variable {X : Cx} {px : Px} {W : WX} {a : Expr} {es : List Expr} {fr : Ev → Hs → R (List D)} {F : List D → Hs → R D} {k : Nat} {f : Addr} {fd : FuncData} {ps : List Str} {x : Str} {p pos : Pos}
theorem fClf_ok {F : List D → Hs → R D} {ds : List D} {h : Hs} : (∃ xs g, D.tts ds = true ∧ F ds [] = .ok (.lst xs) g ∧ D.tts xs = true ∧ fClf F ds h = .ok (.lst xs) h) ∨ fClf F ds h = .bad := by
  unfold fClf
  split
  · rename_i h1
    split
    · rename_i xs g e
      split
      · rename_i h2
        exact .inl ⟨xs, g, h1, e, h2, rfl⟩
      · exact .inr rfl
    · exact .inr rfl
  · exact .inr rfl
theorem sel_clf (G : CallG X.prog X.w X.K X.mg X.base px k f fd ps F) (hr : Room (2 * k + 4) X.A) (gd : X.A.guards = some []) (tk : Takes X W) (hg : Gl X x) (hm : X.mg x = some (.ref f)) (hk : PySem.W.keepIn X.K (.ref f) = true) (hb : Binds X.K fd ps [])
    (ha : SA X px W (a :: es) fr) (hs : (a :: es).all nst = true) (hn : ∀ e h ds h', fr e h = .ok ds h' → ds.length = ps.length) (hdb : (x == ("__debug__" : Str)) = false) : SEL X px W (.Call (.Name x p) (a :: es) [] pos) (fun e h => (fr e h).bind (fClf F)) := by
  rw [List.all_cons, Bool.and_eq_true] at hs
  refine ⟨fun pins s σ H Q I q => ?_⟩
  obtain ⟨w, e, h, p⟩ := q
  rw [R.bind_assoc] at p
  refine wpAny_Call_Name_kw (ld_glob I hg hm ?_ hdb)
  refine PySem.W.callWith_K (h₀ := X.base) I.ok.mod.kin hk (thn (ha.run pos pins s σ H _ I ⟨w, e, h, p.bind⟩) fun us s1 ⟨vs, H1, I1, r, ds, h1, w1, e1, x1, v1, p1⟩ => ⟨I1.kIn, ?_⟩) (star_ok hs.1) (stars_any hs.2)
  have hl : vs.length = ps.length := by rw [← VTs.len v1]; exact hn _ _ _ _ e1
  have b := hb s1 us I1.kIn (by rw [List.append_nil, ← r.length]; exact hl)
  rw [List.append_nil] at b
  obtain ⟨xs, g, t1, eF, t2, eC⟩ | eC := fClf_ok (F := F) (ds := ds) (h := h1)
  · rw [eC, R.bind_ok] at p1
    refine wpAny_call (codeAny_mono (G X.A X.stack s1 H1 ⟨us, []⟩ us vs Q (WE W σ) hr gd I1.env0 b r hl ⟨⟨[], [], fun b => H1 b ≠ none⟩, [], ds, rfl, ⟨rfl, .nil, fun i b o q => by simp at q, (fun b q => by cases q), fun b q => q⟩, p1.rr.tb, v1.still t1, ?_⟩) fun r s' hq => ?_)
    · rw [eF]
      intro v w' H' y1 y2 y3 y4
      cases y4 with
      | @lst l ys _ n q r =>
        have hn1 : H1 l = none := Classical.byContradiction fun z => n (.inr (.inr (y1.pr l z)))
        have x2 : Ext w1 H1 ⟨w1.hp, w1.ow, fun b => w1.pr b ∨ b = l⟩ H' := ⟨⟨[], by simp, fun _ h => by cases h⟩, rfl, fun _ h => .inl h, fun b h => h.elim .inl fun z => .inr (by rw [z]; exact hn1), fun b o q _ t => y1.keep b o q (by intro z; cases z) (by intro z; cases z) t, y1.tups, y1.dom⟩
        have hl1 : ∀ b, b ∈ w1.hp → H' b = H1 b := fun b hb => by
          obtain ⟨zs, q, qm⟩ := p1.rr.hr.there hb
          rw [q]
          exact y1.keep b _ q (by intro z; cases z) (by intro z; cases z) fun ps e => by rw [e] at qm; cases qm
        have hr1 : HR X.K ⟨w1.hp, w1.ow, fun b => w1.pr b ∨ b = l⟩ h1 H' := p1.rr.hr.more x2 rfl hl1 (fun b hb z => by
          rcases z with z | z
          · exact (p1.rr.hr.sep b hb).2 z
          · obtain ⟨zs, q, _⟩ := p1.rr.hr.there hb
            rw [z, hn1] at q
            cases q) fun b z => by
          rcases z with z | z
          · exact fun e => p1.rr.hr.prd b z (y1.dom b e)
          · rw [z, q]; intro e; cases e
        exact p1.po (.ref l) _ H' x2 hr1 y3 ⟨l, ys, xs, rfl, rfl, x1.dom l hn1, .inr rfl, q, r.still t2⟩
    · cases r with
      | error u => exact passAt tk σ pins H1 s1 u s' I1 hq
      | ok fl =>
        cases fl with
        | ret u => exact I1.after hq
        | next => exact False.elim hq
        | brk => exact False.elim hq
        | cont => exact False.elim hq
  · rw [eC] at p1
    exact p1.po.elim
end
end Tv
end

section
set_option autoImplicit false
set_option maxHeartbeats 1000000
/-! Instances: their fields, their methods, how they are made. -/
namespace Tv
open PySem PySem.Spec PyProof.Rows L2
section
variable {K : PySem.W.Frag} {px : Px} {w : Wd} {e : Ev} {h : Hs} {σ : L2.St} {H : Hp}
theorem ext_updH {a : Addr} {o0 o1 : HO} [Mu o0] (m : a ∈ w.hp) (q : H a = some o0) : Ext w H w (upd H a o1) where
  pre := ⟨[], by simp, fun _ h => by cases h⟩
  ow := rfl
  pr := fun _ h => h
  prf := fun _ h => .inl h
  keep := fun b o z n _ => by rw [upd_ne (fun e => n (by rw [e]; exact m))]; exact z
  tups := fun b xs z => by rw [upd_ne (fun e => by rw [e] at z; exact Mu.no q z rfl)]; exact z
  dom := fun b z => by
    by_cases hb : b = a
    · rw [hb, upd_same] at z; cases z
    · rw [upd_ne hb] at z; exact z
/-- an object of the small heap changes -/
theorem RR.heapG (r : RR K px w e h σ H) {k : Nat} {a : Addr} {o0 o1 : HO} [Mu o0] (ha : w.hp[k]? = some a) (q3 : H a = some o0) {ob : Ob} (hk : k < h.length) (hv : OR K w (upd H a o1) a ob) :
    RR K px w e (h.set k ob) σ (upd H a o1) ∧ Ext w H w (upd H a o1) := by
  have m : a ∈ w.hp := List.mem_iff_getElem?.mpr ⟨k, ha⟩
  refine ⟨⟨⟨?_, r.hr.nd, fun j b o z1 z2 => ?_, r.hr.sep, fun b z y => ?_⟩, ⟨r.er.len, r.er.wl, fun j => ?_, r.er.inj, fun j b z => ⟨fun y => ?_, (r.er.ot j b z).2⟩⟩, tabs_updD q3 r.tb⟩, ext_updH m q3⟩
  · rw [List.length_set]; exact r.hr.len
  · rcases get_set z2 with ⟨b1, b2, _⟩ | ⟨b1, b2⟩
    · subst b1 b2
      rw [ha] at z1
      cases z1
      exact hv
    · have q := r.hr.ob j b o z1 b2
      have hb : b ≠ a := fun z => b1 (by
        rw [z] at z1
        obtain ⟨l1, e1⟩ := List.getElem?_eq_some_iff.mp z1
        obtain ⟨l2, e2⟩ := List.getElem?_eq_some_iff.mp ha
        exact (List.getElem_inj r.hr.nd).mp (e1.trans e2.symm))
      cases o with
      | lst es =>
        obtain ⟨ys, c1, c2, c3⟩ := q
        exact ⟨ys, by rw [upd_ne hb]; exact c1, c2.updD (.inl m) q3, c3⟩
      | ins c fs =>
        obtain ⟨dx, vs, c1, c2⟩ := q
        exact ⟨dx, vs, by rw [upd_ne hb]; exact c1, c2.map fun z => VR.updD (.inl m) q3 z⟩
      | dct kvs =>
        obtain ⟨ks, c1, c2⟩ := q
        exact ⟨ks, by rw [upd_ne hb]; exact c1, c2.map fun z => VR.updD (.inl m) q3 z⟩
  · by_cases hb : b = a
    · rw [hb, upd_same] at y; cases y
    · rw [upd_ne hb] at y; exact r.hr.prd b z y
  · refine SlR.updD (.inl m) q3 (fun b n1 n2 z => n1 (by rw [z]; exact m)) (fun b z y => ?_) (r.er.sl j)
    rw [y] at z
    exact (r.hr.sep a m).1 (List.mem_iff_getElem?.mpr ⟨j, z⟩)
  · by_cases hb : b = a
    · rw [hb, upd_same] at y; cases y
    · rw [upd_ne hb] at y; exact (r.er.ot j b z).1 y
theorem FsR.lookup {fs : List (Str × D)} {vs : List (Str × V)} (r : FsR K w H fs vs) {f : Str} : ∀ {d : D}, fs.lookup f = some d → ∃ v, vs.lookup f = some v ∧ VR K w H d v := by
  unfold FsR at r
  induction r with
  | nil => intro d e; cases e
  | @cons p q fs vs a _ ih =>
    intro d e
    obtain ⟨g, x⟩ := p
    obtain ⟨g', y⟩ := q
    obtain ⟨a1, a2⟩ := a
    dsimp only at a1 a2
    subst a1
    simp only [List.lookup] at e ⊢
    cases hb : (f == g) with
    | true => rw [hb] at e; cases e; exact ⟨y, rfl, a2⟩
    | false => rw [hb] at e; exact ih e
theorem FsR.none {fs : List (Str × D)} {vs : List (Str × V)} (r : FsR K w H fs vs) {f : Str} : fs.lookup f = Option.none → vs.lookup f = Option.none := by
  unfold FsR at r
  induction r with
  | nil => intro _; rfl
  | @cons p q fs vs a _ ih =>
    intro e
    obtain ⟨g, x⟩ := p
    obtain ⟨g', y⟩ := q
    obtain ⟨a1, a2⟩ := a
    dsimp only at a1 a2
    subst a1
    simp only [List.lookup] at e ⊢
    cases hb : (f == g) with
    | true => rw [hb] at e; cases e
    | false => rw [hb] at e; exact ih e
theorem FsR.put {fs : List (Str × D)} {vs : List (Str × V)} (r : FsR K w H fs vs) {f : Str} {d : D} {v : V} (hd : VR K w H d v) : FsR K w H (putD f d fs) (putF f v vs) := by
  unfold FsR at r ⊢
  induction r with
  | nil => exact .cons ⟨rfl, hd⟩ .nil
  | @cons p q fs vs a rr ih =>
    obtain ⟨g, x⟩ := p
    obtain ⟨g', y⟩ := q
    obtain ⟨a1, a2⟩ := a
    dsimp only at a1 a2
    subst a1
    unfold putD putF
    by_cases hg : g = f
    · rw [if_pos hg, if_pos hg]; exact .cons ⟨rfl, hd⟩ rr
    · rw [if_neg hg, if_neg hg]; exact .cons ⟨rfl, a2⟩ ih
theorem FsR.len {fs : List (Str × D)} {vs : List (Str × V)} (r : FsR K w H fs vs) : fs.length = vs.length := by
  unfold FsR at r
  induction r with
  | nil => rfl
  | cons _ _ ih => rw [List.length_cons, List.length_cons, ih]
theorem isIns_of {c : Nat} {d : D} {p : Nat × List (Str × D)} (e1 : isIns c h d = some p) : d = .ref p.1 ∧ h[p.1]? = some (.ins c p.2) := by
  unfold isIns at e1
  split at e1
  · split at e1
    · rename_i e2
      split at e1
      · rename_i hc
        subst hc
        cases e1
        exact ⟨rfl, e2⟩
      · cases e1
    · cases e1
  · cases e1
theorem isLst_of {d : D} {p : Nat × List D} (e1 : isLst h d = some p) : d = .ref p.1 ∧ h[p.1]? = some (.lst p.2) := by
  unfold isLst at e1
  split at e1
  · split at e1
    · rename_i e2
      cases e1
      exact ⟨rfl, e2⟩
    · cases e1
  · cases e1
theorem ref_hp {k : Nat} {v : V} (hv : VR K w H (.ref k) v) : ∃ a, v = .ref a ∧ w.hp[k]? = some a := by
  cases hv with
  | ref ha => exact ⟨_, rfl, ha⟩
theorem RR.inst (r : RR K px w e h σ H) {c : Nat} {d : D} {v : V} {p : Nat × List (Str × D)} (e1 : isIns c h d = some p) (hv : VT K w H d v) :
    ∃ a dx vs, d = .ref p.1 ∧ v = .ref a ∧ H a = some (.ins (clsA K c) dx vs) ∧ FsR K w H p.2 vs ∧
      ∀ f dd vv, VR K w H dd vv → RR K px w e (h.set p.1 (.ins c (putD f dd p.2))) σ (upd H a (.ins (clsA K c) dx (putF f vv vs))) ∧ Ext w H w (upd H a (.ins (clsA K c) dx (putF f vv vs))) := by
  obtain ⟨rfl, e2⟩ := isIns_of e1
  obtain ⟨a, rfl, ha⟩ := ref_hp (ref_at hv)
  obtain ⟨dx, vs, q1, q2⟩ := r.hr.ob _ _ _ ha e2
  have m : a ∈ w.hp := List.mem_iff_getElem?.mpr ⟨_, ha⟩
  exact ⟨a, dx, vs, rfl, rfl, q1, q2, fun f dd vv hd => r.heapG ha q1 (List.getElem?_eq_some_iff.mp e2).1 ⟨dx, _, upd_same, (q2.put hd).map fun z => VR.updD (.inl m) q1 z⟩⟩
theorem RR.list (r : RR K px w e h σ H) {d : D} {v : V} {p : Nat × List D} (e1 : isLst h d = some p) (hv : VT K w H d v) :
    ∃ a xs, d = .ref p.1 ∧ v = .ref a ∧ H a = some (.lst xs) ∧ VRs K w H p.2 xs ∧ p.2.all D.keep = true ∧
      ∀ ds' xs', VRs K w H ds' xs' → ds'.all D.keep = true → RR K px w e (h.set p.1 (.lst ds')) σ (upd H a (.lst xs')) ∧ Ext w H w (upd H a (.lst xs')) := by
  obtain ⟨rfl, e2⟩ := isLst_of e1
  obtain ⟨a, rfl, ha⟩ := ref_hp (ref_at hv)
  obtain ⟨xs, q1, q2, q3⟩ := r.hr.ob _ _ _ ha e2
  have m : a ∈ w.hp := List.mem_iff_getElem?.mpr ⟨_, ha⟩
  exact ⟨a, xs, rfl, rfl, q1, q2, q3, fun ds' xs' hd hk => r.heapG ha q1 (List.getElem?_eq_some_iff.mp e2).1 ⟨xs', upd_same, hd.updD (.inl m) q1, hk⟩⟩
end
/-- the names of a class's fields -/
def clF : Nat → List Str
  | 0 => ["living", "carried", "met", "sums"]
  | 1 => ["kept", "past"]
  | _ => ["grounds", "course", "past"]
/-- what of the text stands behind isinstance, ==, != of a class's instances -/
structure SpcG (K : PySem.W.Frag) (C : Addr) : Prop where
  cl : PySem.W.findIn K (.ref C) "__class__" = some (some (.builtin "object.__class__"))
  gt : PySem.W.specialIn K (.builtin "object.__class__") "__get__" = some (some (.builtin "getset_descriptor.__get__"))
  tk : PySem.W.takesIn K (.builtin "object.__class__") = some true
  ob : PySem.W.mroIn K C (.type "object") = some true
  ne : PySem.W.findIn K (.ref C) "__ne__" = some (some (.builtin "object.__ne__"))
  kit : ∀ T ∈ plTy, PySem.W.kitOne K (.type T) (.ref C) = some false
  sub : ∀ T ∈ plTy, PySem.W.subIn K (.type T) (.ref C) = some false
theorem spcB_ok {K : PySem.W.Frag} {C : Addr} (h : spcB K C = true) : SpcG K C := by
  unfold spcB at h
  simp only [Bool.and_eq_true, decide_eq_true_eq, List.all_eq_true] at h
  obtain ⟨h1, h2, h3, h4, h5, h6⟩ := h
  exact ⟨h1, h2, h3, h4, h5, fun T hT => (h6 T hT).1, fun T hT => (h6 T hT).2⟩
/-- what of the text a class of instances must have -/
structure InsG (K : PySem.W.Frag) (mg : Str → Option Value) (c : Nat) : Prop where
  cls : Cls K (clsA K c)
  noat : ∀ f, (clF c).contains f = true → NoAttr K (clsA K c) f
  mg : mg (clN c) = some (.ref (clsA K c))
  mkr : ∃ f, Mk K (clsA K c) f
  sp : SpcG K (clsA K c)
def KT (K : PySem.W.Frag) (a : Addr) (zs : List Str) : Prop := ∃ (o : Obj) (its : Array Value) (n : Nat), K.lookup a = some o ∧ o.cls = .type "tuple" ∧ o.data = .seq its n ∧ strL its.toList = some zs
theorem strL_reads {h : Heap} : ∀ {vs : List Value} {zs : List Str}, strL vs = some zs → ∃ as, ReadsAll h vs (zs.map .str) as
  | [], zs, e => by cases e; exact ⟨_, .nil⟩
  | v :: r, zs, e => by
    cases v <;> first | (cases e; done) | skip
    rename_i z t
    unfold strL at e
    cases e1 : strL r with
    | none => rw [e1] at e; cases e
    | some ys =>
      rw [e1] at e
      cases e
      obtain ⟨as, q⟩ := strL_reads (h := h) e1
      exact ⟨_, .cons (.str z t) q⟩
section
variable {X : Cx} {px : Px} {W : WX} {a b c d : Expr} {fa fb fc fd : Ev → Hs → R D} {pos pos' p p' apos cpos : Pos} {es : List Expr} {fr : Ev → Hs → R (List D)} {ci : Nat} {f g m x : Str}
theorem se_fld (G : InsG X.K X.mg ci) (hf : (clF ci).contains f = true) (hb : rcv a = true) (ha : SE X px W a fa) : SE X px W (.Attribute a f pos) (fun e h => (fa e h).bind fun x h => R.of (fldO ci f h x) h) := by
  refine PE.of (pe_fld ha (base_ok hb)) fun σ H Q ⟨w, e, h, p⟩ => ⟨w, e, h, p.bind.imp fun x H1 ⟨d, h1, w1, _, x1, v1, p1⟩ => ?_⟩
  obtain ⟨y, ey, p2⟩ := p1.nobad
  unfold fldO at ey
  obtain ⟨q, e1, e2⟩ := Option.bind_eq_some_iff.mp ey
  obtain ⟨a, dx, vs, _, rfl, h1, h2, _⟩ := p2.rr.inst e1 v1
  obtain ⟨v, e3, r⟩ := h2.lookup e2
  exact ⟨a, _, dx, vs, v, rfl, h1, G.cls, G.noat f hf, e3, p2.done (.of (.of r))⟩
theorem ss_sfl (G : InsG X.K X.mg ci) (hf : (clF ci).contains f = true) (ha : SE X px W a fa) (hb : SE X px W b fb) (hs : swapsWith b (some (.Attribute a f pos')) pos.line X.env = pure false) :
    SS X px W (.Assign [.Attribute a f pos'] b pos) (fun e h => (fb e h).bind fun y h => (fa e h).bind fun x h => match sflO ci f y h x with
      | some h' => .ok (.nx e) h'
      | none => .bad) := by
  refine PS.of (ps_fld ha hb hs) fun En σ H ⟨w, e, h, p⟩ => ⟨w, e, h, p.bind.imp fun y H1 ⟨d1, h1, w1, _, x1, v1, p1⟩ => ⟨w1, e, h1, p1.bind.imp fun x H2 ⟨d2, h2, w2, _, x2, v2, p2⟩ => ?_⟩⟩
  cases e1 : sflO ci f d1 h2 d2 with
  | none => rw [e1] at p2; exact p2.po.elim
  | some h' =>
    rw [e1] at p2
    unfold sflO at e1
    obtain ⟨q, e2, e3⟩ := Option.bind_eq_some_iff.mp e1
    split at e3
    · rename_i hl
      cases e3
      obtain ⟨a, dx, vs, _, rfl, z1, z2, z3⟩ := p2.rr.inst e2 v2
      obtain ⟨y1, y2⟩ := z3 f d1 y (VT.keep (v1.ext x2) hl.2)
      exact ⟨a, _, dx, vs, rfl, z1, G.cls, G.noat f hf, by rw [← z2.len]; exact hl.1, p2.done y2.s y1⟩
    · cases e3
/-- o.f = .., among targets -/
def gFld (K : PySem.W.Frag) (ta : TE) (f : Str) : TG := fun y σ H Q => ta σ H fun x H2 => ∃ a C dx fs, x = .ref a ∧ H2 a = some (.ins C dx fs) ∧ Cls K C ∧ NoAttr K C f ∧ fs.length < 1000 ∧ Q σ (upd H2 a (.ins C dx (putF f y fs)))
theorem pg_fld {ta : TE} (ha : PE X a ta) : PG X (.Attribute a f pos) (gFld X.K ta f) := by
  refine ⟨fun pins s σ H v u Q I r h => ?_⟩
  rw [arm_assign_Attribute]
  refine wpAny_bind (wpAny_holding (thn (ha.run pins s σ H _ I h) fun ov s1 ⟨x, H1, I1, r1, a, C, dx, fs, ex, ea, c, n, l, q1⟩ => ?_))
  subst ex
  obtain rfl : ov = Value.ref a := r1
  refine wpAny_bind (wpAny_standAt (wpAny_bind (wpAny_holding (setattr_ok I1 ea c n l r fun s2 I2 => ?_))))
  exact wpAny_release ⟨σ, _, I2, q1⟩
def fUnf (ci : Nat) (fa : Ev → Hs → R D) (f : Str) (fb : Ev → Hs → R D) (g : Str) (fd : Ev → Hs → R D) : Ev → Hs → R Fl := fun e h => (fd e h).bind fun z h => (match z with
    | .tup [p, q] => (fa e h).bind fun x h => (match sflO ci f p h x with
      | some h => (fb e h).bind fun y h => (match sflO ci g q h y with
        | some h' => .ok (.nx e) h'
        | none => .bad)
      | none => .bad)
    | _ => .bad)
theorem sfl_some {h h' : Hs} {d1 d2 : D} (e1 : sflO ci f d1 h d2 = some h') : ∃ q, isIns ci h d2 = some q ∧ q.2.length < 1000 ∧ d1.keep = true ∧ h' = h.set q.1 (.ins ci (putD f d1 q.2)) := by
  unfold sflO at e1
  obtain ⟨q, e2, e3⟩ := Option.bind_eq_some_iff.mp e1
  split at e3
  · rename_i hl
    cases e3
    exact ⟨q, e2, hl.1, hl.2, rfl⟩
  · cases e3
theorem ss_unf {kk : Nat} (hcal : X.calm = true) (G : InsG X.K X.mg ci) (hf : (clF ci).contains f = true) (hg : (clF ci).contains g = true) (ha : SE X px W a fa) (hb : SE X px W b fb) (hd : SE X px W d fd)
    (hs : swapsWithSole [.Tuple [.Attribute a f p, .Attribute b g p'] kk pos'] d pos.line X.env = pure false) (hw : swappedStores [.Tuple [.Attribute a f p, .Attribute b g p'] kk pos'] d X.env = pure none) :
    SS X px W (.Assign [.Tuple [.Attribute a f p, .Attribute b g p'] kk pos'] d pos) (fUnf ci fa f fb g fd) := by
  refine PS.of (ps_asg hd (pg_tup (n := 2) hcal (pgs_cons (pg_fld ha) (pgs_cons (pg_fld hb) pgs_nil))) hs hw) fun En σ H ⟨w, e, h, p⟩ => ?_
  unfold fUnf at p
  refine ⟨w, e, h, p.bind.imp fun v H1 ⟨d, h1, w1, _, x1, v1, p1⟩ => ?_⟩
  obtain ⟨d1, d2, rfl⟩ : ∃ d1 d2, d = .tup [d1, d2] := by
    split at p1
    · exact ⟨_, _, rfl⟩
    · exact p1.po.elim
  obtain ⟨t, u1, u2, rfl, hq, r1, r2⟩ := vr_tup2 (VT.keep v1 rfl)
  refine ⟨t, [u1, u2], rfl, hq, rfl, u1, [u2], rfl, w1, e, h1, PrS.bind p1 |>.imp fun u H2 ⟨dx, h2, w2, _, x2, v2, p2⟩ => ?_⟩
  cases e1 : sflO ci f d1 h2 dx with
  | none => rw [e1] at p2; exact p2.po.elim
  | some h3 =>
    rw [e1] at p2
    dsimp only at p2
    obtain ⟨q, e2, l1, l2, rfl⟩ := sfl_some e1
    obtain ⟨a1, dx1, vs1, _, rfl, z1, z2, z3⟩ := p2.rr.inst e2 v2
    obtain ⟨y1, y2⟩ := z3 f d1 u1 (r1.ext x2)
    refine ⟨a1, _, dx1, vs1, rfl, z1, G.cls, G.noat f hf, by rw [← z2.len]; exact l1, u2, [], rfl, ?_⟩
    have p3 : PrS X.K px W En w2 e (h2.set q.1 (.ins ci (putD f d1 q.2))) σ _ _ := ⟨y1, PoS.later p2.po y2.s⟩
    refine ⟨w2, e, _, p3.bind.imp fun u' H3 ⟨dy, h4, w4, _, x4, v4, p4⟩ => ?_⟩
    cases e5 : sflO ci g d2 h4 dy with
    | none => rw [e5] at p4; exact p4.po.elim
    | some h5 =>
      rw [e5] at p4
      obtain ⟨q', e6, m1, m2, rfl⟩ := sfl_some e5
      obtain ⟨a2, dx2, vs2, _, rfl, t1, t2, t3⟩ := p4.rr.inst e6 v4
      obtain ⟨s1, s2⟩ := t3 g d2 u2 (((r2.ext x2).ext y2).ext x4)
      exact ⟨a2, _, dx2, vs2, rfl, t1, G.cls, G.noat g hg, by rw [← t2.len]; exact m1, rfl, p4.done s2.s s1⟩
/-! ### lists of the heap that are written by name -/
def fApr (fa fb : Ev → Hs → R D) : Ev → Hs → R Fl := fun e h => (fa e h).bind fun x h => (match isLst h x with
    | some _ => (fb e h).bind fun y h => (match aprO y h x with
      | some h' => .ok (.nx e) h'
      | none => .bad)
    | none => .bad)
theorem ss_apr (hr : rcv a = true) (ha : SE X px W a fa) (hb : SE X px W b fb) (hl : (apos.endLine == cpos.line) = true) (hs : nst b = true) :
    SS X px W (.Expr (.Call (.Attribute a "append" apos) [b] [] cpos) pos) (fApr fa fb) := by
  refine PS.of (ps_expr (pe_bm PySem.F.plainAttrs_list PySem.F.slot_list_append PySem.F.type_list_append mt_append ha (pa_cons hb pa_nil (star_ok hs)) (base_ok hr) (by rw [star_ok hs]; rfl) hl (star_ok hs) rfl)) fun En σ H ⟨w, e, h, p⟩ => ?_
  unfold fApr at p
  refine ⟨w, e, h, p.bind.imp fun x H1 ⟨d1, h1, w1, _, x1, v1, p1⟩ => ?_⟩
  cases e1 : isLst h1 d1 with
  | none => rw [e1] at p1; exact p1.po.elim
  | some q =>
    rw [e1] at p1
    dsimp only at p1
    obtain ⟨a1, xs1, ed, rfl, z1, _⟩ := p1.rr.list e1 v1
    subst ed
    refine ⟨own_ty z1, w1, e, h1, p1.bind.imp fun y H2 ⟨d2, h2, w2, _, x2, v2, p2⟩ => ?_⟩
    cases e2 : aprO d2 h2 (.ref q.1) with
    | none => rw [e2] at p2; exact p2.po.elim
    | some h3 =>
      rw [e2] at p2
      unfold aprO at e2
      obtain ⟨q2, e3, e4⟩ := Option.bind_eq_some_iff.mp e2
      split at e4
      · rename_i hk
        cases e4
        obtain ⟨a2, us, _, ev, t1, t2, t3, t4⟩ := p2.rr.list e3 (v1.ext x2)
        cases ev
        obtain ⟨y1, y2⟩ := t4 (q2.2 ++ [d2]) (us ++ [y]) (t2.snoc (VT.keep v2 hk.2)) (keep_snoc t3 hk.2)
        exact ⟨a1, us, y, rfl, rfl, t1, by rw [← t2.length, ← LIM_eq]; exact hk.1, p2.done y2.s y1⟩
      · cases e4
theorem se_popr (hr : rcv a = true) (ha : SE X px W a fa) (hl : (apos.endLine == cpos.line) = true) :
    SE X px W (.Call (.Attribute a "pop" apos) [] [] cpos) (fun e h => (fa e h).bind fun x h => match poprO h x with
      | some p => .ok p.1 p.2
      | none => .bad) := by
  refine PE.of (pe_bm0 PySem.F.plainAttrs_list PySem.F.slot_list_pop PySem.F.type_list_pop mt_pop ha (base_ok hr) hl) fun σ H Q ⟨w, e, h, p⟩ => ⟨w, e, h, p.bind.imp fun x H1 ⟨d1, h1, w1, _, x1, v1, p1⟩ => ?_⟩
  cases e2 : poprO h1 d1 with
  | none => rw [e2] at p1; exact p1.po.elim
  | some q =>
    rw [e2] at p1
    unfold poprO at e2
    obtain ⟨q2, e3, e4⟩ := Option.bind_eq_some_iff.mp e2
    obtain ⟨y, e5, e6⟩ := Option.map_eq_some_iff.mp e4
    subst e6
    obtain ⟨a2, us, rfl, rfl, t1, t2, t3, t4⟩ := p1.rr.list e3 v1
    obtain ⟨y1, y2⟩ := t4 q2.2.dropLast us.dropLast t2.dropLast (keep_dropLast t3)
    rw [List.getLast?_eq_getElem?] at e5
    obtain ⟨v, e7, r7⟩ := t2.get e5
    rw [t2.length] at e7
    exact ⟨own_ty t1, a2, us, v, rfl, rfl, t1, e7, p1.po v _ _ y2 y1.hr y1.tb (.of (.of (r7.ext y2)))⟩
/-- how long a list of the heap is -/
def rLnr (K : PySem.W.Frag) (px : Px) (W : WX) : List V → Hp → VK → Prop := fun vs H Q => ∃ σ w e h d x, vs = [x] ∧ VT K w H d x ∧ Pre K px W σ (relV K) w e h H Q (R.of (lnrO h d) h)
theorem bi_lnr : CallR X (.builtin "len") (rLnr X.K px W) := by
  intro pins s σ H vs us Q I r q
  obtain ⟨σ', w, e, h, d, x, rfl, hv, p0⟩ := q
  obtain ⟨d', ed, p⟩ := p0.nobad
  unfold lnrO at ed
  obtain ⟨q, e1, e2⟩ := Option.map_eq_some_iff.mp ed
  subst e2
  obtain ⟨a, xs, _, rfl, z1, z2, _⟩ := p.rr.list e1 hv
  exact call_len_seq pins s σ H _ us Q I r ⟨a, xs, rfl, .inl (.inl (.inl z1)), by rw [← z2.length]; exact p.done (.int _)⟩
theorem se_lnr (hg : Gl X "len") (hm : X.mg "len" = none) (ha : SE X px W a fa) (hs : nst a = true) : SE X px W (.Call (.Name "len" p) [a] [] pos) (fun e h => (fa e h).bind fun x h => R.of (lnrO h x) h) :=
  PE.of (pe_callB bi_lnr hg hm (by decide +kernel) (pa_cons ha pa_nil (star_ok hs)) (by decide) (by decide) (star_ok hs) rfl) fun σ H Q ⟨w, e, h, p⟩ => ⟨w, e, h, p.bind.imp fun x H1 ⟨d1, h1, w1, _, x1, v1, p1⟩ => ⟨σ, w1, e, h1, d1, x, rfl, v1, p1⟩⟩
/-- a list against the empty one -/
def rIse : R2 := fun x y H Q => ∃ a xs b, x = .ref a ∧ y = .ref b ∧ H a = some (.lst xs) ∧ H b = some (.lst []) ∧ Q (.bl xs.isEmpty) H
theorem op_eqE (hu : X.A.units + 64 < cLine) : OpR X (compareOp .Eq) rIse := by
  intro pins s σ H x y v u Q I rx ry q
  obtain ⟨a, xs, b, rfl, rfl, h1, h2, q⟩ := q
  cases rx
  cases ry
  obtain ⟨its, r, ht, hz⟩ := I.list (.inl (.inl h1) : SqL X.K H a xs)
  obtain ⟨its2, r2, ht2, hz2⟩ := I.list (.inl (.inl h2) : SqL X.K H b [])
  have e2 : its2 = [] := by cases r2; rfl
  subst e2
  have l1 : s.heap.IsList a its.toArray := by
    obtain ⟨o, n, z1, z2, z3, z4⟩ := ht
    exact ⟨o, z1, z2, n, z4⟩
  have l2 : s.heap.IsList b ([] : List Value).toArray := by
    obtain ⟨o, n, z1, z2, z3, z4⟩ := ht2
    exact ⟨o, z1, z2, n, z4⟩
  cases r with
  | nil =>
    have z := PySem.SeqAt.RcAt.lists (A := X.A) (e := fun _ => true) l1 l2 rfl (by omega) (fun j j1 j2 => by simp at j1)
    exact z _ _ _ _ ⟨.bl _, H, I, rfl, q⟩
  | cons r rr =>
    have z := PySem.SeqAt.RcAt.lists_lengths (A := X.A) l1 l2 (by simp) (by omega)
    exact z _ _ _ _ ⟨.bl _, H, I, rfl, q⟩
theorem pre_ise {σ : L2.St} {w1 : Wd} {e : Ev} {h1 : Hs} {H1 : Hp} {Q : VK} {d1 : D} {x : V} (v1 : VT X.K w1 H1 d1 x) (p1 : Pre X.K px W σ (relV X.K) w1 e h1 H1 Q (R.of (iseO h1 d1) h1)) : tLst tNil σ H1 fun y H2 => rIse x y H2 Q := by
  obtain ⟨d, ed, p2⟩ := p1.nobad
  unfold iseO at ed
  obtain ⟨q, e1, e2⟩ := Option.map_eq_some_iff.mp ed
  subst e2
  obtain ⟨a, xs, _, rfl, z1, z2, _⟩ := p2.rr.list e1 v1
  have e3 : q.2.isEmpty = xs.isEmpty := by
    have zl := z2.length
    revert zl
    generalize q.2 = l
    intro zl
    cases l <;> cases xs <;> first | rfl | (simp at zl; done)
  rw [e3] at p2
  exact ⟨by simp, fun b hb => ⟨a, xs, b, rfl, rfl, by rw [upd_ne (ne_of_none z1 hb)]; exact z1, upd_same, p2.new hb _ (.of (.of (.bl _)))⟩⟩
theorem se_ise (z : Cz X) (ha : SE X px W a fa) : SE X px W (.Compare a [.Eq] [.List [] p] pos) (fun e h => (fa e h).bind fun x h => R.of (iseO h x) h) :=
  PE.of (pe_cmpR (op_eqE (by have := z.un; omega)) ha (pe_lst pa_nil) rfl) fun σ H Q ⟨w, e, h, p⟩ => ⟨w, e, h, p.bind.imp fun x H1 ⟨d1, h1, w1, _, x1, v1, p1⟩ => pre_ise v1 p1⟩
theorem tst_o {K : PySem.W.Frag} {σ : L2.St} {w : Wd} {e : Ev} {h : Hs} {H : Hp} {Q : Bool → Hp → Prop} {o : Option D} (hb : ∀ d, o = some d → ∃ k, d = .bl k) (p : Pre K px W σ relB w e h H Q ((R.of o h).bind fun x h => R.of x.tru h)) :
    Pre K px W σ (relV K) w e h H (fun v H' => ∃ k, v = .bl k ∧ Q k H') (R.of o h) := by
  cases o with
  | none => exact p.po.elim
  | some d =>
    obtain ⟨k, rfl⟩ := hb d rfl
    have e1 : some (D.bl k) = (some k).map D.bl := rfl
    rw [e1] at p ⊢
    exact tst_bl p
theorem st_ise (z : Cz X) (ha : SE X px W a fa) : ST X px W (.Compare a [.Eq] [.List [] p] pos) (fun e h => (fa e h).bind fun x h => R.of (iseO h x) h) := by
  refine PT.of (pt_cmpR (op_eqE (by have := z.un; omega)) ha (pe_lst pa_nil) rfl) fun σ H Q ⟨w, e, h, p⟩ => ?_
  have p : Pre X.K px W σ relB w e h H Q ((fa e h).bind fun x h => (R.of (iseO h x) h).bind fun x h => R.of (D.tru x) h) := by
    unfold tst at p
    dsimp only at p
    rw [R.bind_assoc] at p
    exact p
  refine ⟨w, e, h, p.bind.imp fun x H1 ⟨d1, h1, w1, _, x1, v1, p1⟩ => ?_⟩
  refine pre_ise v1 (tst_o (fun d ed => ?_) p1)
  unfold iseO at ed
  obtain ⟨q, e1, e2⟩ := Option.map_eq_some_iff.mp ed
  exact ⟨_, e2.symm⟩
/-! ### a text among a global's own texts -/
def rIng (K : PySem.W.Frag) (ga : Addr) (zs : List Str) : R2 := fun x y H Q => ∃ s, x = .str s ∧ y = .ref ga ∧ KT K ga zs ∧ Q (.bl (zs.any fun z => PyData.eqv (.str z) (.str s))) H
theorem plainAll_str : ∀ zs : List Str, PyData.plainAll (zs.map PyData.str) = true
  | [] => rfl
  | z :: zs => by
    rw [List.map_cons]
    unfold PyData.plainAll
    rw [plainAll_str zs]; rfl
theorem op_ing {ga : Addr} {zs : List Str} (hu : X.A.units + 64 < cLine) : OpR X (compareOp .In) (rIng X.K ga zs) := by
  intro pins s σ H x y v u Q I rx ry q
  obtain ⟨t, rfl, rfl, ⟨o, its, n, k1, k2, k3, k4⟩, q⟩ := q
  obtain ⟨tk, rfl⟩ := rx
  cases ry
  obtain ⟨as, ra⟩ := strL_reads (h := s.heap) k4
  have rt : Reads s.heap (.ref ga) (.tuple (zs.map .str)) as := .tuple (I.kIn ga o k1) k2 k3 ra
  refine SeqAt.in_tuple_data (xs := zs.map .str) (d := .str t) rt (.str t tk) (plainAll_str zs) rfl (by have : PyData.depth (.str t) = 0 := rfl; rw [this]; have := Nat.min_le_right (PyData.depthAll (zs.map .str)) 0; omega) ?_
  rw [List.any_map]
  exact ⟨.bl _, H, I, rfl, q⟩
theorem pre_ing {σ : L2.St} {w1 : Wd} {e : Ev} {h1 : Hs} {H1 : Hp} {Q : VK} {d1 : D} {v : V} {ga : Addr} {zs : List Str} (hk : KT X.K ga zs) (v1 : VT X.K w1 H1 d1 v) (p1 : Pre X.K px W σ (relV X.K) w1 e h1 H1 Q (R.of (ingO zs d1) h1)) : tC (.ref ga) σ H1 fun y H2 => rIng X.K ga zs v y H2 Q := by
  obtain ⟨d, ed, p2⟩ := p1.nobad
  cases d1 <;> first | (cases ed; done) | skip
  cases ed
  obtain rfl := vStr v1
  exact ⟨_, rfl, rfl, hk, p2.done (.bl _)⟩
theorem se_ing {ga : Addr} {zs : List Str} (z : Cz X) (hg : Gl X x) (hm : X.mg x = some (.ref ga)) (hk : KT X.K ga zs) (hd : (x == ("__debug__" : Str)) = false) (ha : SE X px W a fa) :
    SE X px W (.Compare a [.In] [.Name x p] pos) (fun e h => (fa e h).bind fun x h => R.of (ingO zs x) h) :=
  PE.of (pe_cmpR (op_ing (ga := ga) (zs := zs) (by have := z.un; omega)) ha (pe_glob (v := .ref ga) hg hm rfl hd) rfl) fun σ H Q ⟨w, e, h, p⟩ => ⟨w, e, h, p.bind.imp fun x H1 ⟨d1, h1, w1, _, x1, v1, p1⟩ => pre_ing hk v1 p1⟩
theorem st_ing {ga : Addr} {zs : List Str} (z : Cz X) (hg : Gl X x) (hm : X.mg x = some (.ref ga)) (hk : KT X.K ga zs) (hd : (x == ("__debug__" : Str)) = false) (ha : SE X px W a fa) :
    ST X px W (.Compare a [.In] [.Name x p] pos) (fun e h => (fa e h).bind fun x h => R.of (ingO zs x) h) := by
  refine PT.of (pt_cmpR (op_ing (ga := ga) (zs := zs) (by have := z.un; omega)) ha (pe_glob (v := .ref ga) hg hm rfl hd) rfl) fun σ H Q ⟨w, e, h, p⟩ => ?_
  have p : Pre X.K px W σ relB w e h H Q ((fa e h).bind fun x h => (R.of (ingO zs x) h).bind fun x h => R.of (D.tru x) h) := by
    unfold tst at p
    dsimp only at p
    rw [R.bind_assoc] at p
    exact p
  refine ⟨w, e, h, p.bind.imp fun x H1 ⟨d1, h1, w1, _, x1, v1, p1⟩ => ?_⟩
  refine pre_ing hk v1 (tst_o (fun d ed => ?_) p1)
  cases d1 <;> first | (cases ed; done) | (cases ed; exact ⟨_, rfl⟩)
theorem se_up (hr : rcv a = true) (ha : SE X px W a fa) (hl : (apos.endLine == cpos.line) = true) : SE X px W (.Call (.Attribute a "upper" apos) [] [] cpos) (fun e h => (fa e h).bind fun x h => R.of (dUp x) h) := by
  refine PE.of (pe_upper ha (base_ok hr) hl) fun σ H Q ⟨w, e, h, p⟩ => ⟨w, e, h, p.bind.imp fun x H1 ⟨d1, h1, w1, _, x1, v1, p1⟩ => ?_⟩
  obtain ⟨d, ed, p2⟩ := p1.nobad
  by_cases hd : ∃ s, d1 = .str s
  case neg => cases d1 <;> first | (cases ed; done) | exact absurd ⟨_, rfl⟩ hd
  obtain ⟨s, rfl⟩ := hd
  have ed : (if s.length ≤ 5592405 then some (D.str (Txt.upper s)) else none) = some d := ed
  split at ed
  · rename_i hl
    cases ed
    obtain rfl := vStr v1
    exact ⟨⟨_, rfl⟩, _, rfl, rfl, hl, p2.done (.str _)⟩
  · cases ed
end
/-! ### calls of what was checked -/
/-- a new object of the heap's own -/
theorem HR.pushG {K : PySem.W.Frag} {w : Wd} {h : Hs} {H : Hp} {q : Addr} {o1 : HO} {ob : Ob} (r : HR K w h H) (hq : H q = none) (nf : ¬ w.forb q) (hv : OR K { w with hp := w.hp ++ [q] } (upd H q o1) q ob) :
    Ext w H { w with hp := w.hp ++ [q] } (upd H q o1) ∧ HR K { w with hp := w.hp ++ [q] } (h ++ [ob]) (upd H q o1) := by
  have x : Ext w H { w with hp := w.hp ++ [q] } (upd H q o1) := ⟨⟨[q], rfl, fun a m => by rw [List.mem_singleton.mp m]; exact hq⟩, rfl, fun _ h => h, fun _ h => .inl h, (Ext.new0 (w := w) hq).keep, (Ext.new0 (w := w) hq).tups, (Ext.new0 (w := w) (o := o1) hq).dom⟩
  refine ⟨x, ⟨?_, ?_, fun i a o h1 h2 => ?_, fun a ha => ?_, fun a z y => ?_⟩⟩
  · show (w.hp ++ [q]).length = _
    rw [List.length_append, List.length_append, r.len]; rfl
  · show (w.hp ++ [q]).Nodup
    rw [List.nodup_append]
    exact ⟨r.nd, by simp, fun a ha b hb => by rw [List.mem_singleton.mp hb]; exact fun e => nf (.inl (e ▸ ha))⟩
  · by_cases hi : i < h.length
    · have h1 : (w.hp ++ [q])[i]? = some a := h1
      rw [List.getElem?_append_left (by rw [r.len]; exact hi)] at h1
      rw [List.getElem?_append_left hi] at h2
      have z := r.ob i a o h1 h2
      cases o with
      | lst es =>
        obtain ⟨ys, z1, z2, z3⟩ := z
        exact ⟨ys, by rw [upd_ne (ne_of_none z1 hq)]; exact z1, z2.ext x, z3⟩
      | ins c fs =>
        obtain ⟨dx, vs, z1, z2⟩ := z
        exact ⟨dx, vs, by rw [upd_ne (ne_of_none z1 hq)]; exact z1, z2.map fun y => y.ext x⟩
      | dct kvs =>
        obtain ⟨ks, z1, z2⟩ := z
        exact ⟨ks, by rw [upd_ne (ne_of_none z1 hq)]; exact z1, z2.map fun y => y.ext x⟩
    · have e : i = h.length := by
        have := (List.getElem?_eq_some_iff.mp h2).1
        rw [List.length_append] at this
        simp only [List.length_singleton] at this
        omega
      subst e
      have h1 : (w.hp ++ [q])[h.length]? = some a := h1
      rw [← r.len, List.getElem?_concat_length] at h1
      rw [List.getElem?_concat_length] at h2
      cases h1
      cases h2
      exact hv
  · rcases List.mem_append.mp ha with z | z
    · exact r.sep a z
    · rw [List.mem_singleton.mp z]
      exact ⟨fun y => nf (.inr (.inl y)), fun y => nf (.inr (.inr y))⟩
  · by_cases ha : a = q
    · rw [ha, upd_same] at y; cases y
    · rw [upd_ne ha] at y; exact r.prd a z y
section
variable {X : Cx} {px : Px} {W : WX} {a : Expr} {fa : Ev → Hs → R D} {pos p apos : Pos} {es : List Expr} {fr : Ev → Hs → R (List D)} {ci k : Nat} {m x : Str} {fA : Addr} {fd : FuncData} {ps : List Str} {F : List D → Hs → R D}
theorem run_cg (G : CallG X.prog X.w X.K X.mg X.base px k fA fd ps F) (hr : Room (2 * k + 4) X.A) (gd : X.A.guards = some []) (tk : Takes X W) (hb : Binds X.K fd ps [])
    {pins : List (Addr × Obj)} {s1 : Shared} {σ : L2.St} {H1 : Hp} {Q : VK} {us : List Value} {vs : List V} {ds : List D} {w1 : Wd} {e : Ev} {h1 : Hs} (I1 : Inv X pins σ H1 s1) (r : Vals vs us) (v1 : VTs X.K w1 H1 ds vs) (hl : ds.length = ps.length)
    (p1 : Pre X.K px W σ (relV X.K) w1 e h1 H1 Q (F ds h1)) : wpAny (model X.prog X.w) X.A (call (.ref fA) us) (EP X pins σ Q) X.xe s1 := by
  have hl : vs.length = ps.length := by rw [← VTs.len v1]; exact hl
  have b := hb s1 us I1.kIn (by rw [List.append_nil, ← r.length]; exact hl)
  rw [List.append_nil] at b
  refine wpAny_call (codeAny_mono (G X.A X.stack s1 H1 ⟨us, []⟩ us vs Q (WE W σ) hr gd I1.env0 b r hl ⟨w1.call, h1, ds, rfl, p1.rr.call, p1.rr.tb, v1.hands, ?_⟩) fun r s' hq => ?_)
  · have q := p1.po
    cases e2 : F ds h1 with
    | bad => rw [e2] at q; exact q
    | exc y h' => rw [e2] at q; exact fun cls dd w' H' y1 y2 y3 y4 => q cls dd _ H' (Ext.back y1) (HR.back y1 y2) y3 y4
    | ok d h' =>
      rw [e2] at q
      intro v w' H' y1 y2 y3 y4
      have e3 : (w1.back w').hp = w'.hp := rfl
      exact q v _ H' (Ext.back y1) (HR.back y1 y2) y3 (.of (.of (VR.weak e3 (fun a z => Wd.back_forb y1 z) y4)))
  · cases r with
    | error u => exact passAt tk σ pins H1 s1 u s' I1 hq
    | ok fl =>
      cases fl with
      | ret u => exact I1.after hq
      | next => exact False.elim hq
      | brk => exact False.elim hq
      | cont => exact False.elim hq
theorem se_call0 (G : CallG X.prog X.w X.K X.mg X.base px k fA fd ps F) (hr : Room (2 * k + 4) X.A) (gd : X.A.guards = some []) (tk : Takes X W) (hg : Gl X x) (hm : X.mg x = some (.ref fA)) (hk : PySem.W.keepIn X.K (.ref fA) = true) (hb : Binds X.K fd ps []) (hl : ps.length = 0)
    (hdb : (x == ("__debug__" : Str)) = false) : SE X px W (.Call (.Name x p) [] [] pos) (fun e h => F [] h) := by
  refine ⟨fun pins s σ H Q I q => ?_⟩
  obtain ⟨w, e, h, p⟩ := q
  refine wpAny_Call_Name_kw (ld_glob I hg hm ?_ hdb)
  exact PySem.W.callWith_K0 I.kIn hk (run_cg (us := []) (vs := []) G hr gd tk hb I .nil .nil hl.symm p)
theorem make_guards {A : Around} {C : Addr} {us : List Value} {kw : List (Str × Value)} (gd : A.guards = some []) : (A.under (.builtin "type.__call__" ⟨.ref C :: us, kw⟩)).guards = some [] := by
  first | exact gd | (simpa [Around.under, Code.weight, Code.isCreation, Code.isGuard, Code.isCaller, Code.frames, Code.isFrame, guardIds] using gd)
theorem se_new (G : InsG X.K X.mg ci) (M : Mk X.K (clsA X.K ci) fA) (C : CallG X.prog X.w X.K X.mg X.base px k fA fd ps F) (hr : Room (2 * k + 5) X.A) (gd : X.A.guards = some []) (tk : Takes X W) (hg : Gl X x) (hm : X.mg x = some (.ref (clsA X.K ci)))
    (hb : Binds X.K fd ps []) (hl : ps.length = 1) (hdb : (x == ("__debug__" : Str)) = false) :
    SE X px W (.Call (.Name x p) [] [] pos) (fun e h => (F [.ref h.length] (h ++ [.ins ci []])).bind fun d h' => (R.of (isNonO d) h').bind fun _ h' => .ok (.ref h.length) h') := by
  refine ⟨fun pins s σ H Q I q => ?_⟩
  obtain ⟨w, e, h, p⟩ := q
  refine wpAny_Call_Name_kw (ld_glob I hg hm ?_ hdb)
  refine PySem.W.callWith_K0 I.kIn M.kp ?_
  have n1 : H (s.heap.objs.size + 1) = none := I.hok.fresh (Nat.le_succ _)
  have n2 : H s.heap.objs.size = none := I.hok.fresh (Nat.le_refl _)
  have ne : s.heap.objs.size + 1 ≠ s.heap.objs.size := Nat.ne_of_gt (Nat.lt_succ_self _)
  have I2 := Inv.made (C := clsA X.K ci) I
  have r1 := p.rr.new (o := .own (s.heap.objs.size + 1)) n2
  have n3 : upd H s.heap.objs.size (.own (s.heap.objs.size + 1)) (s.heap.objs.size + 1) = none := by rw [upd_ne ne]; exact n1
  obtain ⟨x2, hr2⟩ := r1.hr.pushG (o1 := .ins (clsA X.K ci) s.heap.objs.size []) (ob := .ins ci []) n3 (r1.free n3) ⟨_, [], upd_same, .nil⟩
  have r2 := r1.ext x2 hr2 (r1.new n3).tb
  have x3 := (Ext.new (o := .own (s.heap.objs.size + 1)) n2 p.rr.hr).trans x2
  have hv : VT X.K { w with hp := w.hp ++ [s.heap.objs.size + 1] } (upd (upd H s.heap.objs.size (.own (s.heap.objs.size + 1))) (s.heap.objs.size + 1) (.ins (clsA X.K ci) s.heap.objs.size [])) (.ref h.length) (.ref (s.heap.objs.size + 1)) := .of (.of (.ref (by
    show (w.hp ++ [s.heap.objs.size + 1])[h.length]? = _
    rw [← p.rr.hr.len, List.getElem?_concat_length])))
  refine wpAny_call (make_map (f := fA) I.kIn M.makes M.init (beq_iff_eq.mp M.fn) (codeAny_mono (C _ X.stack _ _ ⟨[Value.ref (s.heap.objs.size + 1)], []⟩ [Value.ref (s.heap.objs.size + 1)] [V.ref (s.heap.objs.size + 1)] (fun v H2 => v = .non ∧ Q (.ref (s.heap.objs.size + 1)) H2) (WE W σ) (hr.make _ [] [])
    (make_guards gd) (I2.env0.make _ [] []) (by
      have b := hb _ [Value.ref (s.heap.objs.size + 1)] I2.kIn (by rw [List.append_nil, hl]; rfl)
      rw [List.append_nil] at b
      exact b) (.cons rfl .nil) (by rw [hl]; rfl) ⟨_, _, [.ref h.length], rfl, r2.call, r2.tb, .cons hv.hand .nil, ?_⟩) fun r s' hq => ?_))
  · have q : Post X.K px W σ (relV X.K) w H Q ((F [.ref h.length] (h ++ [.ins ci []])).bind fun d h' => (R.of (isNonO d) h').bind fun _ h' => .ok (.ref h.length) h') := p.po
    cases e2 : F [.ref h.length] (h ++ [.ins ci []]) with
    | bad => rw [e2] at q; exact q
    | exc y h' => rw [e2] at q; exact fun cls dd w' H' y1 y2 y3 y4 => q cls dd _ H' (x3.trans (Ext.back y1)) (HR.back y1 y2) y3 y4
    | ok d h' =>
      rw [e2, R.bind_ok] at q
      cases d <;> first | exact q.elim | skip
      intro v w' H' y1 y2 y3 y4
      cases y4
      refine ⟨rfl, q (.ref (s.heap.objs.size + 1)) _ H' (x3.trans (Ext.back y1)) (HR.back y1 y2) y3 (.of (.of (.ref ?_)))⟩
      obtain ⟨n, en, _⟩ := y1.pre
      show w'.hp[h.length]? = _
      rw [en]
      show ((w.hp ++ [s.heap.objs.size + 1]) ++ n)[h.length]? = _
      rw [List.getElem?_append_left (by rw [List.length_append, p.rr.hr.len]; simp), ← p.rr.hr.len, List.getElem?_concat_length]
  · cases r with
    | error u => exact passAt tk σ pins _ _ u s' I2 hq
    | ok fl =>
      cases fl with
      | ret u =>
        obtain ⟨v, H', I3, rv, ev, q3⟩ := I2.after hq
        subst ev
        exact ⟨rv, ⟨V.ref (s.heap.objs.size + 1), H', I3, rfl, q3⟩⟩
      | next => exact False.elim hq
      | brk => exact False.elim hq
      | cont => exact False.elim hq
theorem ht_of (hb : rcv a = true) (hs : es.all nst = true) (hl : es.length < 30) (hline : (apos.endLine == pos.line) = true) : eval (.Call (.Attribute a m apos) es [] pos) X.env = (do
      let ov ← eval a X.env
      standAt apos.atName
      let (f, first) ← holding [ov] (getMethod ov m (plainOf a X.env))
      callWith pos f first (backTo pos (starEach es X.env)) (backToKw pos (keywordEach [] X.env))) := by
  have hf : methodCallForm (es.length + ([] : List Keyword).length) (backTo pos (starEach es X.env)) (backToKw pos (keywordEach [] X.env)) = true := by
    unfold methodCallForm
    rw [stars_all hs]
    show (true && true && decide (es.length + 0 + 0 < 30)) = true
    simpa using hl
  rw [arm_eval_Call, base_ok hb]
  simp only [mcall_line hf hline]
def fMc (ci : Nat) (m : Str) (fa : Ev → Hs → R D) (fr : Ev → Hs → R (List D)) (F : List D → Hs → R D) : Ev → Hs → R D := fun e h => (fa e h).bind fun x h => (match isIns ci h x with
    | some p => if p.2.lookup m = none then (fr e h).bind fun ds h => F (x :: ds) h else .bad
    | none => .bad)
theorem se_mc0 (G : InsG X.K X.mg ci) (hm : Meth X.K (clsA X.K ci) m fA) (C : CallG X.prog X.w X.K X.mg X.base px k fA fd ps F) (hr : Room (2 * k + 4) X.A) (gd : X.A.guards = some []) (tk : Takes X W) (hb : Binds X.K fd ps []) (hc : rcv a = true)
    (ha : SE X px W a fa) (hline : (apos.endLine == pos.line) = true) (hl : ps.length = 1) : SE X px W (.Call (.Attribute a m apos) [] [] pos) (fMc ci m fa (fun _ h => .ok [] h) F) := by
  refine ⟨fun pins s σ H Q I q => ?_⟩
  obtain ⟨w, e, h, p⟩ := q
  unfold fMc at p
  refine PySem.W.methodCall_KW (pl := plainOf a X.env) (thn (ha.run pins s σ H _ I ⟨w, e, h, p.bind⟩) fun u s1 ⟨x, H1, I1, rx, d, h1, w1, e1, x1, v1, p1⟩ => ?_) (ht_of hc rfl (by decide) hline)
  cases e2 : isIns ci h1 d with
  | none => rw [e2] at p1; exact p1.po.elim
  | some q =>
    rw [e2] at p1
    dsimp only at p1
    split at p1
    · rename_i hlk
      obtain ⟨a', dx, vs, _, rfl, z1, z2, _⟩ := p1.rr.inst e2 v1
      obtain rfl : u = Value.ref a' := rx
      refine getmeth_ok I1 z1 G.cls hm (z2.none hlk) ?_
      exact PySem.W.callWith_K0 (first := [.ref a']) I1.kIn hm.kp (run_cg (us := [.ref a']) (vs := [.ref a']) C hr gd tk hb I1 (.cons rfl .nil) (.cons v1 .nil) (by rw [hl]; rfl) p1)
    · exact p1.po.elim
theorem se_mc {b : Expr} (G : InsG X.K X.mg ci) (hm : Meth X.K (clsA X.K ci) m fA) (C : CallG X.prog X.w X.K X.mg X.base px k fA fd ps F) (hr : Room (2 * k + 4) X.A) (gd : X.A.guards = some []) (tk : Takes X W) (hb : Binds X.K fd ps []) (hc : rcv a = true)
    (ha : SE X px W a fa) (hes : SA X px W (b :: es) fr) (hs : (b :: es).all nst = true) (hl : (b :: es).length < 30) (hline : (apos.endLine == pos.line) = true) (hn : ∀ e h ds h', fr e h = .ok ds h' → ds.length + 1 = ps.length) :
    SE X px W (.Call (.Attribute a m apos) (b :: es) [] pos) (fMc ci m fa fr F) := by
  refine ⟨fun pins s σ H Q I q => ?_⟩
  obtain ⟨w, e, h, p⟩ := q
  unfold fMc at p
  refine PySem.W.methodCall_KW (pl := plainOf a X.env) (thn (ha.run pins s σ H _ I ⟨w, e, h, p.bind⟩) fun u s1 ⟨x, H1, I1, rx, d, h1, w1, e1, x1, v1, p1⟩ => ?_) (ht_of hc hs hl hline)
  cases e2 : isIns ci h1 d with
  | none => rw [e2] at p1; exact p1.po.elim
  | some q =>
    rw [e2] at p1
    dsimp only at p1
    split at p1
    · rename_i hlk
      obtain ⟨a', dx, vs, _, rfl, z1, z2, _⟩ := p1.rr.inst e2 v1
      obtain rfl : u = Value.ref a' := rx
      refine getmeth_ok I1 z1 G.cls hm (z2.none hlk) ?_
      rw [List.all_cons, Bool.and_eq_true] at hs
      refine PySem.W.callWith_K (first := [.ref a']) (h₀ := X.base) I.ok.mod.kin hm.kp (thn (hes.run pos pins s1 σ H1 _ I1 ⟨w1, e, h1, p1.bind⟩) fun us s2 ⟨vs, H2, I2, r, ds, h2, w2, e3, x2, v2, p2⟩ => ⟨I2.kIn, ?_⟩) (star_ok hs.1) (stars_any hs.2)
      exact run_cg (us := .ref a' :: us) (vs := .ref a' :: vs) C hr gd tk hb I2 (.cons rfl r) (.cons (v1.ext x2) v2) (by rw [List.length_cons]; exact hn _ _ _ _ e3) p2
    · exact p1.po.elim
end
end Tv
end

section
set_option autoImplicit false
set_option maxHeartbeats 2000000
/-! A course that breaks: the error with its year, made and raised. -/
namespace Tv
open PySem PySem.Spec PyProof.Rows L2
/-- the class of the error, as the world has it -/
structure BrkC (K : PySem.W.Frag) (mg : Str → Option Value) (C : Addr) : Prop where
  ox : OexC K C
  no : PySem.W.findIn K (.ref C) "at" = some none
  xf : XfC K C
  c0 : ∃ C0 : Addr, mg "TurnError" = some (.ref C0) ∧ PySem.W.specialIn K (.ref C0) "__getattribute__" = some (some (.builtin "type.__getattribute__")) ∧ PySem.W.typeIn K (.ref C0) = some (.type "type") ∧ PySem.W.readsIn K C0 (.type "type") = true ∧ PySem.W.findCls K (.ref C0) (.type "type") "__init__" = some (.val (.builtin "ValueError.__init__"))
abbrev bSelf : Str := "self"
abbrev bAt : Str := "at"
def brkB (b : List Stmt) : Bool := match b with
  | [.Expr (.Call (.Attribute (.Name t _) i ap) [.Name s _, .Constant (.str _) _ _] [] cp) _, .Assign [.Attribute (.Name s2 _) f _] (.Name a _) _] =>
    decide (t = "TurnError") && decide (i = "__init__") && decide (s = bSelf) && decide (s2 = bSelf) && decide (f = bAt) && decide (a = bAt) && (ap.endLine == cp.line)
  | _ => false
def brkSB (sc : Scope) : Bool := decide (sc.names.lookup bSelf = some NameKind.local) && decide (sc.names.lookup bAt = some NameKind.local) && decide (sc.names.lookup ("TurnError" : Str) = some NameKind.globalImplicit)
/-- what its making promises -/
def spBr (C : Addr) : Sp := fun vs H Q _ => ∃ (a : Addr) (y : V), vs = [.ref a, y] ∧ H a = some (exo a C none) ∧ ∀ dx, H dx = none → dx ≠ a → Q .non (upd (upd H dx (exd dx [(bAt, y)])) a (exo a C (some dx)))
/-- the base's own making, by the name of an own class -/
theorem pe_tinit {X : Cx} {x : Str} {C0 : Addr} {e : Expr} {es : List Expr} {ta : TA} {p1 p2 pos : Pos} (hg : Gl X x) (hm : X.mg x = some (.ref C0)) (hdb : (x == ("__debug__" : Str)) = false) (sg : PySem.W.specialIn X.K (.ref C0) "__getattribute__" = some (some (.builtin "type.__getattribute__"))) (tm : PySem.W.typeIn X.K (.ref C0) = some (.type "type")) (rd : PySem.W.readsIn X.K C0 (.type "type") = true)
    (vV : PySem.W.findCls X.K (.ref C0) (.type "type") "__init__" = some (.val (.builtin "ValueError.__init__"))) (ha : PA X (e :: es) ta)
    (hl : (p2.endLine == pos.line) = true) (hfew : methodCallForm (e :: es).length (backTo pos (starEach (e :: es) X.env)) (backToKw pos (keywordEach [] X.env)) = true)
    (he : starEach (e :: es) X.env = (false, eval e X.env) :: starEach es X.env := by rfl) (hpl : (backTo pos (starEach es X.env)).any (·.1) = false := by rfl) :
    PE X (.Call (.Attribute (.Name x p1) "__init__" p2) (e :: es) [] pos) (tVeI X.K ta) := by
  refine ⟨fun pins s σ H Q I h => ?_⟩
  have hc : eval (.Call (.Attribute (.Name x p1) "__init__" p2) (e :: es) [] pos) X.env = (do
      let ov ← eval (.Name x p1) X.env
      standAt p2.atName
      let (f, first) ← holding [ov] (getMethod ov "__init__" (plainOf (.Name x p1) X.env))
      callWith pos f first (backTo pos (starEach (e :: es) X.env)) (backToKw pos (keywordEach [] X.env))) := by
    show (do
      let ov ← eval (.Name x p1) X.env
      standAt p2.atName
      methodCall (.Name x p1) "__init__" p2 pos X.env ov (e :: es).length (backTo pos (starEach (e :: es) X.env)) (backToKw pos (keywordEach [] X.env))) = _
    simp only [mcall_line hfew hl]
  refine PySem.W.methodCall_KW (ld_glob I hg hm ?_ hdb) hc
  obtain ⟨m, fr⟩ := I.fr
  refine PySem.W.method_of_cls fr I.ok.mod.kin sg (PySem.W.cls_val fr I.ok.mod.kin tm rd vV (by decide +kernel) ?_)
  show wpAny _ _ (callWith pos (Value.builtin "ValueError.__init__") [] (backTo pos (starEach (e :: es) X.env)) []) _ _ _
  refine PyProof.Rows.callWith_method1 (thn (ha.run pos pins _ σ H _ (I.tok _) h) fun us s1 ⟨vs, H1, I1, r1, a, C, ws, ev, hl, T, ea, q⟩ => ?_) he hpl
  subst ev
  cases r1 with
  | @cons _ u0 _ ur ra rw' =>
    obtain rfl : u0 = Value.ref a := ra
    have hlen : ur.length ≤ sizeLine := by
      rw [← Paired.length rw', sizeLine_eq]
      omega
    exact oinit_ok T I1 ea hlen fun s' J => ⟨.non, H1, J, rfl, q⟩
theorem brk_ok {P : Program} {w : World} {K : PySem.W.Frag} {mg : Str → Option Value} {base : Heap} {C f : Addr} {fd : FuncData} {qual : Str} {params : Arguments} {body : List Stmt} {scope : Scope} (F : FunD K "__init__" qual params body scope [] [] f fd) (S : FnScope [bSelf, bAt] [bSelf, bAt] scope) (hb : brkB body = true) (hs : brkSB scope = true) (B : BrkC K mg C) :
    FnOk P w K mg base CX0 1 f fd [bSelf, bAt] (spBr C) := by
  refine F.ok (k := 0) S (fun vs H Q E ⟨_, _, h, _⟩ => by rw [h]; rfl) fun cdv A outer s H vs Q E hr ⟨a, y, ev, ha, go⟩ => ?_
  subst ev
  unfold brkSB at hs
  simp only [Bool.and_eq_true, decide_eq_true_eq] at hs
  obtain ⟨⟨s1, s2⟩, s3⟩ := hs
  obtain ⟨C0, m0, sg, tm, rd, vV⟩ := B.c0
  unfold brkB at hb
  split at hb
  · simp only [Bool.and_eq_true, decide_eq_true_eq] at hb
    obtain ⟨⟨⟨⟨⟨⟨rfl, rfl⟩, rfl⟩, rfl⟩, rfl⟩, rfl⟩, hl⟩ := hb
    have v0 : ∀ {p : Pos}, PE (cxOf CX0 P w K mg base [bSelf, bAt] qual scope f cdv A outer s H E) (.Name bSelf p) (tVar 0) := pe_var rfl (.inl s1)
    have v1 : ∀ {p : Pos}, PE (cxOf CX0 P w K mg base [bSelf, bAt] qual scope f cdv A outer s H E) (.Name bAt p) (tVar 1) := pe_var rfl (.inl s2)
    refine ⟨_, pss_cons (ps_expr (pe_tinit s3 m0 (by decide) sg tm rd vV (pa_cons v0 (pa_cons pe_str pa_nil)) hl rfl)) (pss_one (ps_ost v0 v1 rfl)), ?_⟩
    exact ⟨.ref a, rfl, a, C, [.str _], rfl, by simp, B.ox, ha, y, rfl, .ref a, rfl, a, C, rfl, B.ox, B.no, .inl ⟨ha, fun dx h1 h2 => go dx h1 h2⟩⟩
  · cases hb
section
variable {X : Cx} {px : Px} {W : WX} {a : Expr} {fa : Ev → Hs → R D}
/-- raised with a year -/
theorem ss_raiB {cn : Str} {C fI : Addr} {fd : FuncData} {p pos pos2 : Pos} (hc : X.calm = true) (tk : Takes X W) (B : BrkC X.K X.mg C) (iC : PySem.W.findIn X.K (.ref C) "__init__" = some (some (.ref fI))) (tI : PySem.W.typeIn X.K (.ref fI) = some (.type "function"))
    (F1 : FnOk X.prog X.w X.K X.mg X.base CX0 1 fI fd [bSelf, bAt] (spBr C)) (hr : Room 2 X.A) (hb : Binds X.K fd [bSelf, bAt] []) (hg : Gl X cn) (hm : X.mg cn = some (.ref C)) (hdb : (cn == ("__debug__" : Str)) = false) (hC : px.ex 16 = C) (ha : SE X px W a fa) (hs : nst a = true) :
    SS X px W (.Raise (some (.Call (.Name cn p) [a] [] pos2)) none pos) (fun e h => (fa e h).bind fun x h => (match x with
      | .int i => .exc (.exc 16 (.int i)) h
      | _ => .bad)) := by
  refine PS.of (ps_raise hc tk (pmk_oex B.ox iC tI F1 hr hb .nil pass0 hg hm (pa_cons ha pa_nil (star_ok hs)) hdb (star_ok hs) (by rfl))) fun En σ H ⟨w, e, h, p⟩ => ?_
  refine ⟨w, e, h, p.bind.imp fun v H1 ⟨d, h1, w1, _, x1, v1, p1⟩ => ⟨by simp, fun b hb => ?_⟩⟩
  obtain ⟨i, rfl⟩ : ∃ i, d = .int i := by cases d <;> first | exact ⟨_, rfl⟩ | exact p1.po.elim
  obtain rfl := vInt v1
  refine ⟨b, .int i, rfl, upd_same, fun dx h2 ne => ⟨rfl, dx, [(bAt, .int i)], by exact upd_same, (upd_ne ne).trans upd_same, ?_, ?_⟩⟩
  · rw [upd_ne ne] at h2; exact h2
  · have hd : H1 dx = none := by rw [upd_ne ne] at h2; exact h2
    have eH : upd (del (upd (upd (upd H1 b (exo b C none)) dx (exd dx [(bAt, V.int i)])) b (exo b C (some dx))) b) dx (.xd [(bAt, V.int i)]) = upd H1 dx (.xd [(bAt, V.int i)]) := by
      funext z
      by_cases h3 : z = dx
      · rw [h3, upd_same, upd_same]
      · rw [upd_ne h3, upd_ne h3]
        by_cases h4 : z = b
        · rw [h4, del_same, hb]
        · rw [del_ne h4, upd_ne h4, upd_ne h3, upd_ne h4]
    rw [eH]
    exact p1.po (.ref C) (some dx) w1 σ _ (Ext.new hd p1.rr.hr).s (p1.rr.new hd).hr (p1.rr.new hd).tb ⟨by rw [hC], fun z => absurd rfl z, fun _ => ⟨dx, i, rfl, rfl, upd_same⟩⟩
end
end Tv
end

section
set_option autoImplicit false
set_option maxHeartbeats 1000000
/-! Dicts of one's own: made, read, written. -/
namespace Tv
open PySem PySem.Spec PyProof.Rows L2
theorem eqvAll_is : ∀ {xs ys : List Int}, PyData.eqvAll (D.pys (xs.map .int)) (D.pys (ys.map .int)) = decide (xs = ys)
  | [], [] => rfl
  | [], _ :: _ => rfl
  | _ :: _, [] => rfl
  | x :: xs, y :: ys => by
    rw [List.map_cons, List.map_cons, D.pys, D.pys, PyData.eqvAll, eqvAll_is, D.py, D.py, PyData.eqv]
    by_cases h : x = y
    · subst h; simp
    · simp [h]
theorem ints_of : ∀ {xs : List D}, (xs.all fun x => match x with
    | .int _ => true
    | _ => false) = true → ∃ is : List Int, xs = is.map .int
  | [], _ => ⟨[], rfl⟩
  | x :: xs, h => by
    rw [List.all_cons, Bool.and_eq_true] at h
    obtain ⟨is, e⟩ := ints_of h.2
    cases x with
    | int i => exact ⟨i :: is, by rw [e]; rfl⟩
    | _ => cases h.1
section
variable {K : PySem.W.Frag} {w : Wd} {H : Hp}
theorem vrs_ints : ∀ {is : List Int} {xs : List V}, VRs K w H (is.map .int) xs → xs = (is.map (Sum.inl : Int → Key)).map kV
  | [], _, .nil => rfl
  | i :: is, _, .cons a r => by
    cases a
    rw [vrs_ints r]; rfl
theorem inl_eq {i j : Int} : ((Sum.inl i : Key) = Sum.inl j) ↔ i = j := ⟨fun h => by cases h; rfl, fun h => by rw [h]⟩
theorem inls_eq : ∀ {xs ys : List Int}, (xs.map (Sum.inl : Int → Key) = ys.map Sum.inl) ↔ xs = ys
  | [], [] => by simp
  | [], _ :: _ => by simp
  | _ :: _, [] => by simp
  | x :: xs, y :: ys => by
    rw [List.map_cons, List.map_cons, List.cons.injEq, List.cons.injEq, inl_eq, inls_eq]
/-- the same key -/
theorem key1 {p : D × D} {q : Key × V} (h : KR1 K w H p q) (j : Int) : kEq p.1 (.int j) = decide (q.1 = Sum.inl j) := by
  obtain ⟨i, h1, h2, _⟩ := h
  rw [h1, h2]
  show (i == j) = _
  by_cases e : i = j
  · subst e; simp
  · rw [beq_eq_false_iff_ne.mpr e, decide_eq_false (fun z => e (inl_eq.mp z))]
theorem key2 {p : D × D} {q : List Key × V} (h : KR2 K w H p q) (js : List Int) : kEq p.1 (.tup (js.map .int)) = decide (q.1 = js.map Sum.inl) := by
  obtain ⟨is, h1, h2, _⟩ := h
  rw [h1, h2]
  show PyData.eqvAll (D.pys (is.map .int)) (D.pys (js.map .int)) = _
  rw [eqvAll_is]
  by_cases e : is = js
  · subst e; simp
  · rw [decide_eq_false e, decide_eq_false (fun z => e (inls_eq.mp z))]
section
variable {κ : Type} [DecidableEq κ] {R : D × D → κ × V → Prop} {k : D} {k' : κ}
theorem get_rel (he : ∀ p q, R p q → kEq p.1 k = decide (q.1 = k')) (hv : ∀ p q, R p q → VR K w H p.2 q.2) : ∀ {kvs : List (D × D)} {ks : List (κ × V)}, Paired R kvs ks → ∀ {d : D}, kGet kvs k = some d → ∃ v, valV ks k' = some v ∧ VR K w H d v := by
  intro kvs ks h
  induction h with
  | nil => intro d e; cases e
  | @cons p q ps qs a r ih =>
    intro d e
    have z := he p q a
    unfold kGet at e
    rw [List.find?_cons, z] at e
    by_cases x : q.1 = k'
    · rw [decide_eq_true x] at e
      rw [valV_pos x]
      cases e
      exact ⟨_, rfl, hv p q a⟩
    · rw [decide_eq_false x] at e
      rw [valV_neg x]
      exact ih e
theorem any_rel (he : ∀ p q, R p q → kEq p.1 k = decide (q.1 = k')) : ∀ {kvs : List (D × D)} {ks : List (κ × V)}, Paired R kvs ks → (kvs.any fun p => kEq p.1 k) = ks.any fun q => decide (q.1 = k') := by
  intro kvs ks h
  induction h with
  | nil => rfl
  | @cons p q ps qs a r ih => rw [List.any_cons, List.any_cons, ih, he p q a]
theorem map_rel (he : ∀ p q, R p q → kEq p.1 k = decide (q.1 = k')) {d : D} {v : V} (hp : ∀ p q, R p q → R (p.1, d) (q.1, v)) : ∀ {kvs : List (D × D)} {ks : List (κ × V)}, Paired R kvs ks → Paired R (kvs.map fun p => if kEq p.1 k = true then (p.1, d) else p) (ks.map fun q => if q.1 = k' then (q.1, v) else q) := by
  intro kvs ks h
  induction h with
  | nil => exact .nil
  | @cons p q ps qs a r ih =>
    rw [List.map_cons, List.map_cons]
    refine .cons ?_ ih
    rw [he p q a]
    by_cases x : q.1 = k'
    · rw [if_pos x, if_pos (decide_eq_true x)]; exact hp p q a
    · rw [if_neg x, if_neg (by rw [decide_eq_false x]; simp)]; exact a
theorem snoc_rel {x : D × D} {y : κ × V} (hxy : R x y) : ∀ {kvs : List (D × D)} {ks : List (κ × V)}, Paired R kvs ks → Paired R (kvs ++ [x]) (ks ++ [y]) := by
  intro kvs ks h
  induction h with
  | nil => exact .cons hxy .nil
  | cons a r ih => exact .cons a ih
theorem put_rel (he : ∀ p q, R p q → kEq p.1 k = decide (q.1 = k')) {d : D} {v : V} (hp : ∀ p q, R p q → R (p.1, d) (q.1, v)) (hn : R (k, d) (k', v)) {kvs : List (D × D)} {ks : List (κ × V)} (h : Paired R kvs ks) : Paired R (kPut k d kvs) (putK ks k' v) := by
  unfold kPut putK
  rw [any_rel he h]
  by_cases x : (ks.any fun q => decide (q.1 = k')) = true
  · rw [if_pos x, if_pos x]; exact map_rel he hp h
  · rw [if_neg x, if_neg x]; exact snoc_rel hn h
theorem len_rel : ∀ {kvs : List (D × D)} {ks : List (κ × V)}, Paired R kvs ks → kvs.length = ks.length := by
  intro kvs ks h
  induction h with
  | nil => rfl
  | cons a r ih => rw [List.length_cons, List.length_cons, ih]
end
theorem kOk_f {y : D} (h : kOk false y = true) : ∃ i, y = .int i := by cases y <;> first | exact ⟨_, rfl⟩ | cases h
theorem kOk_t {y : D} (h : kOk true y = true) : ∃ is : List Int, y = .tup (is.map .int) := by
  cases y with
  | tup xs =>
    obtain ⟨is, e⟩ := ints_of (xs := xs) h
    exact ⟨is, by rw [e]⟩
  | _ => cases h
/-- what is read of a dict -/
theorem kv_get {t : Bool} {kvs : List (D × D)} {o : HO} {a : Addr} {y d : D} {u : V} (ha : H a = some o) (hk : KvR K w H kvs t o) (ok : kOk t y = true) (hy : VT K w H y u) (g : kGet kvs y = some d) : ∃ v, DGet H a u (some v) ∧ VR K w H d v := by
  cases t with
  | false =>
    obtain ⟨i, rfl⟩ := kOk_f ok
    obtain rfl := vInt hy
    obtain ⟨ks, rfl, h⟩ := hk
    obtain ⟨v, e, r⟩ := get_rel (k' := (Sum.inl i : Key)) (fun p q z => key1 z i) (fun p q z => z.choose_spec.2.2) h g
    exact ⟨v, by rw [← e]; exact DGet.k (k := Sum.inl i) ha, r⟩
  | true =>
    obtain ⟨is, rfl⟩ := kOk_t ok
    obtain ⟨b, xs, rfl, hb, hr⟩ := vTup hy
    rw [vrs_ints hr] at hb
    obtain ⟨ks, rfl, h⟩ := hk
    obtain ⟨v, e, r⟩ := get_rel (k' := is.map (Sum.inl : Int → Key)) (fun p q z => key2 z is) (fun p q z => z.choose_spec.2.2) h g
    exact ⟨v, by rw [← e]; exact DGet.t ha hb, r⟩
/-- whether a dict has a key -/
theorem find_any {α : Type} {p : α → Bool} : ∀ {l : List α}, (l.find? p).isSome = l.any p
  | [] => rfl
  | a :: l => by
    rw [List.find?_cons, List.any_cons]
    cases p a with
    | true => rfl
    | false => rw [Bool.false_or]; exact find_any
theorem has_rel {κ : Type} [DecidableEq κ] {R : D × D → κ × V → Prop} {k : D} {k' : κ} (he : ∀ p q, R p q → kEq p.1 k = decide (q.1 = k')) {kvs : List (D × D)} {ks : List (κ × V)} (h : Paired R kvs ks) : (valV ks k').isSome = (kGet kvs k).isSome := by
  have e := any_rel he h
  have e1 : (kGet kvs k).isSome = kvs.any fun p => kEq p.1 k := by unfold kGet; rw [Option.isSome_map, find_any]
  have e2 : (valV ks k').isSome = ks.any fun q => decide (q.1 = k') := by unfold valV; rw [Option.isSome_map, find_any]
  rw [e1, e2, e]
theorem kv_has {t : Bool} {kvs : List (D × D)} {o : HO} {a : Addr} {y : D} {u : V} (ha : H a = some o) (hk : KvR K w H kvs t o) (ok : kOk t y = true) (hy : VT K w H y u) : ∃ r, DGet H a u r ∧ r.isSome = (kGet kvs y).isSome := by
  cases t with
  | false =>
    obtain ⟨i, rfl⟩ := kOk_f ok
    obtain rfl := vInt hy
    obtain ⟨ks, rfl, h⟩ := hk
    exact ⟨_, DGet.k (k := Sum.inl i) ha, has_rel (k' := (Sum.inl i : Key)) (fun p q z => key1 z i) h⟩
  | true =>
    obtain ⟨is, rfl⟩ := kOk_t ok
    obtain ⟨b, xs, rfl, hb, hr⟩ := vTup hy
    rw [vrs_ints hr] at hb
    obtain ⟨ks, rfl, h⟩ := hk
    exact ⟨_, DGet.t ha hb, has_rel (k' := is.map (Sum.inl : Int → Key)) (fun p q z => key2 z is) h⟩
/-- a dict written -/
theorem kv_put {t : Bool} {kvs : List (D × D)} {o : HO} {a : Addr} {y z : D} {u v : V} (ha : H a = some o) (hk : KvR K w H kvs t o) (ok : kOk t y = true) (hy : VT K w H y u) (hz : VR K w H z v) (l : kvs.length < 100000) : ∃ o', DPut H a u v (upd H a o') ∧ KvR K w H (kPut y z kvs) t o' := by
  have big : (100000 : Nat) ≤ sizeLine := by rw [sizeLine_eq]; decide
  cases t with
  | false =>
    obtain ⟨i, rfl⟩ := kOk_f ok
    obtain rfl := vInt hy
    obtain ⟨ks, rfl, h⟩ := hk
    exact ⟨_, DPut.k (k := Sum.inl i) ha (by rw [← len_rel h]; omega), _, rfl, put_rel (k' := (Sum.inl i : Key)) (fun p q z => key1 z i) (fun p q ⟨j, z1, z2, _⟩ => ⟨j, z1, z2, hz⟩) ⟨i, rfl, rfl, hz⟩ h⟩
  | true =>
    obtain ⟨is, rfl⟩ := kOk_t ok
    obtain ⟨b, xs, rfl, hb, hr⟩ := vTup hy
    rw [vrs_ints hr] at hb
    obtain ⟨ks, rfl, h⟩ := hk
    exact ⟨_, DPut.t ha hb (by rw [← len_rel h]; omega), _, rfl, put_rel (k' := is.map (Sum.inl : Int → Key)) (fun p q z => key2 z is) (fun p q ⟨j, z1, z2, _⟩ => ⟨j, z1, z2, hz⟩) ⟨is, rfl, rfl, hz⟩ h⟩
end
section
variable {X : Cx} {px : Px} {W : WX} {a b c : Expr} {fa fb fc : Ev → Hs → R D} {pos pos' pos2 p p' : Pos} {x : Str} {i : Nat} {t : Bool}
def fKg (i : Nat) (fa : Ev → Hs → R D) : Ev → Hs → R D := fun e h => (match e.get i with
    | .k t kvs => (fa e h).bind fun y h => if kOk t y then R.of (kGet kvs y) h else .bad
    | _ => .bad)
theorem nosl (hs : nsl a = true) : NoSl a := by
  intro o i
  cases a <;> first | rfl | cases hs
theorem se_kg (hu : X.A.units + 1 < cLine) (hr : RdOk X x i) (ha : SE X px W a fa) (hs : nsl a = true) : SE X px W (.Subscript (.Name x p) a pos) (fKg i fa) := by
  refine PE.of (pe_dget hu hr.pe ha (nosl hs)) fun σ H Q ⟨w, e, h, q⟩ => ?_
  unfold fKg at q
  cases e1 : e.get i with
  | o xs => rw [e1] at q; exact q.po.elim
  | u => rw [e1] at q; exact q.po.elim
  | v d => rw [e1] at q; exact q.po.elim
  | k t kvs =>
    rw [e1] at q
    obtain ⟨a, o, s1, s2, s3, s4, s5, _⟩ := q.rr.slotK e1
    refine ⟨.ref a, s1, w, e, h, q.bind.imp fun u H2 ⟨d2, h2, w2, _, x2, v2, p2⟩ => ?_⟩
    obtain ⟨a', o', t1, t2, t3, t4, t5, _⟩ := p2.rr.slotK e1
    rw [s1] at t1
    cases t1
    try dsimp only at p2
    split at p2
    · rename_i hk
      obtain ⟨d, ed, p3⟩ := p2.nobad
      obtain ⟨v, g, r⟩ := kv_get t2 t3 hk v2 ed
      exact ⟨a, v, rfl, g, p3.done (.of (.of r))⟩
    · exact p2.po.elim
def fKin (n : Bool) (i : Nat) (fa : Ev → Hs → R D) : Ev → Hs → R D := fun e h => (fa e h).bind fun y h => (match e.get i with
    | .k t kvs => if kOk t y then .ok (.bl (n != (kGet kvs y).isSome)) h else .bad
    | _ => .bad)
def kinOp (n : Bool) : CmpOp := if n then .NotIn else .In
def tKin (n : Bool) (ty td : TE) : TE := if n then tDNotIn ty td else tDIn ty td
theorem pc_kin {ty td : TE} {n : Bool} (hu : X.A.units + 1 < cLine) (hi : PE X a ty) (ho : PE X b td) : PC X (kinOp n) a b (tKin n ty td) := by
  cases n with
  | false => exact pc_din hu hi ho
  | true => exact pc_dnotin hu hi ho
theorem kin_rd {K : PySem.W.Frag} {n : Bool} {σ : L2.St} {H : Hp} {w : Wd} {e : Ev} {h : Hs} {Q : VK} (p : Pre K px W σ (relV K) w e h H Q (fKin n i fa e h)) : tKin n (rdE K px W fa) (fun σ H Q => ∃ v, σ[i]? = some (some v) ∧ Q v H) σ H Q := by
  unfold fKin at p
  have main : rdE K px W fa σ H fun y H1 => ∃ v, σ[i]? = some (some v) ∧ ∃ a o, v = .ref a ∧ DGet H1 a y o ∧ Q (.bl (n != o.isSome)) H1 := by
    refine ⟨w, e, h, p.bind.imp fun u H2 ⟨d2, h2, w2, _, x2, v2, p2⟩ => ?_⟩
    cases e1 : e.get i with
    | o xs => rw [e1] at p2; exact p2.po.elim
    | u => rw [e1] at p2; exact p2.po.elim
    | v d => rw [e1] at p2; exact p2.po.elim
    | k t kvs =>
      rw [e1] at p2
      obtain ⟨a', o', t1, t2, t3, t4, t5, _⟩ := p2.rr.slotK e1
      try dsimp only at p2
      split at p2
      · rename_i hk
        obtain ⟨r, g, er⟩ := kv_has t2 t3 hk v2
        refine ⟨.ref a', t1, a', r, rfl, g, ?_⟩
        rw [er]
        exact p2.done (.of (.of (.bl _)))
      · exact p2.po.elim
  cases n with
  | false =>
    have e2 : ∀ b : Bool, (false != b) = b := by decide
    simp only [e2] at main
    exact main
  | true =>
    have e2 : ∀ b : Bool, (true != b) = !b := by decide
    simp only [e2] at main
    exact main
theorem se_kin {n : Bool} (hu : X.A.units + 1 < cLine) (hr : RdOk X x i) (ha : SE X px W a fa) (hm : behindInMarks (kinOp n) (.Name x p) = false) : SE X px W (.Compare a [kinOp n] [.Name x p] pos) (fKin n i fa) :=
  PE.of (pe_cmp (pc_kin hu ha hr.pe) hm) fun σ H Q ⟨w, e, h, q⟩ => kin_rd q
theorem st_kin {n : Bool} (hu : X.A.units + 1 < cLine) (hr : RdOk X x i) (ha : SE X px W a fa) (hm : behindInMarks (kinOp n) (.Name x p) = false) : ST X px W (.Compare a [kinOp n] [.Name x p] pos) (fKin n i fa) := by
  refine PT.of (pt_cmp (pc_kin hu ha hr.pe) hm) fun σ H Q ⟨w, e, h, q⟩ => ?_
  refine kin_rd (w := w) (e := e) (h := h) (Q := fun v H' => ∃ k, v = .bl k ∧ Q k H') ?_
  refine ⟨q.rr, ?_⟩
  have z := q.po
  unfold tst fKin at z
  unfold fKin
  cases e1 : fa e h with
  | bad => rw [e1] at z; exact z
  | exc y h' => rw [e1] at z; exact z
  | ok d h1 =>
    rw [e1, R.bind_ok] at z
    rw [R.bind_ok]
    cases e2 : e.get i with
    | o xs => rw [e2] at z; exact z
    | u => rw [e2] at z; exact z
    | v d => rw [e2] at z; exact z
    | k t kvs =>
      rw [e2] at z
      dsimp only at z ⊢
      split at z
      · rename_i hk
        rw [if_pos hk]
        intro v w' H' y1 y2 y3 y4
        exact ⟨_, vBl y4, z _ w' H' y1 y2 y3 rfl⟩
      · exact z.elim
def fSk (i : Nat) (fb fc : Ev → Hs → R D) : Ev → Hs → R Fl := fun e h => (match e.get i with
    | .k t kvs => (fc e h).bind fun z h => (fb e h).bind fun y h => if z.keep && kOk t y && decide (kvs.length < 100000) then .ok (.nx (e.put i (.k t (kPut y z kvs)))) h else .bad
    | _ => .bad)
theorem ss_sk (hu : X.A.units + 1 < cLine) (hr : RdOk X x i) (hb : SE X px W b fb) (hc : SE X px W c fc) (hs : swapsWithSole [.Subscript (.Name x p) b pos2] c pos.line X.env = pure false) (hw : swappedStores [.Subscript (.Name x p) b pos2] c X.env = pure none) (h1 : (assignEach [.Subscript (.Name x p) b pos2] X.env).map (·.2) = [assign (.Subscript (.Name x p) b pos2) X.env])
    (ha : ∀ v, assign (.Subscript (.Name x p) b pos2) X.env v = (do
      let ov ← holding [v] (eval (.Name x p) X.env)
      let iv ← holding [v, ov] (eval b X.env)
      standAt pos2
      holding [v, ov, iv] (setItem ov iv v)
      release [v, ov, iv] [])) : SS X px W (.Assign [.Subscript (.Name x p) b pos2] c pos) (fSk i fb fc) := by
  refine PS.of (ps_asg hc (pg_sub hr.pe hb (set_dict hu) ha) hs hw h1) fun En σ H ⟨w, e, h, q⟩ => ?_
  unfold fSk at q
  cases e1 : e.get i with
  | o xs => rw [e1] at q; exact q.po.elim
  | u => rw [e1] at q; exact q.po.elim
  | v d => rw [e1] at q; exact q.po.elim
  | k t kvs =>
    rw [e1] at q
    refine ⟨w, e, h, q.bind.imp fun v H1 ⟨d, h1, w1, _, x1, v1, p1⟩ => ?_⟩
    obtain ⟨a, o, s1, s2, s3, s4, s5, _⟩ := p1.rr.slotK e1
    refine ⟨.ref a, s1, w1, e, h1, p1.bind.imp fun u H2 ⟨d2, h2, w2, _, x2, v2, p2⟩ => ?_⟩
    obtain ⟨a', o', t1, t2, t3, t4, t5, t6⟩ := p2.rr.slotK e1
    rw [s1] at t1
    cases t1
    try dsimp only at p2
    split at p2
    · rename_i hk
      rw [Bool.and_eq_true, Bool.and_eq_true, decide_eq_true_eq] at hk
      obtain ⟨⟨k1, k2⟩, k3⟩ := hk
      obtain ⟨o2, g, r⟩ := kv_put t2 t3 k2 v2 (VT.keep (v1.ext x2) k1) k3
      obtain ⟨r1, x3⟩ := t6 _ _ r
      exact ⟨a, _, rfl, g, p2.done x3 r1⟩
    · exact p2.po.elim
def fOwnd (i : Nat) (t : Bool) : Ev → Hs → R Fl := fun e h => .ok (.nx (e.put i (.k t []))) h
theorem ownd_rd {K : PySem.W.Frag} {En : Ends} {σ : L2.St} {H : Hp} {o : HO} (ho : ∀ w H, KvR K w H [] t o) (q : rdS K px W (fOwnd i t) En σ H) : tAsg (fun _ H Q => ∀ p, H p = none → Q (.ref p) (upd H p o)) (gName i) En σ H := by
  obtain ⟨w, e, h, p⟩ := q
  intro a ha
  exact p.po ((w.gd a).own i a) _ _ (ext_own (Ext.guard ha) p.rr.hr.prd ha (.inr rfl)) (p.rr.ownK (Ext.guard ha) (p.rr.hr.guard ha) (p.rr.new ha).tb i ha (.inr rfl) upd_same (ho _ _))
theorem ss_ownd (hN : X.N.Nodup) (hn : NmOk X x i) (hs : swapsWith (.Dict [] [] p) (some (.Name x pos')) pos.line X.env = pure false) : SS X px W (.Assign [.Name x pos'] (.Dict [] [] p) pos) (fOwnd i t) := by
  cases t with
  | false => exact PS.of (ps_set hN hn.1 hn.2.1 pe_dnewK hs hn.2.2) fun D σ H q => ownd_rd (t := false) (o := .dK []) (fun _ _ => ⟨[], rfl, .nil⟩) q
  | true => exact PS.of (ps_set hN hn.1 hn.2.1 pe_dnewT hs hn.2.2) fun D σ H q => ownd_rd (t := true) (o := .dT []) (fun _ _ => ⟨[], rfl, .nil⟩) q
end
end Tv
end

section
set_option autoImplicit false
set_option maxHeartbeats 1000000
/-! Lists and dicts of the heap's own: made, read, walked, written. -/
namespace Tv
open PySem PySem.Spec PyProof.Rows L2
section
variable {K : PySem.W.Frag} {w w' : Wd} {H : Hp}
mutual
/-- a thing seen with more heap -/
theorem VR.mv {n : List Addr} (hh : w'.hp = w.hp ++ n) (hf : ∀ a, w'.forb a → w.forb a) : ∀ {d : D} {v : V}, VR K w H d v → VR K w' H d v
  | _, _, .non => .non
  | _, _, .bl b => .bl b
  | _, _, .int i => .int i
  | _, _, .str s => .str s
  | _, _, .tup q r => .tup q (VRs.mv hh hf r)
  | _, _, .lst n q r => .lst (fun z => n (hf _ z)) q (VRs.mv hh hf r)
  | _, _, .dct n nd q => .dct (fun z => n (hf _ z)) nd q
  | _, _, .ref q => .ref (by rw [hh, List.getElem?_append_left (List.getElem?_eq_some_iff.mp q).1]; exact q)
  | _, _, .exc n l q => .exc (fun z => n (hf _ z)) l q
  | _, _, .exb n n2 q q2 => .exb (fun z => n (hf _ z)) (fun z => n2 (hf _ z)) q q2
theorem VRs.mv {n : List Addr} (hh : w'.hp = w.hp ++ n) (hf : ∀ a, w'.forb a → w.forb a) : ∀ {ds : List D} {vs : List V}, VRs K w H ds vs → VRs K w' H ds vs
  | _, _, .nil => .nil
  | _, _, .cons a b => .cons (VR.mv hh hf a) (VRs.mv hh hf b)
end
/-- a list out of everyone's reach becomes the heap's own -/
def Wd.tk (w : Wd) (a : Addr) : Wd := ⟨w.hp ++ [a], w.ow, fun b => w.pr b ∧ b ≠ a⟩
theorem Wd.tk_forb {a b : Addr} (hp : w.pr a) (h : (w.tk a).forb b) : w.forb b := by
  rcases h with h | h | h
  · rcases List.mem_append.mp h with z | z
    · exact .inl z
    · rw [List.mem_singleton.mp z]; exact .inr (.inr hp)
  · exact .inr (.inl h)
  · exact .inr (.inr h.1)
theorem HR.tk {h : Hs} {a : Addr} {xs : List V} {ds : List D} (r : HR K w h H) (hp : w.pr a) (nh : a ∉ w.hp) (no : some a ∉ w.ow) (ha : H a = some (.lst xs)) (hv : VRs K w H ds xs) (hk : ds.all D.keep = true) : HR K (w.tk a) (h ++ [.lst ds]) H := by
  have mv1 : ∀ {d : D} {v : V}, VR K w H d v → VR K (w.tk a) H d v := fun q => VR.mv (n := [a]) rfl (fun b => Wd.tk_forb hp) q
  have mvs : ∀ {d : List D} {v : List V}, VRs K w H d v → VRs K (w.tk a) H d v := fun q => VRs.mv (n := [a]) rfl (fun b => Wd.tk_forb hp) q
  refine ⟨?_, ?_, fun i b o h1 h2 => ?_, fun b hb => ?_, fun b z => r.prd b z.1⟩
  · show (w.hp ++ [a]).length = _
    rw [List.length_append, List.length_append, r.len]; rfl
  · show (w.hp ++ [a]).Nodup
    rw [List.nodup_append]
    exact ⟨r.nd, by simp, fun b hb c hc => by rw [List.mem_singleton.mp hc]; exact fun e => nh (e ▸ hb)⟩
  · have h1 : (w.hp ++ [a])[i]? = some b := h1
    by_cases hi : i < h.length
    · rw [List.getElem?_append_left (by rw [r.len]; exact hi)] at h1
      rw [List.getElem?_append_left hi] at h2
      have z := r.ob i b o h1 h2
      cases o with
      | lst es =>
        obtain ⟨ys, z1, z2, z3⟩ := z
        exact ⟨ys, z1, mvs z2, z3⟩
      | ins c fs =>
        obtain ⟨dx, vs, z1, z2⟩ := z
        exact ⟨dx, vs, z1, z2.map fun y => mv1 y⟩
      | dct kvs =>
        obtain ⟨ks, z1, z2⟩ := z
        exact ⟨ks, z1, z2.map fun y => mv1 y⟩
    · have e : i = h.length := by
        have := (List.getElem?_eq_some_iff.mp h2).1
        rw [List.length_append] at this
        simp only [List.length_singleton] at this
        omega
      subst e
      rw [← r.len, List.getElem?_concat_length] at h1
      rw [List.getElem?_concat_length] at h2
      cases h1
      cases h2
      exact ⟨xs, ha, mvs hv, hk⟩
  · rcases List.mem_append.mp hb with z | z
    · exact ⟨(r.sep b z).1, fun y => (r.sep b z).2 y.1⟩
    · rw [List.mem_singleton.mp z]
      exact ⟨no, fun y => y.2 rfl⟩
end
section
variable {K : PySem.W.Frag} {px : Px} {w : Wd} {H : Hp} {e : Ev} {h : Hs} {σ : L2.St}
/-! ### dicts of the heap -/
theorem isDct_of {d : D} {p : Nat × List (List L2.Key × D)} (e1 : isDct h d = some p) : d = .ref p.1 ∧ h[p.1]? = some (.dct p.2) := by
  unfold isDct at e1
  split at e1
  · split at e1
    · rename_i e2
      cases e1
      exact ⟨rfl, e2⟩
    · cases e1
  · cases e1
theorem RR.dict (r : RR K px w e h σ H) {d : D} {v : V} {p : Nat × List (List L2.Key × D)} (e1 : isDct h d = some p) (hv : VT K w H d v) :
    ∃ a ks, d = .ref p.1 ∧ v = .ref a ∧ H a = some (.dT ks) ∧ FsR K w H p.2 ks ∧
      ∀ kvs' ks', FsR K w H kvs' ks' → RR K px w e (h.set p.1 (.dct kvs')) σ (upd H a (.dT ks')) ∧ Ext w H w (upd H a (.dT ks')) := by
  obtain ⟨rfl, e2⟩ := isDct_of e1
  obtain ⟨a, rfl, ha⟩ := ref_hp (ref_at hv)
  obtain ⟨ks, q1, q2⟩ := r.hr.ob _ _ _ ha e2
  have m : a ∈ w.hp := List.mem_iff_getElem?.mpr ⟨_, ha⟩
  exact ⟨a, ks, rfl, rfl, q1, q2, fun kvs' ks' hd => r.heapG ha q1 (List.getElem?_eq_some_iff.mp e2).1 ⟨ks', upd_same, hd.map fun z => VR.updD (.inl m) q1 z⟩⟩
theorem fs_val {kvs : List (List L2.Key × D)} {ks : List (List L2.Key × V)} (r : FsR K w H kvs ks) (k : List L2.Key) : (valD kvs k = none ∧ valV ks k = none) ∨ ∃ d v, valD kvs k = some d ∧ valV ks k = some v ∧ VR K w H d v := by
  unfold FsR at r
  induction r with
  | nil => exact .inl ⟨rfl, rfl⟩
  | @cons p q ps qs a r ih =>
    obtain ⟨a1, a2⟩ := a
    by_cases z : p.1 = k
    · have z2 : q.1 = k := a1 ▸ z
      exact .inr ⟨p.2, q.2, by unfold valD; simp [List.find?_cons, z], valV_pos z2, a2⟩
    · have z2 : ¬ q.1 = k := fun y => z (a1.trans y)
      have e1 : valD (p :: ps) k = valD ps k := by unfold valD; simp [List.find?_cons, z]
      rw [e1, valV_neg z2]
      exact ih
theorem fs_len {kvs : List (List L2.Key × D)} {ks : List (List L2.Key × V)} (r : FsR K w H kvs ks) : kvs.length = ks.length := by
  unfold FsR at r
  induction r with
  | nil => rfl
  | cons a r ih => rw [List.length_cons, List.length_cons, ih]
theorem fs_any {kvs : List (List L2.Key × D)} {ks : List (List L2.Key × V)} (r : FsR K w H kvs ks) (k : List L2.Key) : (kvs.any fun p => decide (p.1 = k)) = (ks.any fun p => decide (p.1 = k)) := by
  unfold FsR at r
  induction r with
  | nil => rfl
  | cons a r ih => rw [List.any_cons, List.any_cons, ih, a.1]
theorem fs_put {kvs : List (List L2.Key × D)} {ks : List (List L2.Key × V)} (r : FsR K w H kvs ks) (k : List L2.Key) {d : D} {v : V} (hv : VR K w H d v) : FsR K w H (putKD kvs k d) (putK ks k v) := by
  unfold putKD putK
  rw [fs_any r k]
  split
  · rename_i hh
    clear hh
    unfold FsR at r ⊢
    induction r with
    | nil => exact .nil
    | @cons p q ps qs a r ih =>
      rw [List.map_cons, List.map_cons]
      refine .cons ?_ ih
      obtain ⟨a1, a2⟩ := a
      by_cases z : p.1 = k
      · rw [if_pos z, if_pos (a1 ▸ z)]
        exact ⟨a1, hv⟩
      · rw [if_neg z, if_neg (fun y => z (a1.trans y))]
        exact ⟨a1, a2⟩
  · rename_i hh
    clear hh
    unfold FsR at r ⊢
    induction r with
    | nil => exact .cons ⟨rfl, hv⟩ .nil
    | cons a r ih => exact .cons a ih
theorem keyL_vs : ∀ {xs : List D} {vs : List V} {q : List L2.Key}, VRs K w H xs vs → keyL xs = some q → vs = q.map kV
  | [], _, _, .nil, e => by cases e; rfl
  | .int i :: r, _, q, .cons a b, e => by
    rw [keyL] at e
    obtain ⟨y, e1, rfl⟩ := Option.map_eq_some_iff.mp e
    rw [keyL_vs b e1]
    cases a
    rfl
  | .str s :: r, _, q, .cons a b, e => by
    rw [keyL] at e
    obtain ⟨y, e1, rfl⟩ := Option.map_eq_some_iff.mp e
    rw [keyL_vs b e1]
    cases a
    rfl
  | .non :: _, _, _, .cons _ _, e => by cases e
  | .bl _ :: _, _, _, .cons _ _, e => by cases e
  | .tup _ :: _, _, _, .cons _ _, e => by cases e
  | .lst _ :: _, _, _, .cons _ _, e => by cases e
  | .dct _ :: _, _, _, .cons _ _, e => by cases e
  | .ref _ :: _, _, _, .cons _ _, e => by cases e
theorem key_at {y : D} {u : V} {q : List L2.Key} (hy : VT K w H y u) (e : keyD y = some q) : ∃ b, u = .ref b ∧ H b = some (.tup (q.map kV)) := by
  unfold keyD at e
  split at e
  · obtain ⟨b, vs, rfl, hb, hr⟩ := vTup hy
    rw [keyL_vs hr e] at hb
    exact ⟨b, rfl, hb⟩
  · cases e
end
section
variable {X : Cx} {px : Px} {W : WX} {a b c d k : Expr} {fa fb fc fd fe fk : Ev → Hs → R D} {pos pos' p p' apos cpos : Pos} {es : List Expr}
/-- a new list becomes the heap's own -/
def fMk (fa : Ev → Hs → R D) : Ev → Hs → R D := fun e h => (fa e h).bind fun x h => (match x with
    | .lst ds => if ds.all D.keep then .ok (.ref h.length) (h ++ [.lst ds]) else .bad
    | _ => .bad)
theorem SEF.rdl {K : PySem.W.Frag} {σ : L2.St} {H : Hp} {Q : VK} (q : rdL K px W fa σ H Q) : rdF K px W fa σ H Q := by
  obtain ⟨w, e, hh, p⟩ := q
  refine ⟨w, e, hh, p.rr, ?_⟩
  have q := p.po
  cases e1 : fa e hh with
  | bad => rw [e1] at q; exact q
  | exc x h' => rw [e1] at q; exact q
  | ok d h' =>
    rw [e1] at q
    rintro v w' H' x1 x2 x3 ⟨l, xs, ds, rfl, rfl, r⟩
    exact q _ w' H' x1 x2 x3 ⟨l, xs, ds, rfl, rfl, r⟩
theorem mk_rd {K : PySem.W.Frag} {σ : L2.St} {H : Hp} {Q : VK} (q : rdE K px W (fMk fa) σ H Q) : rdL K px W fa σ H Q := by
  obtain ⟨w, e, hh, p⟩ := q
  refine ⟨w, e, hh, p.rr, ?_⟩
  have q := p.po
  unfold fMk at q
  cases e1 : fa e hh with
  | bad => rw [e1] at q; exact q
  | exc x h' => rw [e1] at q; exact q
  | ok d h' =>
    rw [e1, R.bind_ok] at q
    rw [R.bind_ok]
    cases d with
    | lst dl =>
      show Post K px W σ (relF K H) w H Q (.ok (.lst dl) h')
      rintro v w' H' x1 x2 x3 ⟨a, xs, ds, ed, rfl, h0, h1, h2, h3⟩
      cases ed
      dsimp only at q
      split at q
      · rename_i hk
        have nh : a ∉ w'.hp := fun z => (x2.sep a z).2 h1
        have no : some a ∉ w'.ow := fun z => by
          rw [x1.ow] at z
          obtain ⟨i, hi⟩ := List.mem_iff_getElem?.mp z
          exact (p.rr.er.ot i a hi).1 h0
        obtain ⟨n, hn, hf⟩ := x1.pre
        refine q _ (w'.tk a) H' ⟨⟨n ++ [a], by show w'.hp ++ [a] = _; rw [hn, List.append_assoc], fun b hb => ?_⟩, x1.ow, fun b hb => ⟨x1.pr b hb, fun z => p.rr.hr.prd b hb (by rw [z]; exact h0)⟩, fun b hb => x1.prf b hb.1, x1.keep, x1.tups, x1.dom⟩ (x2.tk h1 nh no h2 h3 hk) x3 (.of (.of (.ref ?_)))
        · rcases List.mem_append.mp hb with z | z
          · exact hf b z
          · rw [List.mem_singleton.mp z]; exact h0
        · show (w'.hp ++ [a])[h'.length]? = some a
          rw [← x2.len, List.getElem?_concat_length]
      · exact q.elim
    | _ => exact q.elim
theorem se_mk (ha : SEL X px W a fa) : SE X px W a (fMk fa) := PE.of ha fun σ H Q q => mk_rd q
/-- a new dict -/
theorem se_mkd : SE X px W (.Dict [] [] pos) (fun _ h => .ok (.ref h.length) (h ++ [.dct []])) := by
  refine PE.of pe_dnewT fun σ H Q ⟨w, e, h, p1⟩ q hq => ?_
  obtain ⟨y1, y2⟩ := p1.rr.hr.pushG (o1 := .dT []) (ob := .dct []) hq (p1.rr.free hq) ⟨[], upd_same, .nil⟩
  refine p1.po (.ref q) _ _ y1 y2 (p1.rr.new hq).tb (.of (.of (.ref ?_)))
  show (w.hp ++ [q])[h.length]? = some q
  rw [← p1.rr.hr.len, List.getElem?_concat_length]
/-- d.get(k, x) -/
def fDgt (fa fk fd : Ev → Hs → R D) : Ev → Hs → R D := fun e h => (fa e h).bind fun x h => if (isDct h x).isSome then (fk e h).bind fun y h => (fd e h).bind fun z h => R.of (dgtO h x y z) h else .bad
theorem se_dgt (z : Cz X) (hr : rcv a = true) (ha : SE X px W a fa) (hk : SE X px W k fk) (hd : SE X px W d fd) (hl : (apos.endLine == cpos.line) = true) (s1 : nst k = true) (s2 : nst d = true) :
    SE X px W (.Call (.Attribute a "get" apos) [k, d] [] cpos) (fDgt fa fk fd) := by
  refine PE.of (pe_dget2 (by have := z.un; omega) ha hk hd ⟨base_ok hr, by rw [star_ok s1, star_ok s2]; rfl, hl, by rw [star_ok s1, star_ok s2]; rfl⟩) fun σ H Q ⟨w, e, h, p⟩ => ?_
  unfold fDgt at p
  refine ⟨w, e, h, p.bind.imp fun x H1 ⟨d1, h1, w1, _, x1, v1, p1⟩ => ?_⟩
  cases e1 : isDct h1 d1 with
  | none => rw [e1] at p1; exact p1.po.elim
  | some q =>
    rw [e1] at p1
    dsimp only [Option.isSome] at p1
    rw [if_pos rfl] at p1
    obtain ⟨a1, ks, ed, rfl, z1, _⟩ := p1.rr.dict e1 v1
    refine ⟨a1, rfl, .inr ⟨ks, .inl z1⟩, w1, e, h1, p1.bind.imp fun y H2 ⟨d2, h2, w2, _, x2, v2, p2⟩ => ⟨w2, e, h2, p2.bind.imp fun u H3 ⟨d3, h3, w3, _, x3, v3, p3⟩ => ?_⟩⟩
    obtain ⟨dd, e4, p4⟩ := p3.nobad
    unfold dgtO at e4
    obtain ⟨q2, e5, e6⟩ := Option.bind_eq_some_iff.mp e4
    obtain ⟨ky, e7, rfl⟩ := Option.map_eq_some_iff.mp e6
    obtain ⟨a2, ks2, _, ev, z2, z3, _⟩ := p4.rr.dict e5 ((v1.ext x2).ext x3)
    cases ev
    obtain ⟨b, rfl, hb⟩ := key_at (v2.ext x3) e7
    refine ⟨valV ks2 ky, DGet.t z2 hb, ?_⟩
    rcases fs_val z3 ky with ⟨n1, n2⟩ | ⟨d5, v5, n1, n2, n3⟩
    · rw [n1] at p4
      rw [n2]
      exact p4.done v3
    · rw [n1] at p4
      rw [n2]
      exact p4.done (.of (.of n3))
/-- k in d, k not in d -/
def fDin (n : Bool) (fa fk : Ev → Hs → R D) : Ev → Hs → R D := fun e h => (fk e h).bind fun y h => (fa e h).bind fun x h => R.of (dinO n h x y) h
theorem din_rd {K : PySem.W.Frag} {n : Bool} {σ : L2.St} {H : Hp} {w : Wd} {e : Ev} {h : Hs} {Q : VK} (p : Pre K px W σ (relV K) w e h H Q (fDin n fa fk e h)) : tKin n (rdE K px W fk) (rdE K px W fa) σ H Q := by
  unfold fDin at p
  have main : rdE K px W fk σ H fun y H1 => rdE K px W fa σ H1 fun v H2 => ∃ a o, v = .ref a ∧ DGet H2 a y o ∧ Q (.bl (n != o.isSome)) H2 := by
    refine ⟨w, e, h, p.bind.imp fun u H2 ⟨d2, h2, w2, _, x2, v2, p2⟩ => ⟨w2, e, h2, p2.bind.imp fun v H3 ⟨d3, h3, w3, _, x3, v3, p3⟩ => ?_⟩⟩
    obtain ⟨dd, e4, p4⟩ := p3.nobad
    unfold dinO at e4
    obtain ⟨q2, e5, e6⟩ := Option.bind_eq_some_iff.mp e4
    obtain ⟨ky, e7, rfl⟩ := Option.map_eq_some_iff.mp e6
    obtain ⟨a2, ks2, _, rfl, z2, z3, _⟩ := p4.rr.dict e5 v3
    obtain ⟨b, rfl, hb⟩ := key_at (v2.ext x3) e7
    refine ⟨a2, valV ks2 ky, rfl, DGet.t z2 hb, ?_⟩
    rcases fs_val z3 ky with ⟨n1, n2⟩ | ⟨d5, v5, n1, n2, n3⟩
    · rw [n1] at p4
      rw [n2]
      exact p4.done (.of (.of (.bl _)))
    · rw [n1] at p4
      rw [n2]
      exact p4.done (.of (.of (.bl _)))
  cases n with
  | false =>
    have e2 : ∀ b : Bool, (false != b) = b := by decide
    simp only [e2] at main
    exact main
  | true =>
    have e2 : ∀ b : Bool, (true != b) = !b := by decide
    simp only [e2] at main
    exact main
theorem se_din {n : Bool} (z : Cz X) (hk : SE X px W k fk) (ha : SE X px W a fa) (hm : behindInMarks (kinOp n) a = false) : SE X px W (.Compare k [kinOp n] [a] pos) (fDin n fa fk) :=
  PE.of (pe_cmp (pc_kin (by have := z.un; omega) hk ha) hm) fun σ H Q ⟨w, e, h, q⟩ => din_rd q
theorem st_din {n : Bool} (z : Cz X) (hk : SE X px W k fk) (ha : SE X px W a fa) (hm : behindInMarks (kinOp n) a = false) : ST X px W (.Compare k [kinOp n] [a] pos) (fDin n fa fk) := by
  refine PT.of (pt_cmp (pc_kin (by have := z.un; omega) hk ha) hm) fun σ H Q ⟨w, e, h, q⟩ => ?_
  refine din_rd (w := w) (e := e) (h := h) (Q := fun v H' => ∃ k, v = .bl k ∧ Q k H') ?_
  refine ⟨q.rr, ?_⟩
  have z := q.po
  unfold tst fDin at z
  unfold fDin
  cases e1 : fk e h with
  | bad => rw [e1] at z; exact z
  | exc y h' => rw [e1] at z; exact z
  | ok d h1 =>
    rw [e1, R.bind_ok] at z
    rw [R.bind_ok]
    cases e2 : fa e h1 with
    | bad => rw [e2] at z; exact z
    | exc y h' => rw [e2] at z; exact z
    | ok d2 h2 =>
      rw [e2, R.bind_ok] at z
      rw [R.bind_ok]
      cases e3 : dinO n h2 d2 d with
      | none => rw [e3] at z; exact z
      | some dd =>
        rw [e3] at z
        obtain ⟨bb, rfl⟩ : ∃ bb, dd = .bl bb := by
          unfold dinO at e3
          obtain ⟨q2, _, e6⟩ := Option.bind_eq_some_iff.mp e3
          obtain ⟨ky, _, rfl⟩ := Option.map_eq_some_iff.mp e6
          exact ⟨_, rfl⟩
        intro v w' H' y1 y2 y3 y4
        cases y4 with
        | of y4 =>
          cases y4 with
          | of y4 =>
            cases y4
            exact ⟨bb, rfl, z bb w' H' y1 y2 y3 rfl⟩
/-- tuple(l), l the heap's own -/
def rTur (K : PySem.W.Frag) (px : Px) (W : WX) : List V → Hp → VK → Prop := fun vs H Q => ∃ σ w e h d x, vs = [x] ∧ VT K w H d x ∧ Pre K px W σ (relV K) w e h H Q (R.of (turO h d) h)
theorem bi_tur : CallR X (.type "tuple") (rTur X.K px W) := by
  intro pins s σ H vs us Q I r q
  obtain ⟨σ', w, e, h, d, x, rfl, hv, p0⟩ := q
  obtain ⟨d', ed, p⟩ := p0.nobad
  unfold turO at ed
  obtain ⟨q, e1, e2⟩ := Option.map_eq_some_iff.mp ed
  subst e2
  obtain ⟨a, xs, _, rfl, z1, z2, _⟩ := p.rr.list e1 hv
  exact call_tuple_of pins s σ H _ us Q I r ⟨a, xs, rfl, .inl ⟨.inl (.inl z1), fun l hl => p.newT hl z2⟩⟩
theorem se_tur (hg : Gl X "tuple") (hm : X.mg "tuple" = none) (ha : SE X px W a fa) (hs : nst a = true) : SE X px W (.Call (.Name "tuple" p) [a] [] pos) (fun e h => (fa e h).bind fun x h => R.of (turO h x) h) :=
  PE.of (pe_callTy bi_tur hg hm (by decide +kernel) (pa_cons ha pa_nil (star_ok hs)) (by decide) (by decide) (star_ok hs) rfl) fun σ H Q ⟨w, e, h, p⟩ => ⟨w, e, h, p.bind.imp fun x H1 ⟨d1, h1, w1, _, x1, v1, p1⟩ => ⟨σ, w1, e, h1, d1, x, rfl, v1, p1⟩⟩
/-! ### a comprehension over a list of the heap -/
def fHc (fa : Ev → Hs → R D) (t : T) (vs : List Nat) (fc fe : Ev → Hs → R D) : Ev → Hs → R D := fun e h => (fa e h).bind fun x h => (match isLst h x with
    | some p => if p.2.length ≤ LIM then (compN (hOne (turnC t vs fc fe e) p.1 p.2.length) (List.range p.2.length) h).calm.bind fun ys h => if hLen h p.1 p.2.length then .ok (.lst ys) h else .bad else .bad
    | none => .bad)
theorem compN_cons {f : Nat → Hs → R (Option D)} {x : Nat} {xs : List Nat} {zs : List D} {h h' : Hs} (q : compN f (x :: xs) h = .ok zs h') : ∃ o h1 ys, f x h = .ok o h1 ∧ compN f xs h1 = .ok ys h' ∧ zs = (match o with | some y => y :: ys | none => ys) := by
  unfold compN at q
  cases e1 : f x h with
  | bad => rw [e1] at q; cases q
  | exc x h1 => rw [e1] at q; cases q
  | ok o h1 =>
    rw [e1, R.bind_ok] at q
    cases e2 : compN f xs h1 with
    | bad => rw [e2] at q; cases q
    | exc x h1 => rw [e2] at q; cases q
    | ok ys h2 =>
      rw [e2, R.bind_ok] at q
      cases q
      exact ⟨o, h1, ys, rfl, e2, rfl⟩
theorem hOne_ok {f : D → Hs → R (Option D)} {r n j : Nat} {h h' : Hs} {o : Option D} (q : hOne f r n j h = .ok o h') : ∃ xs x, h[r]? = some (.lst xs) ∧ xs.length = n ∧ xs[j]? = some x ∧ f x h = .ok o h' := by
  unfold hOne hAt at q
  cases e1 : h[r]? with
  | none => rw [e1] at q; cases q
  | some ob =>
    rw [e1] at q
    cases ob with
    | lst xs =>
      dsimp only at q
      by_cases l : xs.length = n
      · rw [if_pos l] at q
        cases e2 : xs[j]? with
        | none => rw [e2] at q; cases q
        | some x =>
          rw [e2] at q
          exact ⟨xs, x, rfl, l, e2, q⟩
      · rw [if_neg l] at q; cases q
    | ins c fs => cases q
    | dct kvs => cases q
theorem hcomp_rd {K : PySem.W.Frag} {vs : List Nat} {t : T} (htv : ∀ i ∈ t.is, i ∈ vs) {σ : L2.St} {H : Hp} {Q : VK} (q : rdF K px W (fHc fa t vs fc fe) σ H Q) :
    tLc (iList K (rdE K px W fa)) (rdG K t) (rdTs K px Wno fc) (rdE K px Wno fe) vs σ H Q := by
  obtain ⟨w, e, h, p⟩ := q
  unfold fHc at p
  refine ⟨w, e, h, p.bind.imp fun xv H1 ⟨xd, h1, w1, _, x1, v1, p1⟩ => ?_⟩
  cases e1 : isLst h1 xd with
  | none => rw [e1] at p1; exact p1.po.elim
  | some pq =>
  rw [e1] at p1
  dsimp only at p1
  obtain ⟨rfl, e2⟩ := isLst_of e1
  obtain ⟨a, rfl, ha⟩ := ref_hp (ref_at v1)
  obtain ⟨us0, u1, u2, _⟩ := p1.rr.hr.ob _ _ _ ha e2
  refine ⟨a, rfl, ⟨us0, .inl (.inl u1)⟩, fun D hD => ?_⟩
  split at p1
  · rename_i hlen
    generalize hn : pq.2.length = n at *
    obtain ⟨zs, hz, ezs⟩ : ∃ zs hz, compN (hOne (turnC t vs fc fe e) pq.1 n) (List.range n) h1 = .ok zs hz := by
      have q := p1.po
      cases e1 : compN (hOne (turnC t vs fc fe e) pq.1 n) (List.range n) h1 with
      | bad => rw [e1] at q; exact q.elim
      | exc x h2 => rw [e1] at q; exact q.elim
      | ok zs hz => exact ⟨zs, hz, rfl⟩
    rw [ezs, R.calm_ok, R.bind_ok] at p1
    split at p1
    · rename_i hend
      have hw : Walk (Itl K a) n (fun H => ∃ xs, SqL K H a xs ∧ xs.length = n) (fun i H x H' => H' = H ∧ ∀ xs, SqL K H a xs → xs[i]? = some x) :=
        ⟨fun i _ hi ⟨xs, q, l⟩ => ⟨xs, xs[i]'(by omega), q, by simp [l, hi]⟩, fun _ ⟨xs, q, l⟩ => ⟨xs, q, by omega⟩, fun _ _ _ _ _ _ y => y⟩
      have at_ : ∀ {w2 : Wd} {h2 : Hs} {H2 : Hp} {xs : List Tv.D}, Ext w1 H1 w2 H2 → HR K w2 h2 H2 → h2[pq.1]? = some (.lst xs) → ∃ us, SqL K H2 a us ∧ VRs K w2 H2 xs us ∧ w2.hp[pq.1]? = some a := fun {w2 h2 H2 xs} y1 y2 y3 => by
        obtain ⟨n2, hn2, _⟩ := y1.pre
        have ha2 : w2.hp[pq.1]? = some a := by rw [hn2, List.getElem?_append_left (List.getElem?_eq_some_iff.mp ha).1]; exact ha
        obtain ⟨us, z1, z2, _⟩ := y2.ob _ _ _ ha2 y3
        exact ⟨us, .inl (.inl z1), z2, ha2⟩
      refine lc_it hw (fun i H2 => i ≤ n ∧ ∃ w2 h2 acc ys zs', Ext w1 H1 w2 H2 ∧ HR K w2 h2 H2 ∧ LamX.Tabs px.T H2 ∧ w2.pr D ∧ H2 D = some (.lst acc) ∧ VRs K w2 H2 ys acc ∧ acc.length ≤ i ∧ compN (hOne (turnC t vs fc fe e) pq.1 n) ((List.range n).drop i) h2 = .ok zs' hz ∧ zs = ys ++ zs') ?_ ?_ ?_ ?_
      · exact ⟨Nat.zero_le _, w1.gd D, h1, [], [], zs, Ext.guard hD, p1.rr.hr.guard hD, (p1.rr.new hD).tb, .inr rfl, upd_same, .nil, Nat.le_refl _, ezs, rfl⟩
      · rintro i H2 _ ⟨hin, w2, h2, acc, ys, zs', a1, a2, a3, a4, a5, a6, a7, a8, a9⟩
        by_cases hlt : i < n
        · have edrop : (List.range n).drop i = i :: (List.range n).drop (i + 1) := by
            rw [List.drop_eq_getElem_cons (by rw [List.length_range]; exact hlt)]
            simp
          rw [edrop] at a8
          obtain ⟨o, h3, zs2, b1, b2, b3⟩ := compN_cons a8
          obtain ⟨xs, x, c1, c2, c3, c4⟩ := hOne_ok b1
          obtain ⟨us, z1, z2, _⟩ := at_ a1 a2 c1
          exact ⟨us, z1, by rw [← z2.length]; exact c2⟩
        · have e0 : i = n := by omega
          subst e0
          have : (List.range i).drop i = [] := by simp
          rw [this] at a8
          cases a8
          unfold hLen at hend
          cases c1 : hz[pq.1]? with
          | none => rw [c1] at hend; cases hend
          | some ob =>
            rw [c1] at hend
            cases ob with
            | lst xs =>
              obtain ⟨us, z1, z2, _⟩ := at_ a1 a2 c1
              exact ⟨us, z1, by rw [← z2.length]; exact of_decide_eq_true hend⟩
            | ins c fs => cases hend
            | dct kvs => cases hend
      · rintro i x H2 H3 hin ⟨_, w2, h2, acc, ys, zs', a1, a2, a3, a4, a5, a6, a7, a8, a9⟩ ⟨rfl, hy⟩
        have edrop : (List.range n).drop i = i :: (List.range n).drop (i + 1) := by
          rw [List.drop_eq_getElem_cons (by rw [List.length_range]; exact hin)]
          simp
        rw [edrop] at a8
        obtain ⟨o, h3, zs2, b1, b2, b3⟩ := compN_cons a8
        obtain ⟨xs, d, k1, k2, k3, b1⟩ := hOne_ok b1
        obtain ⟨us, z1, z2, _⟩ := at_ a1 a2 k1
        obtain ⟨v, e3, hv⟩ := z2.get k3
        have ex : v = x := by
          have := hy us z1
          rw [e3] at this
          exact Option.some.inj this
        subst ex
        obtain ⟨e', c, h4, c1, c2, c3⟩ := turnC_ok b1
        have nD : D ∉ w2.hp := fun z => (a2.sep D z).2 a4
        have er3 : ER K w2 (e.wipe vs) (L2.wipe σ vs) H3 := (p1.rr.er.ext a1 fun a m => (p1.rr.hr.sep a m).1).wipe _
        refine ⟨w2, e.wipe vs, d, e', hv, er3, c1, fun σ' l hl hm he' => ⟨?_, ?_⟩⟩
        · rw [hl, sets_wipe l _ fun p hp => htv _ (hm p hp), wipe_wipe _ _ fun u hu => hu]
        have done : ∀ {w5 : Wd} {H5 : Hp} {h5 : Hs}, Ext w2 H3 w5 H5 → HR K w5 h5 H5 → LamX.Tabs px.T H5 → Ext w1 H1 w5 H5 ∧ w5.pr D ∧ D ∉ w5.hp ∧ H5 D = some (.lst acc) ∧ VRs K w5 H5 ys acc := fun {w5 H5 h5} y1 y2 y3 => by
          have k1 := y1.pr D a4
          exact ⟨a1.trans y1, k1, fun z => (y2.sep D z).2 k1, y1.keep D _ a5 nD (fun ps z => by cases z), a6.ext y1⟩
        refine ⟨w2, e', h2, ⟨⟨a2, he', a3⟩, ?_⟩⟩
        unfold tst
        rw [c2, R.bind_ok]
        rcases c3 with ⟨c4, y, c5, c6, c7⟩ | ⟨c4, c5, c6⟩
        · rw [c4]
          intro b w5 H5 y1 y2 y3 y4
          cases y4
          rw [if_pos rfl]
          refine ⟨w5, e', h4, ⟨⟨y2, he'.ext y1 fun a m => (a2.sep a m).1, y3⟩, ?_⟩⟩
          rw [c5]
          intro v w6 H6 y5 y6 y7 y8
          obtain ⟨k1, k2, k3, k4, k5⟩ := done (y1.trans y5) y6 y7
          refine ⟨acc, k4, ?_, hin, w6, h3, acc ++ [v], ys ++ [y], zs2, k1.updD hD, y6.updD (.inr (.inr k2)) k3 k4, tabs_updD k4 y7, k2, upd_same, (k5.snoc (VT.keep y8 c6)).updD (.inr (.inr k2)) k4, ?_, b2, ?_⟩
          · rw [← LIM_eq]; exact Nat.lt_of_le_of_lt a7 (Nat.lt_of_lt_of_le hin hlen)
          · rw [List.length_append]; exact Nat.add_le_add_right a7 1
          · rw [a9, b3, c7, List.append_assoc]; rfl
        · rw [c4]
          intro b w5 H5 y1 y2 y3 y4
          cases y4
          rw [if_neg (by simp)]
          obtain ⟨k1, k2, k3, k4, k5⟩ := done y1 y2 y3
          refine ⟨hin, w5, h4, acc, ys, zs2, k1, y2, y3, k2, k4, k5, Nat.le_succ_of_le a7, ?_, ?_⟩
          · rw [← c5]; exact b2
          · rw [a9, b3, c6]
      · rintro H2 ⟨_, w2, h2, acc, ys, zs', a1, a2, a3, a4, a5, a6, a7, a8, a9⟩
        have : (List.range n).drop n = [] := by simp
        rw [this] at a8
        cases a8
        rw [List.append_nil] at a9
        subst a9
        exact p1.po (.ref D) w2 H2 a1 a2 a3 ⟨D, acc, zs, rfl, rfl, x1.dom D hD, a4, a5, a6⟩
    · exact p1.po.elim
  · exact p1.po.elim
theorem se_hcF {elt tg iter : Expr} {ifs : List Expr} {scope : Scope} {own : List (Str × Nat)} {t : T} (hc : X.calm = true) (hN : X.N.Nodup) (ha : SE X px W iter fa) (ok : BlkOk X.N X.env.scope scope own)
    (htv : ∀ i ∈ t.is, i ∈ own.map (·.2))
    (hg : ∀ (s : Shared) (H : Hp) (C : Addr) (cl : List (Str × Addr)) (fp : List Addr), SG (X.blk s H scope (compEnvC scope cl C X.env) fp) tg t) (ht : ∀ (s : Shared) (H : Hp) (C : Addr) (cl : List (Str × Addr)) (fp : List Addr), STs (X.blk s H scope (compEnvC scope cl C X.env) fp) px Wno ifs fc)
    (he : ∀ (s : Shared) (H : Hp) (C : Addr) (cl : List (Str × Addr)) (fp : List Addr), SE (X.blk s H scope (compEnvC scope cl C X.env) fp) px Wno elt fe) (hs : ∀ x, foldedSetIterable iter X.env x = pure x) :
    SEF X px W (.ListComp elt [⟨tg, iter, ifs, 0⟩] scope pos) (fHc fa t (own.map (·.2)) fc fe) :=
  PE.of (pe_lc (g := rdG X.K t) (tt := rdTs X.K px Wno fc) (te := rdE X.K px Wno fe) hc hN (pi_list ha) ok hg ht he hs) fun σ H Q q => hcomp_rd htv q
/-! ### written -/
def fSdp (fa fk fb : Ev → Hs → R D) : Ev → Hs → R Fl := fun e h => (fb e h).bind fun z h => (fa e h).bind fun x h => (fk e h).bind fun y h => (match dputO h x y z with
    | some h' => .ok (.nx e) h'
    | none => .bad)
theorem dput_some {h h' : Hs} {x y z : D} (e : dputO h x y z = some h') : ∃ q ky, isDct h x = some q ∧ keyD y = some ky ∧ q.2.length < 100000 ∧ z.keep = true ∧ h' = h.set q.1 (.dct (putKD q.2 ky z)) := by
  unfold dputO at e
  obtain ⟨q, e1, e2⟩ := Option.bind_eq_some_iff.mp e
  obtain ⟨ky, e3, e4⟩ := Option.bind_eq_some_iff.mp e2
  split at e4
  · rename_i hl
    cases e4
    exact ⟨q, ky, e1, e3, hl.1, hl.2, rfl⟩
  · cases e4
theorem ss_sdp (z : Cz X) (ha' : SE X px W a fa) (hk : SE X px W k fk) (hb : SE X px W b fb) (hs : swapsWithSole [.Subscript a k p'] b pos.line X.env = pure false) (hw : swappedStores [.Subscript a k p'] b X.env = pure none) (h1 : (assignEach [.Subscript a k p'] X.env).map (·.2) = [assign (.Subscript a k p') X.env])
    (has : ∀ v, assign (.Subscript a k p') X.env v = (do
      let ov ← holding [v] (eval a X.env)
      let iv ← holding [v, ov] (eval k X.env)
      standAt p'
      holding [v, ov, iv] (setItem ov iv v)
      release [v, ov, iv] [])) : SS X px W (.Assign [.Subscript a k p'] b pos) (fSdp fa fk fb) := by
  refine PS.of (ps_asg hb (pg_sub ha' hk (set_dict (by have := z.un; omega)) has) hs hw h1) fun En σ H ⟨w, e, h, p⟩ => ?_
  unfold fSdp at p
  refine ⟨w, e, h, p.bind.imp fun v H1 ⟨d1, h1, w1, _, x1, v1, p1⟩ => ⟨w1, e, h1, p1.bind.imp fun u H2 ⟨d2, h2, w2, _, x2, v2, p2⟩ => ⟨w2, e, h2, p2.bind.imp fun y H3 ⟨d3, h3, w3, _, x3, v3, p3⟩ => ?_⟩⟩⟩
  cases e1 : dputO h3 d2 d3 d1 with
  | none => rw [e1] at p3; exact p3.po.elim
  | some h' =>
    rw [e1] at p3
    obtain ⟨q, ky, e2, e3, l1, l2, rfl⟩ := dput_some e1
    obtain ⟨a1, ks, _, rfl, z1, z2, z3⟩ := p3.rr.dict e2 (v2.ext x3)
    obtain ⟨bb, rfl, hb⟩ := key_at v3 e3
    obtain ⟨y1, y2⟩ := z3 _ _ (fs_put z2 ky (VT.keep ((v1.ext x2).ext x3) l2))
    exact ⟨a1, _, rfl, DPut.t z1 hb (by rw [← fs_len z2, sizeLine_eq]; omega), p3.done y2.s y1⟩
def fUn2 (fa fb fc fk fd : Ev → Hs → R D) : Ev → Hs → R Fl := fun e h => (fd e h).bind fun z h => (match z with
    | .tup [p, q] => (fa e h).bind fun x h => (fb e h).bind fun y h => (match putL h x y p with
      | some h => (fc e h).bind fun x h => (fk e h).bind fun y h => (match dputO h x y q with
        | some h' => .ok (.nx e) h'
        | none => .bad)
      | none => .bad)
    | _ => .bad)
theorem putL_some {h h' : Hs} {x y z : D} (e : putL h x y z = some h') : ∃ r j xs i, x = .ref r ∧ y = .int j ∧ z.keep = true ∧ h[r]? = some (.lst xs) ∧ L2.ixN xs.length j = some i ∧ h' = h.set r (.lst (xs.set i z)) := by
  unfold putL at e
  split at e
  · rename_i r j
    split at e
    · rename_i hk
      split at e
      · rename_i xs e1
        obtain ⟨ys, e2, rfl⟩ := Option.map_eq_some_iff.mp e
        obtain ⟨i, e3, rfl⟩ := setL_of e2
        exact ⟨r, j, xs, i, rfl, rfl, hk, e1, e3, rfl⟩
      · cases e
    · cases e
  · cases e
theorem ss_un2 {kk : Nat} (hcal : X.calm = true) (z : Cz X) (ha : SE X px W a fa) (hb : SE X px W b fb) (hc : SE X px W c fc) (hk : SE X px W k fk) (hd : SE X px W d fd)
    (hs : swapsWithSole [.Tuple [.Subscript a b p, .Subscript c k p'] kk pos'] d pos.line X.env = pure false) (hw : swappedStores [.Tuple [.Subscript a b p, .Subscript c k p'] kk pos'] d X.env = pure none)
    (has : ∀ v, assign (.Subscript a b p) X.env v = (do
      let ov ← holding [v] (eval a X.env)
      let iv ← holding [v, ov] (eval b X.env)
      standAt p
      holding [v, ov, iv] (setItem ov iv v)
      release [v, ov, iv] []))
    (hat : ∀ v, assign (.Subscript c k p') X.env v = (do
      let ov ← holding [v] (eval c X.env)
      let iv ← holding [v, ov] (eval k X.env)
      standAt p'
      holding [v, ov, iv] (setItem ov iv v)
      release [v, ov, iv] [])) :
    SS X px W (.Assign [.Tuple [.Subscript a b p, .Subscript c k p'] kk pos'] d pos) (fUn2 fa fb fc fk fd) := by
  refine PS.of (ps_asg hd (pg_tup (n := 2) hcal (pgs_cons (pg_sub ha hb set_list has) (pgs_cons (pg_sub hc hk (set_dict (by have := z.un; omega)) hat) pgs_nil))) hs hw) fun En σ H ⟨w, e, h, p⟩ => ?_
  unfold fUn2 at p
  refine ⟨w, e, h, p.bind.imp fun v H1 ⟨d, h1, w1, _, x1, v1, p1⟩ => ?_⟩
  obtain ⟨d1, d2, rfl⟩ : ∃ d1 d2, d = .tup [d1, d2] := by
    split at p1
    · exact ⟨_, _, rfl⟩
    · exact p1.po.elim
  obtain ⟨t, u1, u2, rfl, hq, r1, r2⟩ := vr_tup2 (VT.keep v1 rfl)
  refine ⟨t, [u1, u2], rfl, hq, rfl, u1, [u2], rfl, w1, e, h1, PrS.bind p1 |>.imp fun u H2 ⟨dx, h2, w2, _, x2, v2, p2⟩ => ⟨w2, e, h2, PrS.bind p2 |>.imp fun y H3 ⟨dy, h3, w3, _, x3, v3, p3⟩ => ?_⟩⟩
  cases e1 : putL h3 dx dy d1 with
  | none => rw [e1] at p3; exact p3.po.elim
  | some h4 =>
    rw [e1] at p3
    dsimp only at p3
    obtain ⟨r, j, xs, i, rfl, rfl, hk1, e2, e3, rfl⟩ := putL_some e1
    obtain rfl := vInt v3
    obtain ⟨q, us, rfl, t2, t3, t4, t5⟩ := p3.rr.heap e2 (ref_at (v2.ext x3))
    obtain ⟨y1, y2⟩ := t5 _ _ (VRs.set_ ((r1.ext x2).ext x3) t3 i) (keep_set t4 hk1)
    refine ⟨q, us, j, i, rfl, rfl, t2, by rw [← t3.length]; exact e3, u2, [], rfl, ?_⟩
    have p4 : PrS X.K px W En w3 e (h3.set r (.lst (xs.set i d1))) σ _ _ := ⟨y1, PoS.later p3.po y2⟩
    refine ⟨w3, e, _, p4.bind.imp fun u' H5 ⟨dz, h5, w5, _, x5, v5, p5⟩ => ⟨w5, e, h5, p5.bind.imp fun y' H6 ⟨dk, h6, w6, _, x6, v6, p6⟩ => ?_⟩⟩
    cases e5 : dputO h6 dz dk d2 with
    | none => rw [e5] at p6; exact p6.po.elim
    | some h' =>
      rw [e5] at p6
      obtain ⟨q2, ky, e6, e7, l1, l2, rfl⟩ := dput_some e5
      obtain ⟨a1, ks, _, rfl, z1, z2, z3⟩ := p6.rr.dict e6 (v5.ext x6)
      obtain ⟨bb, rfl, hb2⟩ := key_at v6 e7
      obtain ⟨s1, s2⟩ := z3 _ _ (fs_put z2 ky (((((r2.ext x2).ext x3).exts y2).ext x5).ext x6))
      exact ⟨a1, _, rfl, DPut.t z1 hb2 (by rw [← fs_len z2, sizeLine_eq]; omega), rfl, p6.done s2.s s1⟩
end
/-! ### a global dict of texts to numbers -/
def KD (wo : World) (K : PySem.W.Frag) (a : Addr) (zs : List (Str × Int)) : Prop := ∃ (o : Obj) (es : Array DictEntry) (ep : Nat), K.lookup a = some o ∧ o.ExactDict ∧ o.data = .dict es ep ∧ dctL es.toList = some zs ∧ es.toList.map (·.hash) = zs.map (fun z => L2.keyH wo (.inr z.1)) ∧ (zs.map (·.1)).Nodup ∧ (a == sysModules) = false
abbrev kvZ (zs : List (Str × Int)) : List (L2.Key × V) := zs.map fun z => ((Sum.inr z.1 : L2.Key), V.int z.2)
theorem dct_ok {P : Program} {wo : World} : ∀ {l : List DictEntry} {zs : List (Str × Int)}, dctL l = some zs → l.map (·.hash) = zs.map (fun z => L2.keyH wo (.inr z.1)) →
    ∃ kvs, Pairs (mixKind P wo) l kvs ∧ KV (kvZ zs) kvs ∧ ∀ e ∈ l, ∃ k, (mixKind P wo).is k e.key = true ∧ e.hash = (mixKind P wo).hash k
  | [], zs, e, _ => by
    cases e
    exact ⟨[], .nil, .nil, fun e he => by cases he⟩
  | ⟨h, k, v⟩ :: r, zs, e, eh => by
    cases k <;> first | (cases e; done) | skip
    cases v <;> first | (cases e; done) | skip
    rename_i z t n u
    unfold dctL at e
    obtain ⟨zr, e1, rfl⟩ := Option.map_eq_some_iff.mp e
    rw [List.map_cons, List.map_cons] at eh
    injection eh with eh1 eh2
    obtain ⟨kvs, q1, q2, q3⟩ := dct_ok (P := P) e1 eh2
    have hz : (mixKind P wo).is (Sum.inr z) (.str z t) = true := mixKind_str P wo z t
    refine ⟨(Sum.inr z, .int n u) :: kvs, .cons hz rfl q1, .cons ⟨rfl, ⟨u, rfl⟩⟩ q2, fun e he => ?_⟩
    rcases List.mem_cons.mp he with rfl | he
    · exact ⟨Sum.inr z, hz, eh1⟩
    · exact q3 e he
theorem kv_keys {κ : Type} {a : List (κ × V)} {b : List (κ × Value)} (q : KV a b) : b.map (·.1) = a.map (·.1) := by
  unfold KV at q
  induction q with
  | nil => rfl
  | cons a r ih => rw [List.map_cons, List.map_cons, ih, a.1]
theorem kvZ_val {zs : List (Str × Int)} {s : Str} : valV (kvZ zs) (Sum.inr s) = (zs.find? fun p => decide (p.1 = s)).map fun p => V.int p.2 := by
  induction zs with
  | nil => rfl
  | cons p r ih =>
    by_cases z : p.1 = s
    · rw [show kvZ (p :: r) = ((Sum.inr p.1 : L2.Key), V.int p.2) :: kvZ r from rfl, valV_pos (by rw [z]), List.find?_cons, decide_eq_true z]
      rfl
    · rw [show kvZ (p :: r) = ((Sum.inr p.1 : L2.Key), V.int p.2) :: kvZ r from rfl, valV_neg (fun e => z (Sum.inr.inj e)), List.find?_cons, decide_eq_false z]
      exact ih
section
variable {X : Cx} {px : Px} {W : WX} {e : Expr} {fe : Ev → Hs → R D} {ty : TE} {apos cpos gp : Pos} {x : Str} {ga : Addr} {zs : List (Str × Int)}
theorem kd_at {h : Heap} (kd : KD X.w X.K ga zs) (kin : X.K.In h) : ∃ kvs, KV (kvZ zs) kvs ∧ h.DictOf (mixKind X.prog X.w) ga kvs ∧ ∃ ob, h.get? ga = some ob ∧ ob.dict = none := by
  obtain ⟨o, es, ep, k1, k2, k3, k4, k5, k6, k7⟩ := kd
  obtain ⟨kvs, q1, q2, q3⟩ := dct_ok (P := X.prog) k4 k5
  have ho := kin ga o k1
  refine ⟨kvs, q2, ⟨o, es, ep, ho, k2, k3, fun e he => q3 e (by simpa using he), q1, ?_⟩, o, ho, k2.2.1⟩
  rw [kv_keys q2]
  have k6 : (zs.map (·.1)).Pairwise (· ≠ ·) := k6
  rw [List.pairwise_map] at k6
  show ((zs.map fun z => ((Sum.inr z.1 : L2.Key), V.int z.2)).map (·.1)).Pairwise (· ≠ ·)
  rw [List.pairwise_map, List.pairwise_map]
  exact k6.imp fun h e => h (Sum.inr.inj e)
theorem pe_gget (hg : Gl X x) (hm : X.mg x = some (.ref ga)) (kd : KD X.w X.K ga zs) (hd0 : (x == ("__debug__" : Str)) = false) (he : PE X e ty) (hl : (apos.endLine == cpos.line) = true) (hs : nst e = true) :
    PE X (.Call (.Attribute (.Name x gp) "get" apos) [e] [] cpos) (fun σ H Q => ty σ H fun y H1 => ∃ s, y = .str s ∧ Q (((zs.find? fun p => decide (p.1 = s)).map fun p => V.int p.2).getD .non) H1) := by
  refine ⟨fun pins s σ H Q I h => ?_⟩
  refine wpAny_Call_method (base_ok (o := .Name x gp) rfl) (by rw [star_ok hs]; rfl) hl PySem.F.plainAttrs_dict PySem.F.slot_dict_get PySem.F.type_dict_get (thn ((pe_glob (v := .ref ga) hg hm rfl hd0).run pins s σ H (fun v H1 => v = .ref ga ∧ H1 = H) I ⟨rfl, rfl⟩) fun u s1 ⟨v, H1, I1, rx, ev, eH⟩ => ?_)
  subst ev eH
  obtain rfl : u = Value.ref ga := rx
  obtain ⟨kvs, q1, q2, ob, q3, q4⟩ := kd_at kd I1.kIn
  refine ⟨q2.typeIs, fun b q => by cases q; exact ⟨ob, q3, q4⟩, ?_⟩
  rw [show backTo cpos (starEach [e] X.env) = [(false, eval e X.env)] by rw [star_ok hs]; rfl]
  refine Calls.callWith_builtin rfl (Calls.evalArgs_plain (Calls.spliced_cons (thn (he.run pins s1 σ H1 _ I1 h) fun iv s2 ⟨y, H2, I2, ry, s, ey, q5⟩ => Calls.spliced_nil ?_)))
  subst ey
  obtain ⟨kvs, q1, q2, ob, q3, q4⟩ := kd_at kd I2.kIn
  obtain ⟨_, _, _, _, _, _, _, _, _, hsm⟩ := kd
  refine call_meetsIn PySem.F.slot_dict_get q2.typeIs PySem.F.entry_dict_get (PySem.F.args_dict_get_2 _ _) (meets_dict_get (mixKind X.prog X.w) ga (kV_is (k := .inr s) ry) hsm) ⟨_, q2.mapOf, _, _, I2.tok _, ?_, q5⟩
  rw [← kvZ_val]
  exact (q1.val (.inr s)).getD rfl
theorem se_gget (hg : Gl X x) (hm : X.mg x = some (.ref ga)) (kd : KD X.w X.K ga zs) (hd0 : (x == ("__debug__" : Str)) = false) (he : SE X px W e fe) (hl : (apos.endLine == cpos.line) = true) (hs : nst e = true) :
    SE X px W (.Call (.Attribute (.Name x gp) "get" apos) [e] [] cpos) (fun ev h => (fe ev h).bind fun x h => R.of (ggtO zs x) h) :=
  PE.of (pe_gget hg hm kd hd0 he hl hs) fun σ H Q ⟨w, ev, h, p⟩ => ⟨w, ev, h, p.bind.imp fun y H1 ⟨d1, h1, w1, _, x1, v1, p1⟩ => by
    obtain ⟨d, ed, p2⟩ := p1.nobad
    unfold ggtO at ed
    cases d1 with
    | str s =>
      obtain rfl := vStr v1
      refine ⟨s, rfl, ?_⟩
      cases ed
      cases hz : zs.find? fun p => decide (p.1 = s) with
      | none => rw [hz] at p2; exact p2.done (.of (.of .non))
      | some q => rw [hz] at p2; exact p2.done (.of (.of (.int _)))
    | _ => cases ed⟩
end
end Tv
end

section
set_option autoImplicit false
set_option maxHeartbeats 1000000
/-! What own methods tell behind len, repr, ==, in; texts with a tuple shown; lists of the heap by places. -/
namespace Tv
open PySem PySem.Spec PyProof.Rows L2
section
variable {K : PySem.W.Frag} {px : Px} {W : WX} {w : Wd} {H : Hp} {e : Ev} {h : Hs} {σ : L2.St}
theorem tst_r {Q : Bool → Hp → Prop} {r : R D} (hb : ∀ d h', r = .ok d h' → ∃ k, d = .bl k) (p : Pre K px W σ relB w e h H Q (r.bind fun x h => R.of x.tru h)) : Pre K px W σ (relV K) w e h H (fun v H' => ∃ k, v = .bl k ∧ Q k H') r := by
  refine ⟨p.rr, ?_⟩
  have z := p.po
  cases r with
  | bad => exact z
  | exc x h' => exact z
  | ok d h' =>
    obtain ⟨k, rfl⟩ := hb d h' rfl
    intro v w' H' x1 x2 x3 x4
    obtain rfl := vBl x4
    exact ⟨k, rfl, z k w' H' x1 x2 x3 rfl⟩
/-- an instance, or a thing of a built-in type -/
theorem ty_of {ci : Nat} (G : SpcG K (clsA K ci)) (c : Cls K (clsA K ci)) (rr : RR K px w e h σ H) {d : D} {v : V} (hv : VT K w H d v) (q : eqY ci h d = true) :
    ((∃ p, isIns ci h d = some p) ∧ TyOf K H v (.ref (clsA K ci))) ∨ (isIns ci h d = none ∧ ∃ T, T ∈ plTy ∧ TyOf K H v (.type T)) := by
  by_cases hr : ∃ i, d = .ref i
  · obtain ⟨i, rfl⟩ := hr
    obtain ⟨p, hp⟩ := Option.isSome_iff_exists.mp (show (isIns ci h (.ref i)).isSome = true from q)
    obtain ⟨a, dx, vs, _, rfl, z1, _⟩ := rr.inst hp hv
    exact .inl ⟨⟨p, hp⟩, .ins z1 c G.cl G.gt G.tk G.ob⟩
  · have hk : d.keep = true := by cases d <;> first | rfl | cases q
    have hv := VT.keep hv hk
    refine .inr ⟨by cases d <;> first | rfl | exact absurd ⟨_, rfl⟩ hr, ?_⟩
    cases hv with
    | non => exact ⟨_, by decide, .non⟩
    | bl b => exact ⟨_, by decide, .bl b⟩
    | int i => exact ⟨_, by decide, .int i⟩
    | str s => exact ⟨_, by decide, .str s⟩
    | tup q1 r => exact ⟨_, by decide, .tup q1⟩
    | lst n q1 r => exact ⟨_, by decide, .lst q1⟩
    | dct n nd q1 => exact ⟨_, by decide, .dK q1⟩
    | ref q1 => exact absurd ⟨_, rfl⟩ hr
    | exc n l q1 => cases q
    | exb n n2 q1 q2 => cases q
end
section
variable {X : Cx} {px : Px} {W : WX} {a b c d : Expr} {fa fb fc fd : Ev → Hs → R D} {pos pos' p p' apos cpos : Pos} {es : List Expr} {fr : Ev → Hs → R (List D)} {ci k : Nat} {f m x : Str} {fA : Addr} {fdt : FuncData} {ps : List Str} {F : List D → Hs → R D}
/-- what a thing's type is -/
theorem looks_ty {M : Model} {pins : List (Addr × Obj)} {σ : L2.St} {H : Hp} {s : Shared} {v : V} {u t : Value} (I : Inv X pins σ H s) (rv : RelV v u) (ty : TyOf X.K H v t) : PySem.W.Looks M s.heap (typeOf u) t := by
  cases ty with
  | non => cases (show u = Value.none from rv); exact PySem.W.Looks.of_pure rfl
  | bl y => cases (show u = Value.bool y from rv); exact PySem.W.Looks.of_pure rfl
  | int i => obtain ⟨t, q⟩ := (show ∃ t, u = Value.int i t from rv); cases q; exact PySem.W.Looks.of_pure rfl
  | str y => obtain ⟨t, q⟩ := (show ∃ t, u = Value.str y t from rv); cases q; exact PySem.W.Looks.of_pure rfl
  | flt y => obtain ⟨t, q⟩ := (show ∃ t, u = Value.float y t from rv); cases q; exact PySem.W.Looks.of_pure rfl
  | lst ea =>
    obtain ⟨_, _, n, _, z1⟩ := I.hok _ _ ea
    cases rv
    exact PySem.W.kitAt_ty M _ ⟨_, z1, rfl⟩
  | frz ea =>
    obtain ⟨_, _, _, n, _, z1⟩ := I.hok _ _ ea
    cases rv
    exact PySem.W.kitAt_ty M _ ⟨_, z1, rfl⟩
  | tup ea =>
    obtain ⟨_, _, _, o, z1, z2, _⟩ := I.hok _ _ ea
    cases rv
    exact PySem.W.kitAt_ty M _ ⟨o, z1, z2⟩
  | dK ea =>
    obtain ⟨_, _, _, _, o, es, ep, z1, z2, _⟩ := I.hok _ _ ea
    cases rv
    exact PySem.W.kitAt_ty M _ ⟨o, z1, z2.1⟩
  | dT ea =>
    obtain ⟨_, _, _, _, o, es, ep, z1, z2, _⟩ := I.hok _ _ ea
    cases rv
    exact PySem.W.kitAt_ty M _ ⟨o, z1, z2.1⟩
  | ins ea cl ha hn htk hm =>
    obtain ⟨mA, O, _⟩ := ins_get I.hok ea
    obtain ⟨od, J, _⟩ := O.look
    cases rv
    exact J.type
/-- an own method runs behind a built-in one -/
theorem run_own {σ2 : L2.St} (G : CallG X.prog X.w X.K X.mg X.base px k fA fdt ps F) {A : Around} (hr : Room (2 * k + 4) A) (gd : A.guards = some []) (hA : A.frames = X.A.frames) (hb : Binds X.K fdt ps []) {pins : List (Addr × Obj)} {s1 : Shared} {σ : L2.St} {H1 : Hp} {Q : VK} {us : List Value} {vs : List V} {ds : List D} {w1 : Wd} {e : Ev} {h1 h2 : Hs} {d : D}
    (I1 : Inv X pins σ H1 s1) (r : Vals vs us) (v1 : VTs X.K w1 H1 ds vs) (hl : ds.length = ps.length) (rr : RR X.K px w1 e h1 σ2 H1) (hF : F ds h1 = .ok d h2)
    (q : ∀ v w' H', Ext w1 H1 w' H' → HR X.K w' h2 H' → LamX.Tabs px.T H' → VR X.K w' H' d v → Q v H') : wpAny (model X.prog X.w) A (call (.ref fA) us) (EP X pins σ Q) X.xe s1 := by
  have hl : vs.length = ps.length := by rw [← VTs.len v1]; exact hl
  have bb := hb s1 us I1.kIn (by rw [List.append_nil, ← r.length]; exact hl)
  rw [List.append_nil] at bb
  have e0 := I1.env0
  have e1 : Env0 X.prog X.w X.K X.mg X.base A X.stack s1 H1 := ⟨by rw [hA]; exact e0.frames, e0.mod, e0.bs, e0.bsz, e0.funs, e0.frf, e0.hok, e0.bare⟩
  refine wpAny_call (codeAny_mono (G A X.stack s1 H1 ⟨us, []⟩ us vs Q (fun _ _ _ => False) hr gd e1 bb r hl ⟨w1.call, h1, ds, rfl, rr.call, rr.tb, v1.hands, ?_⟩) fun r s' hq => ?_)
  · rw [hF]
    intro v w' H' y1 y2 y3 y4
    exact q v _ H' (Ext.back y1) (HR.back y1 y2) y3 (VR.weak (show (w1.back w').hp = w'.hp from rfl) (fun a z => Wd.back_forb y1 z) y4)
  · cases r with
    | error u =>
      obtain ⟨_, _, _, _, _, _, _, _, _, _, _, _, z⟩ := hq
      exact z.elim
    | ok fl =>
      cases fl with
      | ret u => exact I1.after hq
      | next => exact hq.elim
      | brk => exact hq.elim
      | cont => exact hq.elim
theorem spR_ok {h h2 : Hs} {x d : D} {ok : D → Bool} {g : D → D} {r : R D} (q : spR ci h x ok g r = .ok d h2) : ∃ p d', isIns ci h x = some p ∧ r = .ok d' h2 ∧ ok d' = true ∧ d = g d' := by
  unfold spR at q
  cases e1 : isIns ci h x with
  | none => rw [e1] at q; cases q
  | some p =>
    rw [e1] at q
    cases r with
    | ok d' h' =>
      dsimp only at q
      split at q
      · rename_i hk
        cases q
        exact ⟨p, d', rfl, rfl, hk, rfl⟩
      · cases q
    | exc y h' => cases q
    | bad => cases q
theorem spR_cs {h : Hs} {x : D} {ok : D → Bool} {g : D → D} {r : R D} : (∃ d h2, spR ci h x ok g r = .ok d h2) ∨ spR ci h x ok g r = .bad := by
  unfold spR
  split
  · split
    · split
      · exact .inl ⟨_, _, rfl⟩
      · exact .inr rfl
    · exact .inr rfl
  · exact .inr rfl
theorem Pre.spc {h : Hs} {x : D} {ok : D → Bool} {g : D → D} {r : R D} {w : Wd} {e : Ev} {H : Hp} {σ : L2.St} {Q : VK} {h0 : Hs} (p : Pre X.K px W σ (relV X.K) w e h0 H Q (spR ci h x ok g r)) :
    ∃ pp d' h2, isIns ci h x = some pp ∧ r = .ok d' h2 ∧ ok d' = true ∧ Pre X.K px W σ (relV X.K) w e h0 H Q (.ok (g d') h2) := by
  rcases spR_cs (ci := ci) (h := h) (x := x) (ok := ok) (g := g) (r := r) with ⟨d, h2, q⟩ | q
  · obtain ⟨pp, d', e1, e2, e3, rfl⟩ := spR_ok q
    rw [q] at p
    exact ⟨pp, d', h2, e1, e2, e3, p⟩
  · rw [q] at p
    exact p.po.elim
/-- what is asked of an own method -/
structure OwnM (X : Cx) (px : Px) (ci : Nat) (m : Str) (n : Nat) (F : List D → Hs → R D) : Prop where
  ex : ∃ k fA fdt ps, CallG X.prog X.w X.K X.mg X.base px k fA fdt ps F ∧ Room (2 * k + 5) X.A ∧ Meth X.K (clsA X.K ci) m fA ∧ Binds X.K fdt ps [] ∧ ps.length = n
def rOwn (K : PySem.W.Frag) (px : Px) (W : WX) (ci : Nat) (ok : D → Bool) (F : List D → Hs → R D) : List V → Hp → VK → Prop := fun vs H Q => ∃ σ w e h d x, vs = [x] ∧ VT K w H d x ∧ Pre K px W σ (relV K) w e h H Q (spR ci h d ok idD (F [d] h))
theorem bi_lnm (z : Cz X) (M : OwnM X px ci "__len__" 1 F) : CallR X (.builtin "len") (rOwn X.K px W ci okLen F) := by
  intro pins s σ H vs us Q I r q
  obtain ⟨σ', w, e, h, d, x, rfl, hv, p0⟩ := q
  obtain ⟨pp, d', h2, e1, e2, e3, p⟩ := p0.spc
  obtain ⟨kk, fA, fdt, ps, G, hr, mt, hb, hl⟩ := M.ex
  obtain ⟨a, dx, fs, _, rfl, z1, _⟩ := p.rr.inst e1 hv
  obtain ⟨ux, rfl, rx⟩ := vals1 r
  cases rx
  obtain ⟨mA, O, _⟩ := ins_get I.hok z1
  obtain ⟨od, J, _⟩ := O.look
  have run := run_own (Q := fun v H' => ∃ n : Int, v = .int n ∧ (0 ≤ n ∧ n < 2 ^ 62) ∧ Q (.int n) H') G (A := X.A.in1) hr.in1 z.gd rfl hb I (us := [.ref a]) (vs := [.ref a]) (.cons rfl .nil) (.cons hv .nil) hl.symm p.rr e2 fun v w' H' y1 y2 y3 y4 => by
    cases d' <;> first | cases e3 | skip
    rename_i n
    have y5 : v = .int n := by cases y4; rfl
    subst y5
    exact ⟨n, rfl, by simpa [okLen] using e3, p.po _ w' H' y1 y2 y3 (.of (.of y4))⟩
  refine Calls.call_function_entry kind_len plain_len entry_len (args_len1 _) ?_
  unfold Builtin.«len»
  refine wpAny_bind (m := oneArg "len" _) (wpAny_pure (wpAny_bind (m := callSpecial? (.ref a) (Str.ofString "__len__")) (PySem.W.special_fn I.kIn J mt.at_ (beq_iff_eq.mp mt.fn) (wpAny_mono run (fun r s' hr => ?_) fun _ _ y => y))))
  obtain ⟨v, H', I', rv, n, rfl, ⟨n0, n1⟩, hq⟩ := hr
  obtain ⟨t, rfl⟩ := rv
  refine wpAny_bind (wpAny_holding (wpAny_pure (wpAny_bind (wpAny_letGo ?_))))
  show wpAny _ _ (if n < 0 then _ else (if n ≥ 2 ^ 63 then _ else _)) _ _ _
  rw [if_neg (by omega), if_neg (by omega)]
  exact wpAny_bind (wpAny_mkInt (wpAny_pure ⟨_, rfl, .int n, H', I'.tok _, ⟨_, rfl⟩, hq⟩))
theorem se_lnm (z : Cz X) (M : OwnM X px ci "__len__" 1 F) (hg : Gl X "len") (hm : X.mg "len" = none) (ha : SE X px W a fa) (hs : nst a = true) :
    SE X px W (.Call (.Name "len" p) [a] [] pos) (fun e h => (fa e h).bind fun x h => spR ci h x okLen idD (F [x] h)) :=
  PE.of (pe_callB (bi_lnm z M) hg hm (by decide +kernel) (pa_cons ha pa_nil (star_ok hs)) (by decide) (by decide) (star_ok hs) rfl) fun σ H Q ⟨w, e, h, p⟩ => ⟨w, e, h, p.bind.imp fun x H1 ⟨d1, h1, w1, _, x1, v1, p1⟩ => ⟨σ, w1, e, h1, d1, x, rfl, v1, p1⟩⟩
theorem bi_rpm (z : Cz X) (M : OwnM X px ci "__repr__" 1 F) : CallR X (.builtin "repr") (rOwn X.K px W ci okStr F) := by
  intro pins s σ H vs us Q I r q
  obtain ⟨σ', w, e, h, d, x, rfl, hv, p0⟩ := q
  obtain ⟨pp, d', h2, e1, e2, e3, p⟩ := p0.spc
  obtain ⟨kk, fA, fdt, ps, G, hr, mt, hb, hl⟩ := M.ex
  obtain ⟨a, dx, fs, _, rfl, z1, _⟩ := p.rr.inst e1 hv
  obtain ⟨ux, rfl, rx⟩ := vals1 r
  cases rx
  obtain ⟨mA, O, _⟩ := ins_get I.hok z1
  obtain ⟨od, J, _⟩ := O.look
  have run := run_own (Q := fun v H' => ∃ n : Str, v = .str n ∧ Q (.str n) H') G (A := X.A.in1) hr.in1 z.gd rfl hb I (us := [.ref a]) (vs := [.ref a]) (.cons rfl .nil) (.cons hv .nil) hl.symm p.rr e2 fun v w' H' y1 y2 y3 y4 => by
    cases d' <;> first | cases e3 | skip
    rename_i n
    have y5 : v = .str n := by cases y4; rfl
    subst y5
    exact ⟨n, rfl, p.po _ w' H' y1 y2 y3 (.of (.of y4))⟩
  refine Calls.call_function_entry PySem.F.kind_repr PySem.F.plain_repr PySem.F.entry_repr (PySem.F.args_repr1 _) ?_
  unfold Builtin.«repr»
  refine wpAny_bind (m := oneArg "repr" _) (wpAny_pure (wpAny_bind (wpAny_cRoomFor (show X.A.in1.units < cLine by have := z.un; show X.A.units + 1 < cLine; omega) (wpAny_bind (wpAny_bind (J.type.here ((PySem.W.looks_findIn I.kIn mt.at_).here ?_)))))))
  show wpAny _ _ (if (some (Value.ref fA)).isNone = true then _ else _) _ _ _
  rw [if_neg (by simp)]
  refine wpAny_bind (m := callSpecialIfBound? (.ref a) (Str.ofString "__repr__") _) (PySem.W.ifBound_K I.kIn J mt.at_ mt.fn (wpAny_mono run (fun r s' hr => ?_) fun _ _ y => y))
  obtain ⟨v, H', I', rv, n, rfl, hq⟩ := hr
  obtain ⟨t, rfl⟩ := rv
  refine wpAny_bind (wpAny_isInstance (typeIs_str _ _ _) isSubtype_str_str ?_)
  have fin : wpAny (model X.prog X.w) X.A.in1 (pure (Fin.done (.ret (.str n t)))) (fun fin s' => ∃ v, fin = .done (.ret v) ∧ EP X pins σ Q v s') X.xe s' := wpAny_pure ⟨_, rfl, .str n, H', I', ⟨t, rfl⟩, hq⟩
  first
    | exact fin
    | (rw [if_pos rfl]; exact fin)
    | (simp only [if_true]; exact fin)
theorem se_rpm (z : Cz X) (M : OwnM X px ci "__repr__" 1 F) (hg : Gl X "repr") (hm : X.mg "repr" = none) (ha : SE X px W a fa) (hs : nst a = true) :
    SE X px W (.Call (.Name "repr" p) [a] [] pos) (fun e h => (fa e h).bind fun x h => spR ci h x okStr idD (F [x] h)) :=
  PE.of (pe_callB (bi_rpm z M) hg hm (by decide +kernel) (pa_cons ha pa_nil (star_ok hs)) (by decide) (by decide) (star_ok hs) rfl) fun σ H Q ⟨w, e, h, p⟩ => ⟨w, e, h, p.bind.imp fun x H1 ⟨d1, h1, w1, _, x1, v1, p1⟩ => ⟨σ, w1, e, h1, d1, x, rfl, v1, p1⟩⟩
/-! ### == and != by the own method -/
def rEqm (K : PySem.W.Frag) (px : Px) (W : WX) (n : Bool) (ci : Nat) (F : List D → Hs → R D) : R2 := fun x y H Q => ∃ σ w e h d1 d2, VT K w H d1 x ∧ VT K w H d2 y ∧ Pre K px W σ (relV K) w e h H Q (eqmR n ci h d1 d2 (F [d1, d2] h))
def eqOp : Bool → CmpOp
  | false => .Eq
  | true => .NotEq
/-- the own == of an instance, wherever it runs -/
theorem eq_run (G0 : InsG X.K X.mg ci) (z : Cz X) {k : Nat} (G : CallG X.prog X.w X.K X.mg X.base px k fA fdt ps F) {A : Around} (hr : Room (2 * k + 4) A) (gd : A.guards = some []) (hA : A.frames = X.A.frames) (mt : Meth X.K (clsA X.K ci) "__eq__" fA) (hb : Binds X.K fdt ps []) (hl : ps.length = 2)
    {pins : List (Addr × Obj)} {s : Shared} {σ σ2 : L2.St} {H : Hp} {Q : Bool → Hp → Prop} {w : Wd} {e : Ev} {h h2 : Hs} {d1 d2 d' : D} {x y : V} {u v : Value} {pp : Nat × List (Str × D)} (I : Inv X pins σ H s) (rr : RR X.K px w e h σ2 H) (rx : RelV x v) (ry : RelV y u) (hx : VT X.K w H d1 x) (hy : VT X.K w H d2 y) (e1 : isIns ci h d1 = some pp) (e2 : F [d1, d2] h = .ok d' h2) (e3 : okBl d' = true)
    (q : ∀ b w' H', d' = .bl b → Ext w H w' H' → HR X.K w' h2 H' → LamX.Tabs px.T H' → Q b H') :
    wpAny (model X.prog X.w) A (call (.ref fA) [v, u]) (EP X pins σ fun r H' => ∃ b, r = .bl b ∧ Q b H') X.xe s := by
  refine run_own (σ2 := σ2) (us := [v, u]) (vs := [x, y]) G hr gd hA hb I (.cons rx (.cons ry .nil)) (.cons hx (.cons hy .nil)) hl.symm rr e2 fun r w' H' y1 y2 y3 y4 => ?_
  cases d' <;> first | cases e3 | skip
  rename_i b
  have y5 : r = .bl b := by cases y4; rfl
  exact ⟨b, y5, q b w' H' rfl y1 y2 y3⟩
theorem ifBound_B {M : Model} {A : Around} {E : Value → Shared → Prop} {s : Shared} {K : PySem.W.Frag} {x C : Addr} {ox : Obj} {od : Option Obj} {name : Str} {id : String} {args : List Value} {Q : Option Value → Shared → Prop} (X0 : K.In s.heap) (J : PySem.W.InstAt s.heap x ox C od) (hs : PySem.W.findIn K (.ref C) name = some (some (.builtin id)))
    (hb : ∀ self, bindSpecial (.builtin id) self = pure (.builtin id, [self])) (h : wpAny M A (call (.builtin id) (.ref x :: args)) (fun v => Q (some v)) E s) : wpAny M A (callSpecialIfBound? (.ref x) name args) Q E s := by
  simp only [callSpecialIfBound?, bindSpecialIfBound?]
  have tl : wpAny M A (call (.builtin id) ([.ref x] ++ args) >>= fun v => pure (some v)) Q E s := wpAny_bind (wpAny_mono h (fun v s' z => wpAny_pure z) fun _ _ z => z)
  have bd : PySem.W.Looks M s.heap (bindSpecial (.builtin id) (.ref x)) (.builtin id, [.ref x]) := PySem.W.Looks.of_pure (hb _)
  refine wpAny_holding (wpAny_bind (wpAny_bind (wpAny_bind (J.type.here ((PySem.W.looks_findIn X0 hs).here (wpAny_bind (wpAny_askSetting (wpAny_ite ?_))))))))
  split <;> first
    | exact wpAny_bind (bd.here (wpAny_pure (by exact tl)))
    | exact wpAny_tryCatch (wpAny_bind (bd.here (wpAny_pure (by exact tl))))
theorem cmp_B {prog : Program} {wo : World} {A : Around} {E : Value → Shared → Prop} {s : Shared} {K : PySem.W.Frag} {x C : Addr} {ox : Obj} {od : Option Obj} {op : CmpOp} {b tb : Value} {id : String} {Q : Value → Shared → Prop} (hu : A.units < cLine) (X0 : K.In s.heap) (J : PySem.W.InstAt s.heap x ox C od) (hb : PySem.W.Looks (model prog wo) s.heap (typeOf b) tb) (hn : PySem.W.notFirst K C tb = true)
    (hs : PySem.W.findIn K (.ref C) (cmpInfo op).2.1 = some (some (.builtin id))) (bi : ∀ self, bindSpecial (.builtin id) self = pure (.builtin id, [self])) (h : wpAny (model prog wo) A (call (.builtin id) [.ref x, b]) (PySem.W.CmpBack Q) E s) : wpAny (model prog wo) A (richCompare op (.ref x) b) Q E s := by
  have one : wpAny (model prog wo) A (tryCompare (.ref x) (cmpInfo op).2.1 b) (fun r s' => ∃ v, r = some v ∧ Q v s') E s := by
    unfold tryCompare
    refine wpAny_bind (ifBound_B X0 J hs bi (wpAny_mono h (fun v s' hv => ?_) fun _ _ z => z))
    cases v <;> first | exact hv.elim | exact wpAny_pure ⟨_, rfl, hv⟩
  have fin : ∀ {r : Option Value} {s' : Shared}, (∃ v, r = some v ∧ Q v s') → ∃ v, r = some v ∧ Q v s' := fun z => z
  unfold richCompare
  simp only [oneThing_ref]
  refine wpAny_holding (wpAny_bind (wpAny_cRoomFor hu (wpAny_bind (J.type.here (wpAny_bind (hb.here ?_))))))
  by_cases q : (Value.ref C != tb) = true
  · have e : PySem.W.subIn K tb (.ref C) = some false := by
      rcases Bool.or_eq_true_iff.mp hn with e | e
      · rw [beq_iff_eq.mp e] at q; simp at q
      · exact beq_iff_eq.mp e
    rw [if_pos (by simpa [bne_comm] using q)]
    refine wpAny_bind ((PySem.W.looks_subIn X0 e).here ?_)
    simp only [Bool.false_eq_true, if_false]
    refine wpAny_bind (wpAny_mono one (fun r s' z => ?_) fun _ _ z => z)
    obtain ⟨v, rfl, hq⟩ := z; exact wpAny_pure hq
  · rw [if_neg (by simpa [bne_comm] using q)]
    refine wpAny_bind (wpAny_pure ?_)
    simp only [Bool.false_eq_true, if_false]
    refine wpAny_bind (wpAny_mono one (fun r s' z => ?_) fun _ _ z => z)
    obtain ⟨v, rfl, hq⟩ := z; exact wpAny_pure hq
theorem op_eqm {n : Bool} (G0 : InsG X.K X.mg ci) (z : Cz X) (M : OwnM X px ci "__eq__" 2 F) : OpR X (compareOp (eqOp n)) (rEqm X.K px W n ci F) := by
  intro pins s σ H x y v u Q I rx ry q
  obtain ⟨σ', w, e, h, d1, d2, v1, v2, p0⟩ := q
  unfold eqmR at p0
  split at p0
  case isFalse => exact p0.po.elim
  rename_i hy
  obtain ⟨pp, d', h2, e1, e2, e3, p⟩ := p0.spc
  obtain ⟨kk, fA, fdt, ps, G, hr, mt, hb, hl⟩ := M.ex
  obtain ⟨a, dx, fs, _, rfl, z1, _⟩ := p.rr.inst e1 v1
  obtain rfl : v = Value.ref a := rx
  obtain ⟨mA, O, _⟩ := ins_get I.hok z1
  obtain ⟨od, J, _⟩ := O.look
  have ty : ∃ t, TyOf X.K H y t ∧ PySem.W.notFirst X.K (clsA X.K ci) t = true := by
    rcases ty_of G0.sp G0.cls p.rr v2 hy with ⟨_, q⟩ | ⟨_, T, hT, q⟩
    · exact ⟨_, q, by simp [PySem.W.notFirst]⟩
    · exact ⟨_, q, by unfold PySem.W.notFirst; rw [G0.sp.sub T hT]; simp⟩
  obtain ⟨t, ty, nf⟩ := ty
  have lk : PySem.W.Looks (model X.prog X.w) s.heap (typeOf u) t := looks_ty I ry ty
  obtain ⟨m, hF⟩ := I.fr
  cases n with
  | false =>
    have run := eq_run (Q := fun b H' => Q (.bl b) H') G0 z G (A := X.A) (hr.mono (by omega)) z.gd rfl mt hb hl I p.rr (x := .ref a) (v := .ref a) rfl ry v1 v2 e1 e2 e3 fun b w' H' eb y1 y2 y3 => by
      subst eb
      have p2 : Pre X.K px W σ' (relV X.K) w e h H Q (.ok (.bl b) h2) := by
        have q : negD false (.bl b) = .bl b := by cases b <;> rfl
        rw [← q]; exact p
      exact p2.po (.bl b) w' H' y1 y2 y3 (.of (.of (.bl b)))
    refine PySem.W.cmp_K (op := .Eq) hr.units0 hF I.ok.mod.kin J lk nf mt.at_ mt.fn (wpAny_mono run (fun r s' hq => ?_) fun _ _ y => y)
    obtain ⟨r', H', I', rv, b, rfl, hq⟩ := hq
    cases rv
    exact ⟨.bl b, H', I', rfl, hq⟩
  | true =>
    have run := eq_run (Q := fun b H' => Q (.bl (!b)) H') G0 z G (A := X.A.in1) hr.in1 z.gd rfl mt hb hl I p.rr (x := .ref a) (v := .ref a) rfl ry v1 v2 e1 e2 e3 fun b w' H' eb y1 y2 y3 => by
      subst eb
      have p2 : Pre X.K px W σ' (relV X.K) w e h H Q (.ok (.bl (!b)) h2) := by
        have q : negD true (.bl b) = .bl (!b) := by cases b <;> rfl
        rw [← q]; exact p
      exact p2.po (.bl (!b)) w' H' y1 y2 y3 (.of (.of (.bl _)))
    have X0 := I.kIn
    have big : X.A.in1.units < cLine := by have := z.un; show X.A.units + 1 < cLine; omega
    have cl : wpAny (model X.prog X.w) X.A (call (.builtin "object.__ne__") [.ref a, u]) (fun v s' => ∃ b, v = .bool b ∧ EP X pins σ Q (.bool b) s') X.xe s := by
      refine wpAny_call (codeAny_call_builtin PySem.F.cmp_object.ne.plain PySem.F.cmpEntry_ne (PySem.W.check_slot (i := "object.__ne__") (owner := "object") (n := "__ne__") PySem.F.cmpKind_ne PySem.F.cmpSplit_ne (J.type.andThen (PySem.W.looks_mroIn X0 G0.sp.ob)) (PySem.F.cmpArgs_ne _ _) ?_))
      unfold Builtin.«object.__ne__»
      refine wpAny_bind (m := slotArgs "__ne__" 1 _) (wpAny_pure (wpAny_bind (wpAny_cRoomFor big ?_)))
      refine wpAny_bind (m := callSpecialIfBound? (.ref a) (Str.ofString "__eq__") [u]) (PySem.W.ifBound_K X0 J mt.at_ mt.fn (wpAny_mono run (fun r s' hq => ?_) fun _ _ y => y))
      obtain ⟨r', H', I', rv, b, rfl, hq⟩ := hq
      cases rv
      exact wpAny_bind (wpAny_truthy_bool (wpAny_pure ⟨_, rfl, ⟨.bl (!b), H', I', rfl, hq⟩⟩))
    have z1 : wpAny (model X.prog X.w) X.A (call (.builtin "object.__ne__") [.ref a, u]) (PySem.W.CmpBack (EP X pins σ Q)) X.xe s := wpAny_mono cl (fun v s' hv => by
      obtain ⟨b, eb, hq⟩ := hv
      subst eb
      exact hq) fun _ _ y => y
    have hne : PySem.W.findIn X.K (.ref (clsA X.K ci)) (cmpInfo .NotEq).2.1 = some (some (.builtin "object.__ne__")) := G0.sp.ne
    have z2 : wpAny (model X.prog X.w) X.A (richCompare .NotEq (.ref a) u) (EP X pins σ Q) X.xe s := cmp_B hr.units0 X0 J lk nf hne PySem.F.cmp_object.ne.bind z1
    exact z2
/-- the own == of an instance against a thing -/
theorem rich_own (G0 : InsG X.K X.mg ci) (z : Cz X) {k : Nat} (G : CallG X.prog X.w X.K X.mg X.base px k fA fdt ps F) {A : Around} (hr : Room (2 * k + 4) A) (gd : A.guards = some []) (hA : A.frames = X.A.frames) (mt : Meth X.K (clsA X.K ci) "__eq__" fA) (hb : Binds X.K fdt ps []) (hl : ps.length = 2)
    {pins : List (Addr × Obj)} {s : Shared} {σ σ2 : L2.St} {H : Hp} {Q : Bool → Hp → Prop} {w : Wd} {e : Ev} {h h2 : Hs} {d1 d2 d' : D} {x y : V} {u v : Value} {pp : Nat × List (Str × D)} (I : Inv X pins σ H s) (rr : RR X.K px w e h σ2 H) (rx : RelV x v) (ry : RelV y u) (hx : VT X.K w H d1 x) (hy : VT X.K w H d2 y) (hq : eqY ci h d2 = true) (e1 : isIns ci h d1 = some pp) (e2 : F [d1, d2] h = .ok d' h2) (e3 : okBl d' = true)
    (q : ∀ b w' H', d' = .bl b → Ext w H w' H' → HR X.K w' h2 H' → LamX.Tabs px.T H' → Q b H') :
    wpAny (model X.prog X.w) A (richCompare .Eq v u) (fun r s' => ∃ b, r = .bool b ∧ ∃ H', Inv X pins σ H' s' ∧ Q b H') X.xe s := by
  obtain ⟨a, dx, fs, _, rfl, z1, _⟩ := rr.inst e1 hx
  obtain rfl : v = Value.ref a := rx
  obtain ⟨mA, O, _⟩ := ins_get I.hok z1
  obtain ⟨od, J, _⟩ := O.look
  have ty : ∃ t, TyOf X.K H y t ∧ PySem.W.notFirst X.K (clsA X.K ci) t = true := by
    rcases ty_of G0.sp G0.cls rr hy hq with ⟨_, q⟩ | ⟨_, T, hT, q⟩
    · exact ⟨_, q, by simp [PySem.W.notFirst]⟩
    · exact ⟨_, q, by unfold PySem.W.notFirst; rw [G0.sp.sub T hT]; simp⟩
  obtain ⟨t, ty, nf⟩ := ty
  obtain ⟨m, hF⟩ := I.fr
  have run := eq_run G0 z G hr gd hA mt hb hl I rr (x := .ref a) (v := .ref a) rfl ry hx hy e1 e2 e3 q
  refine PySem.W.cmp_K (op := .Eq) hr.units0 hF I.ok.mod.kin J (looks_ty I ry ty) nf mt.at_ mt.fn (wpAny_mono run (fun r s' hq => ?_) fun _ _ y => y)
  obtain ⟨r', H', I', rv, b, rfl, hq⟩ := hq
  cases rv
  exact ⟨b, rfl, H', I', hq⟩
def fEqm (n : Bool) (ci : Nat) (F : List D → Hs → R D) (fa fb : Ev → Hs → R D) : Ev → Hs → R D := fun e h => (fa e h).bind fun x h => (fb e h).bind fun y h => eqmR n ci h x y (F [x, y] h)
theorem eqm_bl {n : Bool} {h h' : Hs} {x y d : D} {r : R D} (q : eqmR n ci h x y r = .ok d h') : ∃ k, d = .bl k := by
  unfold eqmR at q
  split at q
  · obtain ⟨pp, d', _, _, e3, rfl⟩ := spR_ok q
    cases d' <;> first | (cases e3; done) | (unfold negD; exact ⟨_, rfl⟩)
  · cases q
theorem se_eqm {n : Bool} (G0 : InsG X.K X.mg ci) (z : Cz X) (M : OwnM X px ci "__eq__" 2 F) (ha : SE X px W a fa) (hb : SE X px W b fb) (hm : behindInMarks (eqOp n) b = false) : SE X px W (.Compare a [eqOp n] [b] pos) (fEqm n ci F fa fb) :=
  PE.of (pe_cmpR (op_eqm G0 z M) ha hb hm) fun σ H Q ⟨w, e, h, p⟩ => ⟨w, e, h, p.bind.imp fun x H1 ⟨d1, h1, w1, _, x1, v1, p1⟩ => ⟨w1, e, h1, p1.bind.imp fun y H2 ⟨d2, h2, w2, _, x2, v2, p2⟩ => ⟨σ, w2, e, h2, d1, d2, v1.ext x2, v2, p2⟩⟩⟩
theorem tst_two {g : D → D → Hs → R D} {σ : L2.St} {H : Hp} {Q : Bool → Hp → Prop} {w : Wd} {e : Ev} {h : Hs} (p : Pre X.K px W σ relB w e h H Q (tst (fun e h => (fa e h).bind fun x h => (fb e h).bind fun y h => g x y h) e h)) :
    Pre X.K px W σ relB w e h H Q ((fa e h).bind fun x h => (fb e h).bind fun y h => (g x y h).bind fun x h => R.of x.tru h) := by
  unfold tst at p
  dsimp only at p
  rw [R.bind_assoc] at p
  have q : (fun a1 h1 => ((fb e h1).bind fun y h => g a1 y h).bind fun x h => R.of x.tru h) = fun x h => (fb e h).bind fun y h => (g x y h).bind fun x h => R.of x.tru h := by
    funext a1 h1
    rw [R.bind_assoc]
  rw [q] at p
  exact p
theorem st_eqm {n : Bool} (G0 : InsG X.K X.mg ci) (z : Cz X) (M : OwnM X px ci "__eq__" 2 F) (ha : SE X px W a fa) (hb : SE X px W b fb) (hm : behindInMarks (eqOp n) b = false) : ST X px W (.Compare a [eqOp n] [b] pos) (fEqm n ci F fa fb) := by
  refine PT.of (pt_cmpR (op_eqm (W := W) G0 z M) ha hb hm) fun σ H Q ⟨w, e, h, p⟩ => ?_
  have p := tst_two p
  exact ⟨w, e, h, p.bind.imp fun x H1 ⟨d1, h1, w1, _, x1, v1, p1⟩ => ⟨w1, e, h1, p1.bind.imp fun y H2 ⟨d2, h2, w2, _, x2, v2, p2⟩ => ⟨σ, w2, e, h2, d1, d2, v1.ext x2, v2, tst_r (fun _ _ q => eqm_bl q) p2⟩⟩⟩
/-! ### in a list of one instance -/
theorem eqb_of {prog : Program} {wo : World} {A : Around} {E : Value → Shared → Prop} {s : Shared} {a : Addr} {v : Value} {Q : Bool → Shared → Prop} (ne : v ≠ .ref a) (h : wpAny (model prog wo) A (richCompare .Eq (.ref a) v) (fun r s' => ∃ b, r = .bool b ∧ Q b s') E s) : wpAny (model prog wo) A (eqBool (.ref a) v) Q E s := by
  unfold eqBool
  have tl : wpAny (model prog wo) A (richCompare .Eq (.ref a) v >>= fun r => truthOfDropped r) Q E s := wpAny_bind (wpAny_mono h (fun r s' hr => by
    obtain ⟨b, rfl, q⟩ := hr
    exact wpAny_truthy_bool q) fun _ _ z => z)
  refine wpAny_holding (wpAny_ite_split (fun z => absurd (eq_of_beq z).symm ne) fun _ => ?_)
  cases v <;> exact tl
section
open AutoSeq1 (wpAny_loadPart')
open MeetsSeq MeetsSeq2 MeetsSeq3 SeqRoads2
theorem loop_none {prog : Program} {wo : World} {A : Around} {R : Result → Shared → Prop} {l : Addr} {x : Value} {items : Array Value} {n i : Nat} {s : Shared} (hl : s.heap.get? l = some { cls := .type "list", data := .seq items n }) (hi : items[i]? = none)
    (h : R (.ok (.ret (.bool false))) s) : wpAny (model prog wo) A.in1 (Builtin.«list.__contains__.loop» ⟨[.ref l, x, rawInt i], []⟩) (fun fin s' => match fin with | .done f => R (.ok f) s' | .again c' => c'.quiet = true ∧ codeAny (model prog wo) A c' R s') (fun e s' => R (.error e) s') s := by
  obtain ⟨hp, g, d, tk, os⟩ := s
  wp_walk using wpAny_loadPart' hl
  rw [show items[((i : Nat) : Int).toNat]? = none from by simpa using hi]
  wp_walk
  exact h
theorem loop_one {prog : Program} {wo : World} {A : Around} {R : Result → Shared → Prop} {l : Addr} {y x : Value} {items : Array Value} {n i : Nat} {s : Shared} (hl : s.heap.get? l = some { cls := .type "list", data := .seq items n }) (hi : items[i]? = some y) (hn : items[i + 1]? = none)
    (h : wpAny (model prog wo) A.in1 (eqBool y x) (fun b s' => (∃ n', s'.heap.get? l = some { cls := .type "list", data := .seq items n' }) ∧ R (.ok (.ret (.bool b))) s') (fun e s' => R (.error e) s') s) :
    wpAny (model prog wo) A.in1 (Builtin.«list.__contains__.loop» ⟨[.ref l, x, rawInt i], []⟩) (fun fin s' => match fin with | .done f => R (.ok f) s' | .again c' => c'.quiet = true ∧ codeAny (model prog wo) A c' R s') (fun e s' => R (.error e) s') s := by
  obtain ⟨hp, g, d, tk, os⟩ := s
  wp_walk using wpAny_loadPart' hl
  rw [show items[((i : Nat) : Int).toNat]? = some y from by simpa using hi]
  refine wpAny_bind (wpAny_mono h (fun b s' hb => ?_) fun _ _ z => z)
  obtain ⟨⟨n', hl'⟩, hb⟩ := hb
  cases b with
  | true => wp_walk; exact hb
  | false =>
    have hc : ((i : Int) + 1) = ((i + 1 : Nat) : Int) := by omega
    obtain ⟨hp2, g2, d2, tk2, os2⟩ := s'
    wp_walk
    rw [hc]
    refine ⟨plainId_quiet plain_contains_loop _, codeAny_builtin entry_contains_loop ?_⟩
    rw [Around.under_plainId plain_contains_loop _]
    exact loop_none hl' hn hb
theorem contains_one {prog : Program} {wo : World} {A : Around} {R : Result → Shared → Prop} {l : Addr} {y x : Value} {n : Nat} {s : Shared} (hl : s.heap.get? l = some { cls := .type "list", data := .seq #[y] n })
    (h : wpAny (model prog wo) A.in1 (eqBool y x) (fun b s' => (∃ n', s'.heap.get? l = some { cls := .type "list", data := .seq #[y] n' }) ∧ R (.ok (.ret (.bool b))) s') (fun e s' => R (.error e) s') s) :
    wpAny (model prog wo) A.in1 (Builtin.«list.__contains__» ⟨[.ref l, x], []⟩) (fun fin s' => match fin with | .done f => R (.ok f) s' | .again c' => c'.quiet = true ∧ codeAny (model prog wo) A c' R s') (fun e s' => R (.error e) s') s := by
  obtain ⟨hp, g, d, tk, os⟩ := s
  wp_walk using wpAny_loadPart' hl
  refine ⟨plainId_quiet plain_contains_loop _, codeAny_builtin entry_contains_loop ?_⟩
  rw [Around.under_plainId plain_contains_loop _]
  exact loop_one (i := 0) hl rfl rfl h
end
def rInm (K : PySem.W.Frag) (px : Px) (W : WX) (ci : Nat) (F : List D → Hs → R D) : R2 := fun x y H Q => ∃ σ w e h d1 d2 l u, y = .ref l ∧ H l = some (.lst [u]) ∧ l ∉ w.hp ∧ VT K w H d1 x ∧ VT K w H d2 u ∧ Pre K px W σ (relV K) w e h H Q (inmR ci h d1 d2 (F [d2, d1] h))
theorem inm_bl {h h' : Hs} {x y d : D} {r : R D} (q : inmR ci h x y r = .ok d h') : ∃ k, d = .bl k := by
  unfold inmR at q
  split at q
  · split at q
    · split at q
      · cases q; exact ⟨_, rfl⟩
      · cases q
    · obtain ⟨pp, d', _, _, e3, ed⟩ := spR_ok q
      subst ed
      cases d <;> first | (cases e3; done) | exact ⟨_, rfl⟩
  · cases q
theorem op_inm (G0 : InsG X.K X.mg ci) (z : Cz X) (M : OwnM X px ci "__eq__" 2 F) : OpR X (compareOp .In) (rInm X.K px W ci F) := by
  intro pins s σ H x y v u Q I rx ry q
  obtain ⟨σ', w, e, h, d1, d2, l, yv, rfl, hl, nl, v1, v2, p0⟩ := q
  obtain rfl : u = Value.ref l := ry
  obtain ⟨_, its, n, rv, el⟩ := I.hok l _ hl
  obtain ⟨uy, rfl, ry⟩ := vals1 rv
  unfold inmR at p0
  split at p0
  case isFalse => exact p0.po.elim
  rename_i hx
  have go : wpAny (model X.prog X.w) X.A.in1 (eqBool uy v) (fun b s' => (∃ n', s'.heap.get? l = some { cls := .type "list", data := .seq [uy].toArray n' }) ∧ EP X pins σ Q (.bool b) s') X.xe s := by
    split at p0
    · rename_i hs
      split at p0
      case isFalse => exact p0.po.elim
      obtain ⟨i, rfl, rfl⟩ : ∃ i, d1 = .ref i ∧ d2 = .ref i := by
        unfold sameR at hs
        split at hs
        · rw [beq_iff_eq] at hs; subst hs; exact ⟨_, rfl, rfl⟩
        · cases hs
      obtain ⟨a1, rfl, k1⟩ := ref_hp (ref_at v1)
      obtain ⟨a2, rfl, k2⟩ := ref_hp (ref_at v2)
      rw [k1] at k2
      cases k2
      cases rx
      cases ry
      exact SeqAt.EqAt.same (A := X.A.in1) (s := s) (.ref a1) X.prog X.w X.xe _ ⟨⟨_, el⟩, .bl true, H, I, rfl, p0.done (.of (.of (.bl true)))⟩
    · rename_i hs
      obtain ⟨pp, d', h2, e1, e2, e3, p⟩ := p0.spc
      obtain ⟨kk, fA, fdt, ps, G, hr, mt, hb, hlen⟩ := M.ex
      obtain ⟨a, dx, fs, ed2, rfl, z1, _⟩ := p.rr.inst e1 v2
      obtain rfl : uy = Value.ref a := ry
      have ne : v ≠ .ref a := by
        intro ev
        subst ev
        obtain ⟨a3, rfl⟩ : ∃ a3, x = V.ref a3 := by cases x <;> first | exact ⟨_, rfl⟩ | (cases rx; done) | (obtain ⟨_, q⟩ := rx; cases q; done)
        cases rx
        rcases ty_of G0.sp G0.cls p.rr v1 hx with ⟨⟨p1, hp1⟩, _⟩ | ⟨hn, T, hT, q⟩
        · obtain ⟨a4, _, _, ed1, ea, _⟩ := p.rr.inst hp1 v1
          cases ea
          rw [ed1, ed2] at hs
          rw [ed1] at v1
          rw [ed2] at v2
          obtain ⟨_, ea1, k1⟩ := ref_hp (ref_at v1)
          obtain ⟨_, ea2, k2⟩ := ref_hp (ref_at v2)
          cases ea1
          cases ea2
          have := (List.getElem_inj p.rr.hr.nd (h₀ := (List.getElem?_eq_some_iff.mp k1).1) (h₁ := (List.getElem?_eq_some_iff.mp k2).1)).mp ((List.getElem?_eq_some_iff.mp k1).2.trans (List.getElem?_eq_some_iff.mp k2).2.symm)
          rw [this] at hs
          exact hs (by unfold sameR; simp)
        · cases q <;> (rename_i q; rw [z1] at q; cases q)
      have run := rich_own (Q := fun b H' => H' l = some (.lst [.ref a]) ∧ Q (.bl b) H') G0 z G (A := X.A.in1) hr.in1 z.gd rfl mt hb hlen I p.rr (x := .ref a) (v := .ref a) rfl rx v2 v1 hx e1 e2 e3 fun b w' H' eb y1 y2 y3 => by
        subst eb
        exact ⟨y1.keep l _ hl nl (fun ps z => by cases z), p.po (.bl b) w' H' y1 y2 y3 (.of (.of (.bl b)))⟩
      refine eqb_of ne (wpAny_mono run (fun r s' hq => ?_) fun _ _ y => y)
      obtain ⟨b, rfl, H', I', k1, k2⟩ := hq
      obtain ⟨_, its', n', rv', el'⟩ := I'.hok l _ k1
      obtain ⟨uy', rfl, ry'⟩ := vals1 rv'
      cases ry'
      exact ⟨b, rfl, ⟨_, el'⟩, .bl b, H', I', rfl, k2⟩
  show wpAny (model X.prog X.w) X.A (do return .bool (← contains (.ref l) v)) (EP X pins σ Q) X.xe s
  refine wpAny_bind (wpAny_contains_slot (T := "list") ⟨_, el, rfl⟩ PySem.F.slot_list_contains (wpAny_call (codeAny_call_builtin PySem.F.slot_list_contains.plain PySem.F.entry_list_contains (PySem.F.slot_list_contains.check _ _ _ _ _ _ _ _ ⟨_, el, rfl⟩ (PySem.F.args_list_contains_2 _ _) ?_))))
  refine contains_one (R := wants (fun r s' => wpAny (model X.prog X.w) X.A (truthy r) (fun b s'' => wpAny (model X.prog X.w) X.A (pure (Value.bool b)) (EP X pins σ Q) X.xe s'') X.xe s') X.xe) el (wpAny_mono go (fun b s' hb => ?_) fun _ _ y => y)
  obtain ⟨h1, h2⟩ := hb
  exact ⟨h1, wpAny_truthy_bool (wpAny_pure h2)⟩
def fInm (ci : Nat) (F : List D → Hs → R D) (fa fb : Ev → Hs → R D) : Ev → Hs → R D := fun e h => (fa e h).bind fun x h => (fb e h).bind fun y h => inmR ci h x y (F [y, x] h)
theorem pre_inm {σ : L2.St} {w : Wd} {e : Ev} {h : Hs} {H : Hp} {Q : VK} {d1 d2 : D} {x y : V} {r : R D} (v1 : VT X.K w H d1 x) (v2 : VT X.K w H d2 y) (er : inmR ci h d1 d2 (F [d2, d1] h) = r) (p : Pre X.K px W σ (relV X.K) w e h H Q r) : [y].length ≤ sizeLine ∧ ∀ l, H l = none → rInm X.K px W ci F x (.ref l) (upd H l (.lst [y])) Q := by
  subst er
  refine ⟨by simp [sizeLine_eq], fun l hl => ⟨σ, w, e, h, d1, d2, l, y, rfl, upd_same, fun z => (p.rr.free hl) (.inl z), v1.ext (Ext.new hl p.rr.hr), v2.ext (Ext.new hl p.rr.hr), p.later (Ext.new hl p.rr.hr) (p.rr.new hl).hr (p.rr.new hl).tb⟩⟩
theorem se_inm (G0 : InsG X.K X.mg ci) (z : Cz X) (M : OwnM X px ci "__eq__" 2 F) (ha : SE X px W a fa) (hb : SE X px W b fb) (hs : nst b = true) : SE X px W (.Compare a [.In] [.List [b] p] pos) (fInm ci F fa fb) :=
  PE.of (pe_cmpR (op_inm (W := W) G0 z M) ha (pe_lst (pa_cons hb pa_nil (star_ok hs))) rfl) fun σ H Q ⟨w, e, h, p⟩ => ⟨w, e, h, p.bind.imp fun x H1 ⟨d1, h1, w1, _, x1, v1, p1⟩ => ⟨w1, e, h1, p1.bind.imp fun y H2 ⟨d2, h2, w2, _, x2, v2, p2⟩ => pre_inm (v1.ext x2) v2 rfl p2⟩⟩
theorem st_inm (G0 : InsG X.K X.mg ci) (z : Cz X) (M : OwnM X px ci "__eq__" 2 F) (ha : SE X px W a fa) (hb : SE X px W b fb) (hs : nst b = true) : ST X px W (.Compare a [.In] [.List [b] p] pos) (fInm ci F fa fb) := by
  refine PT.of (pt_cmpR (op_inm (W := W) G0 z M) ha (pe_lst (pa_cons hb pa_nil (star_ok hs))) rfl) fun σ H Q ⟨w, e, h, p⟩ => ?_
  have p := tst_two p
  exact ⟨w, e, h, p.bind.imp fun x H1 ⟨d1, h1, w1, _, x1, v1, p1⟩ => ⟨w1, e, h1, p1.bind.imp fun y H2 ⟨d2, h2, w2, _, x2, v2, p2⟩ => pre_inm (v1.ext x2) v2 rfl (tst_r (fun _ _ q => inm_bl q) p2)⟩⟩
/-! ### isinstance of the own class -/
theorem se_isc (G0 : InsG X.K X.mg ci) (hg : Gl X "isinstance") (hm : X.mg "isinstance" = none) (hgc : Gl X x) (hmc : x = clN ci) (hd : (x == ("__debug__" : Str)) = false) (ha : SE X px W a fa) (hs : nst a = true) :
    SE X px W (.Call (.Name "isinstance" p) [a, .Name x p'] [] pos) (fun e h => (fa e h).bind fun x h => R.of (iscO ci h x) h) := by
  have hc : CallR X (.builtin "isinstance") (fun vs H Q => ∃ σ w e h d v, vs = [v, .ref (clsA X.K ci)] ∧ VT X.K w H d v ∧ Pre X.K px W σ (relV X.K) w e h H Q (R.of (iscO ci h d) h)) := by
    intro pins s σ H vs us Q I r q
    obtain ⟨σ', w, e, h, d, v, rfl, hv, p0⟩ := q
    obtain ⟨d', ed, p⟩ := p0.nobad
    obtain ⟨u1, u2, rfl, r1, r2⟩ := vals2 r
    obtain rfl : u2 = Value.ref (clsA X.K ci) := r2
    unfold iscO at ed
    split at ed
    case isFalse => cases ed
    rename_i hq
    cases ed
    rcases ty_of G0.sp G0.cls p.rr hv hq with ⟨⟨pp, hp⟩, ty⟩ | ⟨hn, T, hT, ty⟩
    · have ek : PySem.W.kitOne X.K (.ref (clsA X.K ci)) (.ref (clsA X.K ci)) = some true := by unfold PySem.W.kitOne; simp
      rw [hp] at p
      exact isinst_ok I r1 ty ek fun tk => ⟨.bl true, H, I.tok tk, rfl, p.done (.of (.of (.bl true)))⟩
    · rw [hn] at p
      exact isinst_ok I r1 ty (G0.sp.kit T hT) fun tk => ⟨.bl false, H, I.tok tk, rfl, p.done (.of (.of (.bl false)))⟩
  have hta : PA X [.Name x p'] (tCons (tC (.ref (clsA X.K ci))) tNil) := pa_cons (pe_glob (v := .ref (clsA X.K ci)) hgc (by rw [hmc]; exact G0.mg) rfl hd) pa_nil
  refine PE.of (pe_callB hc hg hm (by decide +kernel) (pa_cons ha hta (star_ok hs)) (by decide) (by decide) (star_ok hs)) fun σ H Q ⟨w, e, h, p⟩ => ?_
  exact ⟨w, e, h, p.bind.imp fun v H1 ⟨d1, h1, w1, _, x1, v1, p1⟩ => ⟨σ, w1, e, h1, d1, v, rfl, v1, p1⟩⟩
/-! ### a text with a tuple shown -/
def tFst (K : PySem.W.Frag) (px : Px) (W : WX) (s t : Str) (ta : TE) : TE := fun σ H Q => ta σ H fun x H1 => ∃ σ' w e h d, VT K w H1 d x ∧ Pre K px W σ' (relV K) w e h H1 (fun v H2 => ∀ y : Str, v = .str (s ++ y ++ t) → y.length + s.length + t.length ≤ 1000000 → Q (.str y) H2) (R.of (fstO s t d) h)
theorem pe_fst (z : Cz X) {s t : Str} {ta : TE} (ha : PE X a ta) : PE X (.FormattedValue a (-1) none pos) (tFst X.K px W s t ta) := by
  refine ⟨fun pins s0 σ H Q I h => ?_⟩
  refine wpAny_FormattedValue_plain (thn (ha.run pins s0 σ H _ I h) fun v s1 hv => ?_)
  obtain ⟨x, H1, I1, r1, σ', w, e, hh, d, hv, p0⟩ := hv
  obtain ⟨d', ed, p⟩ := p0.nobad
  unfold fstO at ed
  split at ed
  case h_2 => cases ed
  rename_i ds
  split at ed
  case isFalse => cases ed
  rename_i hs
  cases ed
  simp only [D.shows, Bool.and_eq_true, decide_eq_true_eq] at hs
  obtain ⟨⟨⟨⟨h1, h2⟩, h3⟩, h4⟩, h5⟩ := hs
  obtain ⟨a1, xs, rfl, hT, hr⟩ := vTup hv
  cases r1
  obtain ⟨as, rd, ht⟩ := hv.readsT I1 rfl h1
  have q := p.done (.of (.of (.str _))) _ rfl h5
  refine formatField_of_reads rd h2 (fun _ => z.noSys I1 ht) z.gd (by have := z.un; omega) (fun _ _ e => e) (fun h' u tk hk => ?_) (by rw [sizeLine_eq]; omega)
  exact ⟨.str _, H1, I1.kept (t' := tk) hk, ⟨_, rfl⟩, q⟩
theorem se_fst (z : Cz X) {s t : Str} {k1 k2 : Nat} {p1 p2 p3 : Pos} (hs : s.length ≤ 1000) (ha : SE X px W a fa) :
    SE X px W (.JoinedStr [.Constant (.str s) k1 p1, .FormattedValue a (-1) none p2, .Constant (.str t) k2 p3] pos) (fun e h => (fa e h).bind fun x h => R.of (fstO s t x) h) := by
  refine PE.of (pe_joined (.cons pe_str (.cons (pe_fst (W := W) (px := px) z (s := s) (t := t) ha) (.cons pe_str .nil)))) fun σ H Q ⟨w, e, h, p⟩ => ?_
  have l0 : (Str.empty ++ s).length = s.length := by rw [Str.empty_append]
  refine ⟨s, rfl, by rw [l0, sizeLine_eq]; omega, w, e, h, p.bind.imp fun x H1 ⟨d1, h1, w1, _, x1, v1, p1⟩ => ⟨σ, w1, e, h1, d1, v1, p1.imp fun v H2 q y ey hy => ?_⟩⟩
  refine ⟨y, rfl, by rw [Str.empty_append, Str.length_append, sizeLine_eq]; omega, t, rfl, by rw [Str.empty_append, Str.length_append, Str.length_append, sizeLine_eq]; omega, ?_⟩
  show Q (.str (Str.empty ++ s ++ y ++ t)) H2
  rw [Str.empty_append, ← ey]
  exact q
/-! ### a method whose last name is left out -/
theorem run_cgd {t : Tok} {di : Int} (G : CallG X.prog X.w X.K X.mg X.base px k fA fdt ps F) (hr : Room (2 * k + 4) X.A) (gd : X.A.guards = some []) (tk : Takes X W) (hb : Binds X.K fdt ps [.int di t])
    {pins : List (Addr × Obj)} {s1 : Shared} {σ : L2.St} {H1 : Hp} {Q : VK} {us : List Value} {vs : List V} {ds : List D} {w1 : Wd} {e : Ev} {h1 : Hs} (I1 : Inv X pins σ H1 s1) (r : Vals vs us) (v1 : VTs X.K w1 H1 ds vs) (hl : ds.length + 1 = ps.length)
    (p1 : Pre X.K px W σ (relV X.K) w1 e h1 H1 Q (F (ds ++ [.int di]) h1)) : wpAny (model X.prog X.w) X.A (call (.ref fA) us) (EP X pins σ Q) X.xe s1 := by
  have hl2 : (vs ++ [V.int di]).length = ps.length := by rw [List.length_append, ← VTs.len v1]; exact hl
  have bb := hb s1 us I1.kIn (by rw [List.length_append, ← r.length]; rw [List.length_append] at hl2; exact hl2)
  refine wpAny_call (codeAny_mono (G X.A X.stack s1 H1 ⟨us, []⟩ (us ++ [.int di t]) (vs ++ [.int di]) Q (WE W σ) hr gd I1.env0 bb (r.append (.cons (show RelV (.int di) (Value.int di t) from ⟨t, rfl⟩) .nil)) hl2 ⟨w1.call, h1, ds ++ [.int di], rfl, p1.rr.call, p1.rr.tb, v1.hands.snoc, ?_⟩) fun r s' hq => ?_)
  · have q := p1.po
    cases e2 : F (ds ++ [.int di]) h1 with
    | bad => rw [e2] at q; exact q
    | exc y h' => rw [e2] at q; exact fun cls dd w' H' y1 y2 y3 y4 => q cls dd _ H' (Ext.back y1) (HR.back y1 y2) y3 y4
    | ok d h' =>
      rw [e2] at q
      exact fun v w' H' y1 y2 y3 y4 => q v _ H' (Ext.back y1) (HR.back y1 y2) y3 (.of (.of (VR.weak (show (w1.back w').hp = w'.hp from rfl) (fun a z => Wd.back_forb y1 z) y4)))
  · cases r with
    | error u => exact passAt tk σ pins H1 s1 u s' I1 hq
    | ok fl =>
      cases fl with
      | ret u => exact I1.after hq
      | next => exact hq.elim
      | brk => exact hq.elim
      | cont => exact hq.elim
def fMcd (ci : Nat) (m : Str) (fa : Ev → Hs → R D) (fr : Ev → Hs → R (List D)) (F : List D → Hs → R D) (di : Int) : Ev → Hs → R D := fun e h => (fa e h).bind fun x h => (match isIns ci h x with
    | some p => if p.2.lookup m = none then (fr e h).bind fun ds h => F (x :: (ds ++ [.int di])) h else .bad
    | none => .bad)
theorem se_mcd0 {di : Int} (G : InsG X.K X.mg ci) (hm : Meth X.K (clsA X.K ci) m fA) (C : CallG X.prog X.w X.K X.mg X.base px k fA fdt ps F) (hr : Room (2 * k + 4) X.A) (gd : X.A.guards = some []) (tk : Takes X W) {t : Tok} (hb : Binds X.K fdt ps [.int di t]) (hc : rcv a = true)
    (ha : SE X px W a fa) (hline : (apos.endLine == pos.line) = true) (hl : ps.length = 2) : SE X px W (.Call (.Attribute a m apos) [] [] pos) (fMcd ci m fa (fun _ h => .ok [] h) F di) := by
  refine ⟨fun pins s σ H Q I q => ?_⟩
  obtain ⟨w, e, h, p⟩ := q
  unfold fMcd at p
  refine PySem.W.methodCall_KW (pl := plainOf a X.env) (thn (ha.run pins s σ H _ I ⟨w, e, h, p.bind⟩) fun u s1 ⟨x, H1, I1, rx, d, h1, w1, e1, x1, v1, p1⟩ => ?_) (ht_of hc rfl (by decide) hline)
  cases e2 : isIns ci h1 d with
  | none => rw [e2] at p1; exact p1.po.elim
  | some q =>
    rw [e2] at p1
    dsimp only at p1
    split at p1
    case isFalse => exact p1.po.elim
    rename_i hlk
    obtain ⟨a', dx, vs, _, rfl, z1, z2, _⟩ := p1.rr.inst e2 v1
    obtain rfl : u = Value.ref a' := rx
    exact getmeth_ok I1 z1 G.cls hm (z2.none hlk) (PySem.W.callWith_K0 (first := [.ref a']) I1.kIn hm.kp (run_cgd (us := [.ref a']) (vs := [.ref a']) (ds := [d]) C hr gd tk hb I1 (.cons rfl .nil) (.cons v1 .nil) (by rw [hl]; rfl) p1))
theorem se_mcd {b : Expr} {di : Int} (G : InsG X.K X.mg ci) (hm : Meth X.K (clsA X.K ci) m fA) (C : CallG X.prog X.w X.K X.mg X.base px k fA fdt ps F) (hr : Room (2 * k + 4) X.A) (gd : X.A.guards = some []) (tk : Takes X W) {t : Tok} (hb : Binds X.K fdt ps [.int di t]) (hc : rcv a = true)
    (ha : SE X px W a fa) (hes : SA X px W (b :: es) fr) (hs : (b :: es).all nst = true) (hl : (b :: es).length < 30) (hline : (apos.endLine == pos.line) = true) (hn : ∀ e h ds h', fr e h = .ok ds h' → ds.length + 2 = ps.length) :
    SE X px W (.Call (.Attribute a m apos) (b :: es) [] pos) (fMcd ci m fa fr F di) := by
  refine ⟨fun pins s σ H Q I q => ?_⟩
  obtain ⟨w, e, h, p⟩ := q
  unfold fMcd at p
  refine PySem.W.methodCall_KW (pl := plainOf a X.env) (thn (ha.run pins s σ H _ I ⟨w, e, h, p.bind⟩) fun u s1 ⟨x, H1, I1, rx, d, h1, w1, e1, x1, v1, p1⟩ => ?_) (ht_of hc hs hl hline)
  cases e2 : isIns ci h1 d with
  | none => rw [e2] at p1; exact p1.po.elim
  | some q =>
    rw [e2] at p1
    dsimp only at p1
    split at p1
    case isFalse => exact p1.po.elim
    rename_i hlk
    obtain ⟨a', dx, vs, _, rfl, z1, z2, _⟩ := p1.rr.inst e2 v1
    obtain rfl : u = Value.ref a' := rx
    refine getmeth_ok I1 z1 G.cls hm (z2.none hlk) ?_
    rw [List.all_cons, Bool.and_eq_true] at hs
    exact PySem.W.callWith_K (first := [.ref a']) (h₀ := X.base) I1.ok.mod.kin hm.kp (thn (hes.run pos pins s1 σ H1 _ I1 ⟨w1, e, h1, p1.bind⟩) fun us s2 ⟨vs, H2, I2, r, ds, h2, w2, e3, x2, v2, p2⟩ => ⟨I2.kIn, run_cgd (us := .ref a' :: us) (vs := .ref a' :: vs) (ds := d :: ds) C hr gd tk hb I2 (.cons rfl r) (.cons (v1.ext x2) v2) (by rw [List.length_cons]; exact hn _ _ _ _ e3) p2⟩) (star_ok hs.1) (stars_any hs.2)
/-! ### lists of the heap by places -/
def rLsr (K : PySem.W.Frag) (px : Px) (W : WX) : List V → Hp → VK → Prop := fun vs H Q => ∃ σ w e h d x, vs = [x] ∧ VT K w H d x ∧ Pre K px W σ (relV K) w e h H Q (R.of (lsrO h d) h)
theorem bi_lsr : CallR X (.type "list") (rLsr X.K px W) := by
  intro pins s σ H vs us Q I r q
  obtain ⟨σ', w, e, h, d, x, rfl, hv, p0⟩ := q
  obtain ⟨d', ed, p⟩ := p0.nobad
  unfold lsrO at ed
  obtain ⟨q, e1, e2⟩ := Option.map_eq_some_iff.mp ed
  subst e2
  obtain ⟨a, xs, _, rfl, z1, z2, _⟩ := p.rr.list e1 hv
  exact call_list_of pins s σ H _ us Q I r ⟨a, xs, rfl, .inl (.inl (.inl z1)), fun l hl => p.newL hl z2⟩
theorem se_lsr (hg : Gl X "list") (hm : X.mg "list" = none) (ha : SE X px W a fa) (hs : nst a = true) : SE X px W (.Call (.Name "list" p) [a] [] pos) (fun e h => (fa e h).bind fun x h => R.of (lsrO h x) h) :=
  PE.of (pe_callTy bi_lsr hg hm (by decide +kernel) (pa_cons ha pa_nil (star_ok hs)) (by decide) (by decide) (star_ok hs) rfl) fun σ H Q ⟨w, e, h, p⟩ => ⟨w, e, h, p.bind.imp fun x H1 ⟨d1, h1, w1, _, x1, v1, p1⟩ => ⟨σ, w1, e, h1, d1, x, rfl, v1, p1⟩⟩
def fMkl (fa : Ev → Hs → R D) : Ev → Hs → R D := fun e h => (fa e h).bind fun x h => (match mklO h x with
    | some ds => .ok (.ref h.length) (h ++ [.lst ds])
    | none => .bad)
def rMkl (K : PySem.W.Frag) (px : Px) (W : WX) : List V → Hp → VK → Prop := fun vs H Q => ∃ σ w e h d x, vs = [x] ∧ VT K w H d x ∧ Pre K px W σ (relV K) w e h H Q (match mklO h d with
    | some ds => .ok (.ref h.length) (h ++ [.lst ds])
    | none => .bad)
theorem bi_mkl : CallR X (.type "list") (rMkl X.K px W) := by
  intro pins s σ H vs us Q I r q
  obtain ⟨σ', w, e, h, d, x, rfl, hv, p⟩ := q
  cases e1 : mklO h d with
  | none => rw [e1] at p; exact p.po.elim
  | some ds =>
    rw [e1] at p
    dsimp only at p
    unfold mklO at e1
    split at e1
    case isFalse => cases e1
    rename_i hk
    obtain ⟨xs, e2, e3⟩ := Option.bind_eq_some_iff.mp e1
    split at e3
    case isFalse => cases e3
    rename_i hc
    cases e3
    rw [Bool.and_eq_true] at hc
    obtain ⟨a, vs, rfl, z1, z2⟩ := hv.sq e2
    refine call_list_of pins s σ H _ us Q I r ⟨a, vs, rfl, z1, fun l hl => ?_⟩
    have rn := p.rr
    obtain ⟨y1, y2⟩ := p.rr.hr.pushG (o1 := .lst vs) (ob := .lst ds) hl (p.rr.free hl) ⟨vs, upd_same, z2.ext (by
      exact ⟨⟨[l], rfl, fun a m => by rw [List.mem_singleton.mp m]; exact hl⟩, rfl, fun _ h => h, fun _ h => .inl h, (Ext.new0 (w := w) hl).keep, (Ext.new0 (w := w) hl).tups, (Ext.new0 (w := w) (o := .lst vs) hl).dom⟩), hc.1⟩
    refine p.po (.ref l) _ _ y1 y2 (p.rr.new hl).tb (.of (.of (.ref ?_)))
    show (w.hp ++ [l])[h.length]? = some l
    rw [← p.rr.hr.len, List.getElem?_concat_length]
theorem se_mkl (hg : Gl X "list") (hm : X.mg "list" = none) (ha : SE X px W a fa) (hs : nst a = true) : SE X px W (.Call (.Name "list" p) [a] [] pos) (fMkl fa) :=
  PE.of (pe_callTy bi_mkl hg hm (by decide +kernel) (pa_cons ha pa_nil (star_ok hs)) (by decide) (by decide) (star_ok hs) rfl) fun σ H Q ⟨w, e, h, p⟩ => ⟨w, e, h, p.bind.imp fun x H1 ⟨d1, h1, w1, _, x1, v1, p1⟩ => ⟨σ, w1, e, h1, d1, x, rfl, v1, p1⟩⟩
def fPopi (fa fb : Ev → Hs → R D) : Ev → Hs → R D := fun e h => (fa e h).bind fun x h => (match isLst h x with
    | some _ => (fb e h).bind fun y h => (match popiO h x y with
      | some p => .ok p.1 p.2
      | none => .bad)
    | none => .bad)
theorem keep_erase {ds : List D} (h : ds.all D.keep = true) (k : Nat) : (ds.eraseIdx k).all D.keep = true := by
  rw [List.all_eq_true] at h ⊢
  exact fun x hx => h x (List.mem_of_mem_eraseIdx hx)
theorem VRs.erase {K : PySem.W.Frag} {w : Wd} {H : Hp} : ∀ {ds : List D} {vs : List V}, VRs K w H ds vs → ∀ k, VRs K w H (ds.eraseIdx k) (vs.eraseIdx k)
  | _, _, .nil, _ => by simp; exact .nil
  | _, _, .cons a r, 0 => by simpa using r
  | _, _, .cons a r, k + 1 => by simpa using .cons a (VRs.erase r k)
theorem se_popi (hr : rcv a = true) (ha : SE X px W a fa) (hb : SE X px W b fb) (hl : (apos.endLine == cpos.line) = true) (hs : nst b = true) :
    SE X px W (.Call (.Attribute a "pop" apos) [b] [] cpos) (fPopi fa fb) := by
  refine PE.of (pe_bm PySem.F.plainAttrs_list PySem.F.slot_list_pop PySem.F.type_list_pop mt_popAt ha (pa_cons hb pa_nil (star_ok hs)) (base_ok hr) (by rw [star_ok hs]; rfl) hl (star_ok hs) rfl) fun σ H Q ⟨w, e, h, p⟩ => ?_
  unfold fPopi at p
  refine ⟨w, e, h, p.bind.imp fun x H1 ⟨d1, h1, w1, _, x1, v1, p1⟩ => ?_⟩
  cases e1 : isLst h1 d1 with
  | none => rw [e1] at p1; exact p1.po.elim
  | some q =>
    rw [e1] at p1
    dsimp only at p1
    obtain ⟨a1, xs1, ed, rfl, z1, _⟩ := p1.rr.list e1 v1
    subst ed
    refine ⟨own_ty z1, w1, e, h1, p1.bind.imp fun y H2 ⟨d2, h2, w2, _, x2, v2, p2⟩ => ?_⟩
    cases e2 : popiO h2 (.ref q.1) d2 with
    | none => rw [e2] at p2; exact p2.po.elim
    | some r =>
      rw [e2] at p2
      dsimp only at p2
      unfold popiO at e2
      obtain ⟨q2, e3, e4⟩ := Option.bind_eq_some_iff.mp e2
      cases d2 <;> first | (cases e4; done) | skip
      rename_i j
      dsimp only at e4
      split at e4
      case h_2 => cases e4
      rename_i kk hk
      split at e4
      case isFalse => cases e4
      rename_i hB
      obtain ⟨dd, e5, e6⟩ := Option.map_eq_some_iff.mp e4
      subst e6
      obtain rfl := vInt v2
      obtain ⟨a2, us, _, ev, t1, t2, t3, t4⟩ := p2.rr.list e3 (v1.ext x2)
      cases ev
      obtain ⟨y1, y2⟩ := t4 (q2.2.eraseIdx kk) (us.eraseIdx kk) (t2.erase kk) (keep_erase t3 kk)
      obtain ⟨v, e7, r7⟩ := t2.get e5
      have hB := of_decide_eq_true hB
      exact ⟨a1, us, _, kk, v, rfl, rfl, t1, by have := hB.1; omega, by have := hB.2; omega, by rw [← t2.length]; exact hk, e7, p2.po v _ _ y2 y1.hr y1.tb (.of (.of (r7.ext y2)))⟩
/-- list.remove of a list of the heap -/
def rRmr (K : PySem.W.Frag) (px : Px) (W : WX) : V → List V → Hp → VK → Prop := fun x xs H Q => ∃ w e h σ d1 d2 y h', xs = [y] ∧ VT K w H d1 x ∧ VT K w H d2 y ∧ RR K px w e h σ H ∧ rmrO d2 h d1 = some h' ∧ ∀ H', RR K px w e h' σ H' → Ext w H w H' → Q .non H'
theorem mt_rmr (z : Cz X) : MtM X "list.remove" (rRmr X.K px W) := by
  intro pins s σ H x xs v us Q I rx rs q
  obtain ⟨w, e, h, σ', d1, d2, y, h', rfl, h1, h2, rr, er, q⟩ := q
  obtain ⟨ux, rfl, ry⟩ := vals1 rs
  unfold rmrO at er
  obtain ⟨q0, e3, e4⟩ := Option.bind_eq_some_iff.mp er
  split at e4
  case isFalse => cases e4
  rename_i hs
  obtain ⟨kk, q2, e6⟩ := Option.map_eq_some_iff.mp e4
  subst e6
  obtain ⟨a2, us, _, rfl, t1, t2, t3, t4⟩ := rr.list e3 h1
  obtain rfl : v = Value.ref a2 := rx
  simp only [D.sound, Bool.and_eq_true, decide_eq_true_eq] at hs
  obtain ⟨⟨⟨⟨s1, s2⟩, s3⟩, ⟨s4, s5⟩, s6⟩, s7⟩ := hs
  obtain ⟨zz, its, n, rv, ll, og⟩ := I.lstM t1
  obtain ⟨as, r1, _⟩ := VR.readsAll I _ _ _ t2 rv s1
  obtain ⟨bs, r2⟩ := h2.reads I ry s4
  have hp' : SeqAt.dataPlace (D.pys q0.2) d2.py = some kk := by unfold SeqAt.dataPlace; rw [findIdx_pys]; exact q2
  refine SeqAt.remove_list_data (j := kk) ⟨_, og, rfl, n, rfl⟩ (by simpa using r1) r2 s2 s5 (by have := in_units (xs := q0.2) (d := d2) (show X.A.units + 64 < cLine by have := z.un; omega) s6; exact this) hp' (by rw [List.size_toArray, ← ll]; exact zz) ?_
  obtain ⟨y1, y2⟩ := t4 (q0.2.eraseIdx kk) (us.eraseIdx kk) (t2.erase kk) (keep_erase t3 kk)
  have el : (us.eraseIdx kk).length ≤ sizeLine := Nat.le_trans (by rw [List.length_eraseIdx]; split <;> omega) zz
  exact ⟨.non, _, I.lset (its' := its.eraseIdx kk) (f := fun ys => ys.eraseIdxIfInBounds kk) (t' := s.toks) t1 og (by show its.toArray.eraseIdxIfInBounds kk = (its.eraseIdx kk).toArray; rw [List.eraseIdxIfInBounds_toArray]) (rv.eraseIdx kk) el, rfl, q _ y1 y2⟩
def fRmr (fa fb : Ev → Hs → R D) : Ev → Hs → R Fl := fun e h => (fa e h).bind fun x h => (match isLst h x with
    | some _ => (fb e h).bind fun y h => (match rmrO y h x with
      | some h' => .ok (.nx e) h'
      | none => .bad)
    | none => .bad)
theorem ss_rmr (z : Cz X) (hr : rcv a = true) (ha : SE X px W a fa) (hb : SE X px W b fb) (hl : (apos.endLine == cpos.line) = true) (hs : nst b = true) :
    SS X px W (.Expr (.Call (.Attribute a "remove" apos) [b] [] cpos) pos) (fRmr fa fb) := by
  refine PS.of (ps_expr (pe_bm PySem.F.plainAttrs_list PySem.F.slot_list_remove PySem.F.type_list_remove (mt_rmr (px := px) (W := W) z) ha (pa_cons hb pa_nil (star_ok hs)) (base_ok hr) (by rw [star_ok hs]; rfl) hl (star_ok hs) rfl)) fun En σ H ⟨w, e, h, p⟩ => ?_
  unfold fRmr at p
  refine ⟨w, e, h, p.bind.imp fun x H1 ⟨d1, h1, w1, _, x1, v1, p1⟩ => ?_⟩
  cases e1 : isLst h1 d1 with
  | none => rw [e1] at p1; exact p1.po.elim
  | some q =>
    rw [e1] at p1
    dsimp only at p1
    obtain ⟨a1, xs1, ed, rfl, z1, _⟩ := p1.rr.list e1 v1
    refine ⟨own_ty z1, w1, e, h1, p1.bind.imp fun y H2 ⟨d2, h2, w2, _, x2, v2, p2⟩ => ?_⟩
    cases e2 : rmrO d2 h2 d1 with
    | none => rw [e2] at p2; exact p2.po.elim
    | some h3 =>
      rw [e2] at p2
      exact ⟨w2, e, h2, σ, d1, d2, y, h3, rfl, v1.ext x2, v2, p2.rr, e2, fun H' y1 y2 => p2.done y2.s y1⟩
end
end Tv
end

section
set_option autoImplicit false
set_option maxHeartbeats 2000000
/-! Errors held as values: made, asked for their class, their year. -/
namespace Tv
open PySem PySem.Spec PyProof.Rows L2
/-- C(e, ..), C's own making keeping sp, as a value -/
def tMkV (C : Addr) (sp : Sp) (ta : TA) : TE := fun σ H Q => ta σ H fun vs H1 => vs.length ≤ 1000 ∧ ∀ a, H1 a = none → sp (.ref a :: vs) (upd H1 a (exo a C none)) (fun v H2 => v = .non ∧ Q (.ref a) H2) (fun _ _ _ => False)
theorem pe_oex {X : Cx} {x : Str} {e : Expr} {es : List Expr} {ta : TA} {p pos : Pos} {C fI : Addr} {k : Nat} {fd : FuncData} {ps : List Str} {sp : Sp} (T : OexC X.K C) (iC : PySem.W.findIn X.K (.ref C) "__init__" = some (some (.ref fI))) (tI : PySem.W.typeIn X.K (.ref fI) = some (.type "function"))
    (F1 : FnOk X.prog X.w X.K X.mg X.base CX0 k fI fd ps sp) (hr : Room (k + 1) X.A) (hb : L2.Binds X.K fd ps []) (hg : Gl X x) (hm : X.mg x = some (.ref C)) (ha : PA X (e :: es) ta)
    (hdb : (x == ("__debug__" : Str)) = false) (he : starEach (e :: es) X.env = (false, eval e X.env) :: starEach es X.env) (hpl : (backTo pos (starEach es X.env)).any (·.1) = false) :
    PE X (.Call (.Name x p) (e :: es) [] pos) (tMkV C sp ta) := by
  refine ⟨fun pins s σ H Q I h => ?_⟩
  obtain ⟨nm, q, N, bs, bm, sn, sub, ab, col, dd, k0, k1, k2, k3, k5, hC, hbm⟩ := T.cls
  refine wpAny_Call_Name_kw (ld_glob I hg hm ?_ hdb)
  refine PySem.W.callWith_K (h₀ := X.base) I.ok.mod.kin T.kC (thn (ha.run pos pins s σ H _ I h) fun us s1 ⟨vs, H1, I1, r1, hz, q1⟩ => ⟨I1.kIn, ?_⟩) he hpl
  show wpAny _ _ (call (.ref C) us) _ _ _
  obtain ⟨hp, g, dr, tk, os⟩ := s1
  have hq := q1 (hp.objs.size + 1) (I1.hok.fresh (Nat.le_succ _))
  have hget : ((hp.push (PySem.W.kdv_tup us)).push (PySem.HandSPX.excO C hp.objs.size)).get? (hp.objs.size + 1) = some (PySem.HandSPX.excO C hp.objs.size) := by heap_get
  have I2 : Inv X pins σ (upd H1 (hp.objs.size + 1) (exo (hp.objs.size + 1) C none)) ⟨(hp.push (PySem.W.kdv_tup us)).push (PySem.HandSPX.excO C hp.objs.size), g, dr, tk, os⟩ :=
    I1.laid (t' := tk) (a := hp.objs.size + 1) (o := exo (hp.objs.size + 1) C none) (h' := (hp.push (PySem.W.kdv_tup us)).push (PySem.HandSPX.excO C hp.objs.size)) (fun b o z => Heap.get?_push_of_some _ (Heap.get?_push_of_some _ z)) (Nat.le_succ _) (exo_ok hget)
  have r2 : Vals (V.ref (hp.objs.size + 1) :: vs) (Value.ref (hp.objs.size + 1) :: us) := .cons rfl r1
  have hl : (Value.ref (hp.objs.size + 1) :: us).length = ps.length := by
    have z := r2.length
    rw [F1.len _ _ _ _ hq] at z
    exact z.symm
  have hus : us.length ≤ sizeLine := by
    rw [← Paired.length r1, sizeLine_eq]
    omega
  have hb' := hb _ (Value.ref (hp.objs.size + 1) :: us) I2.kIn (by simpa using hl)
  rw [List.append_nil] at hb'
  refine wpAny_call (PySem.HandSPX.call_own F.excBase_ValueError (fun Y => PySem.HandSPX.refsVE_contains Y bm hbm) (I1.kIn _ _ hC) (PySem.W.looks_findIn I1.kIn iC) (fun self => PySem.W.bind_fn I1.kIn self tI) hus
    (codeAny_mono (F1.run _ X.stack _ _ ⟨Value.ref (hp.objs.size + 1) :: us, []⟩ (Value.ref (hp.objs.size + 1) :: us) _ _ (fun _ _ _ => False) (hr.make C us []) (I2.env0.make C us []) hb' r2 hq) fun r s' hq' => ?_))
  cases r with
  | error er => exact pass0 pins σ _ _ er s' I2 hq'
  | ok fl =>
    cases fl with
    | ret u =>
      obtain ⟨v, H2, os2, bare2, un2, hok2, rv, ev, q2⟩ := hq'
      subst ev
      have J : Inv X pins σ H2 s' := I2.call' (ch := []) os2 un2 hok2 bare2 (fun b z => absurd z (by simp))
      exact ⟨rv, .ref _, H2, J, rfl, q2⟩
    | next => exact False.elim hq'
    | brk => exact False.elim hq'
    | cont => exact False.elim hq'
/-- what errors held as values need -/
structure XvG (K : PySem.W.Frag) (mg : Str → Option Value) : Prop where
  gm : ∀ c, c ≤ 16 → mg (exN c) = some (.ref (exA K c))
  ec : ∀ c, c ≤ 16 → ExcC K (exA K c)
  ki : ∀ c j, c ≤ 16 → j ≤ 16 → PySem.W.kitOne K (.ref (exA K c)) (.ref (exA K j)) = some (j == c || j == 0)
  kv : ∀ c, c ≤ 16 → PySem.W.kitOne K (.ref (exA K c)) (.type "ValueError") = some true
  mks : ∀ c, c ≤ 15 → ∃ (bmB : List Value) (B newId initId : String), ExcBaseFacts B newId initId bmB ∧ PySem.W.excIn K (exA K c) bmB newId = true ∧ PySem.W.keepIn K (.ref (exA K c)) = true
  mv : mg "ValueError" = none
  xf : XfC K (exA K 16)
  no : PySem.W.findIn K (.ref (exA K 16)) "at" = some none
section
variable {X : Cx} {px : Px} {W : WX} {a : Expr} {fa : Ev → Hs → R D} {p p' pos : Pos} {x : Str} {c : Nat}
theorem se_mkx (G0 : XvG X.K X.mg) (hc : c ≤ 15) (hx : x = exN c) (hg : Gl X x) (hdb : (x == ("__debug__" : Str)) = false) (ha : SE X px W a fa) (hs : nst a = true) : SE X px W (.Call (.Name x p) [a] [] pos) (fun e h => (fa e h).bind fun d h => .ok (.exc c d) h) := by
  subst hx
  obtain ⟨bmB, B, newId, initId, F, q, kC⟩ := G0.mks c hc
  refine PE.of (pe_exc1 F q (G0.gm c (by omega)) kC hg ha (star_ok hs) hdb) fun σ H Q ⟨w, e, h, p0⟩ => ?_
  refine ⟨w, e, h, p0.bind.imp fun v H1 ⟨d, h1, w1, _, x1, v1, p1⟩ b hb => ?_⟩
  have r := p1.rr.new (o := ExO (.ref (exA X.K c)) b) hb
  exact p1.po _ w1 _ (Ext.new hb p1.rr.hr) r.hr r.tb (.of (.of (.exc (p1.rr.free hb) hc upd_same)))
theorem se_mkb (G0 : XvG X.K X.mg) (B : BrkC X.K X.mg (exA X.K 16)) {fI : Addr} {fd : FuncData} (iC : PySem.W.findIn X.K (.ref (exA X.K 16)) "__init__" = some (some (.ref fI))) (tI : PySem.W.typeIn X.K (.ref fI) = some (.type "function"))
    (F1 : FnOk X.prog X.w X.K X.mg X.base CX0 1 fI fd [bSelf, bAt] (spBr (exA X.K 16))) (hr : Room 2 X.A) (hb : L2.Binds X.K fd [bSelf, bAt] []) (hx : x = exN 16) (hg : Gl X x) (hdb : (x == ("__debug__" : Str)) = false) (ha : SE X px W a fa) (hs : nst a = true) :
    SE X px W (.Call (.Name x p) [a] [] pos) (fun e h => (fa e h).bind fun d h => (match d with
      | .int i => .ok (.exc 16 (.int i)) h
      | _ => .bad)) := by
  subst hx
  refine PE.of (pe_oex B.ox iC tI F1 hr hb hg (G0.gm 16 (by omega)) (pa_cons ha pa_nil (star_ok hs)) hdb (star_ok hs) (by rfl)) fun σ H Q ⟨w, e, h, p0⟩ => ?_
  refine ⟨w, e, h, p0.bind.imp fun v H1 ⟨d, h1, w1, _, x1, v1, p1⟩ => ⟨by simp, fun b hb => ?_⟩⟩
  obtain ⟨i, rfl⟩ : ∃ i, d = .int i := by cases d <;> first | exact ⟨_, rfl⟩ | exact p1.po.elim
  obtain rfl := vInt v1
  refine ⟨b, .int i, rfl, upd_same, fun dx h2 ne => ⟨rfl, ?_⟩⟩
  have hd : H1 dx = none := by rw [upd_ne ne] at h2; exact h2
  have eH : upd (upd (upd H1 b (exo b (exA X.K 16) none)) dx (exd dx [(bAt, V.int i)])) b (exo b (exA X.K 16) (some dx)) = upd (upd H1 dx (exd dx [(bAt, V.int i)])) b (exo b (exA X.K 16) (some dx)) := by
    funext z
    by_cases h3 : z = b
    · rw [h3, upd_same, upd_same]
    · rw [upd_ne h3, upd_ne h3]
      by_cases h4 : z = dx
      · rw [h4, upd_same, upd_same]
      · rw [upd_ne h4, upd_ne h4, upd_ne h3]
  rw [eH]
  have r1 := p1.rr.new (o := exd dx [(bAt, V.int i)]) hd
  have hb2 : upd H1 dx (exd dx [(bAt, V.int i)]) b = none := by rw [upd_ne (fun z => ne z.symm)]; exact hb
  have r2 := r1.new (o := exo b (exA X.K 16) (some dx)) hb2
  exact p1.po _ w1 _ ((Ext.new hd p1.rr.hr).trans (Ext.new hb2 r1.hr)) r2.hr r2.tb (.of (.of (.exb (p1.rr.free hb) (p1.rr.free hd) upd_same (by rw [upd_ne ne, upd_same]))))
/-- an error in the heap -/
theorem exc_inst {pins : List (Addr × Obj)} {σ : L2.St} {H : Hp} {s : Shared} {w : Wd} {d : D} {v : V} (I : Inv X pins σ H s) (hv : VT X.K w H (.exc c d) v) : c ≤ 16 ∧ ∃ (b : Addr) (oe : Obj) (od : Option Obj), v = .ref b ∧ PySem.W.InstAt s.heap b oe (exA X.K c) od := by
  have hv := VT.keep hv rfl
  cases hv with
  | exc n l q =>
    rename_i b
    refine ⟨by omega, b, ?_⟩
    obtain ⟨⟨oe, vs, ho, hz, hd, _⟩, _, _⟩ := I.hok _ _ q
    exact ⟨oe, none, rfl, ho, hz.1, by unfold PySem.W.notCls; rw [hd] <;> rfl, by rw [hz.2]; trivial⟩
  | exb n n2 q q2 =>
    rename_i b dx
    refine ⟨Nat.le_refl _, b, ?_⟩
    obtain ⟨t1, ho⟩ := exo_at I.hok q
    obtain ⟨mA, hns, hr⟩ := exd_at I.hok q2
    obtain ⟨od, hod, hl⟩ := lookIn_ns hns
    exact ⟨_, some od, rfl, ho, rfl, rfl, hod⟩
theorem call_isx {pins : List (Addr × Obj)} {σ : L2.St} {H : Hp} {s : Shared} {b D : Addr} {oe : Obj} {od : Option Obj} {cv : Value} {y : Bool} {R : Value → Shared → Prop} (C : ExcC X.K D) (I : Inv X pins σ H s) (J : PySem.W.InstAt s.heap b oe D od) (e : PySem.W.kitOne X.K (.ref D) cv = some y) (hn : ∀ p, cv ≠ .ref p ∨ True) (q : ∀ tk, R (.bool y) { s with toks := tk }) :
    wpAny (model X.prog X.w) X.A (call (.builtin "isinstance") [.ref b, cv]) R X.xe s := by
  have hcl : (PySem.W.clsIn X.K D).isSome = true := by
    obtain ⟨cd, hc, _⟩ := PySem.W.any_some C.hd
    rw [hc]; rfl
  exact PySem.W.kia_one (PySem.W.kitx_exc (ox := oe) (od := od) hcl C.hg C.hk C.hs C.ha C.hn C.ht C.hm) I.kIn J e (fun z => nomatch z) q
/-- isinstance of an error -/
theorem se_isx {j : Nat} (G0 : XvG X.K X.mg) (hj : j ≤ 16) (hx : x = exN j) (hg : Gl X "isinstance") (hm : X.mg "isinstance" = none) (hgc : Gl X x) (hd : (x == ("__debug__" : Str)) = false) (ha : SE X px W a fa) (hs : nst a = true) :
    SE X px W (.Call (.Name "isinstance" p) [a, .Name x p'] [] pos) (fun e h => (fa e h).bind fun d h => R.of ((dIsi (.exc j) d).map .bl) h) := by
  have hc : CallR X (.builtin "isinstance") (fun vs H Q => ∃ σ w e h d v, vs = [v, .ref (exA X.K j)] ∧ VT X.K w H d v ∧ Pre X.K px W σ (relV X.K) w e h H Q (R.of ((dIsi (.exc j) d).map .bl) h)) := by
    intro pins s σ H vs us Q I r q
    obtain ⟨σ', w, e, h, d, v, rfl, hv, p0⟩ := q
    obtain ⟨d', ed, p⟩ := p0.nobad
    obtain ⟨u1, u2, rfl, r1, r2⟩ := vals2 r
    obtain rfl : u2 = Value.ref (exA X.K j) := r2
    cases d with
    | exc c y =>
      obtain ⟨hc, b, oe, od, rfl, J⟩ := exc_inst I hv
      obtain rfl : u1 = Value.ref b := r1
      cases ed
      exact call_isx (G0.ec c hc) I J (G0.ki c j hc hj) (fun _ => .inr trivial) fun tk => ⟨.bl _, H, I.tok tk, rfl, p.done (.of (.of (.bl _)))⟩
    | _ => cases ed
  have hta : PA X [.Name x p'] (tCons (tC (.ref (exA X.K j))) tNil) := pa_cons (pe_glob (v := .ref (exA X.K j)) hgc (by rw [hx]; exact G0.gm j hj) rfl hd) pa_nil
  refine PE.of (pe_callB hc hg hm (by decide +kernel) (pa_cons ha hta (star_ok hs)) (by decide) (by decide) (star_ok hs)) fun σ H Q ⟨w, e, h, p⟩ => ?_
  exact ⟨w, e, h, p.bind.imp fun v H1 ⟨d1, h1, w1, _, x1, v1, p1⟩ => ⟨σ, w1, e, h1, d1, v, rfl, v1, p1⟩⟩
theorem se_isv (G0 : XvG X.K X.mg) (hg : Gl X "isinstance") (hm : X.mg "isinstance" = none) (hgc : Gl X "ValueError") (hmv : X.mg "ValueError" = none) (ha : SE X px W a fa) (hs : nst a = true) :
    SE X px W (.Call (.Name "isinstance" p) [a, .Name "ValueError" p'] [] pos) (fun e h => (fa e h).bind fun d h => R.of ((dIsi .value d).map .bl) h) := by
  have hc : CallR X (.builtin "isinstance") (fun vs H Q => ∃ σ w e h d v, vs = [v, .ty "ValueError"] ∧ VT X.K w H d v ∧ Pre X.K px W σ (relV X.K) w e h H Q (R.of ((dIsi .value d).map .bl) h)) := by
    intro pins s σ H vs us Q I r q
    obtain ⟨σ', w, e, h, d, v, rfl, hv, p0⟩ := q
    obtain ⟨d', ed, p⟩ := p0.nobad
    obtain ⟨u1, u2, rfl, r1, r2⟩ := vals2 r
    obtain rfl : u2 = Value.type "ValueError" := r2
    cases d with
    | exc c y =>
      obtain ⟨hc, b, oe, od, rfl, J⟩ := exc_inst I hv
      obtain rfl : u1 = Value.ref b := r1
      cases ed
      exact call_isx (G0.ec c hc) I J (G0.kv c hc) (fun _ => .inr trivial) fun tk => ⟨.bl _, H, I.tok tk, rfl, p.done (.of (.of (.bl _)))⟩
    | _ => cases ed
  have hta : PA X [.Name "ValueError" p'] (tCons (tC (.ty "ValueError")) tNil) := pa_cons (pe_bltn (v := .ty "ValueError") hgc hmv rfl rfl) pa_nil
  refine PE.of (pe_callB hc hg hm (by decide +kernel) (pa_cons ha hta (star_ok hs)) (by decide) (by decide) (star_ok hs)) fun σ H Q ⟨w, e, h, p⟩ => ?_
  exact ⟨w, e, h, p.bind.imp fun v H1 ⟨d1, h1, w1, _, x1, v1, p1⟩ => ⟨σ, w1, e, h1, d1, v, rfl, v1, p1⟩⟩
theorem se_xat (G0 : XvG X.K X.mg) (ha : SE X px W a fa) (hb : rcv a = true) : SE X px W (.Attribute a "at" pos) (fun e h => (fa e h).bind fun d h => R.of (xatO d) h) := by
  refine ⟨fun pins s σ H Q I ⟨w, e, h, p0⟩ => ?_⟩
  refine attr_of (base_ok hb) (thn (ha.run pins s σ H _ I ⟨w, e, h, p0.bind⟩) fun u s1 hh => ?_)
  obtain ⟨v, H1, I1, rx, d, h1, w1, _, x1, v1, p1⟩ := hh
  obtain ⟨d', ed, p⟩ := p1.nobad
  obtain ⟨i, rfl⟩ : ∃ i, d = .exc 16 (.int i) := by
    unfold xatO at ed
    split at ed
    · exact ⟨_, rfl⟩
    · cases ed
  cases ed
  have hv := VT.keep v1 rfl
  cases hv with
  | exc n l q => exact absurd l (by decide)
  | exb n n2 q q2 =>
    rename_i b dx
    obtain rfl : u = Value.ref b := rx
    obtain ⟨t1, ho⟩ := exo_at I1.hok q
    obtain ⟨mA, hns, hr⟩ := exd_at I1.hok q2
    obtain ⟨od, hod, hl⟩ := lookIn_ns hns
    obtain ⟨y, hu, ru⟩ := RelO.some_of (v := V.int i) (o := mA "at") (by have := hr "at"; exact this)
    have J : PySem.W.InstAt s1.heap b _ (exA X.K 16) (some od) := ⟨ho, rfl, rfl, hod⟩
    exact HandSPX.exc_get I1.kIn J G0.xf.ga G0.xf.gg G0.xf.exC (PySem.W.findObj_own G0.xf.hdC G0.no rfl (by rw [hl, hu])) (handed_of ru) ⟨.int i, H1, I1.tok _, ru, p.done (.of (.of (.int i)))⟩
end
end Tv
end

section
set_option autoImplicit false
set_option maxHeartbeats 1000000
/-! The trees held against the program's own code. -/
namespace Tv
open PySem PySem.Spec PyProof.Rows L2
/-- the methods, by their long names -/
def mtab : List (Str × (Nat × Str)) := [
  ("Desk.__init__", (2, "__init__")), ("Desk.here", (2, "here")), ("Desk.turn", (2, "turn")), ("Desk.say", (2, "say")), ("Desk.year", (2, "year")), ("Desk.answer", (2, "answer")),
  ("Tally.__init__", (1, "__init__")), ("Tally.turn", (1, "turn")), ("Tally.tell", (1, "tell")), ("Tally.strike", (1, "strike")), ("Tally.undo", (1, "undo")), ("Tally.book", (1, "book")), ("Tally.stock", (1, "stock")), ("Tally.turned_by", (1, "turned_by")), ("Tally.twin", (1, "twin")), ("Tally.__len__", (1, "__len__")), ("Tally.__eq__", (1, "__eq__")), ("Tally.__repr__", (1, "__repr__")),
  ("Beds.__init__", (0, "__init__")), ("Beds.put", (0, "put")), ("Beds.die", (0, "die")), ("Beds.can", (0, "can")), ("Beds.do", (0, "do")), ("Beds.stock", (0, "stock"))]
def keyN (ci : Nat) (m : Str) : Str := clN ci ++ "." ++ m
/-- how a def is come to by its key: a global's function, a class's method -/
def RefX (K : PySem.W.Frag) (mg : Str → Option Value) (x : Str) (f : Addr) : Prop := match mtab.lookup x with
  | none => mg x = some (.ref f) ∧ PySem.W.keepIn K (.ref f) = true
  | some (ci, m) => Meth K (clsA K ci) m f
theorem RefX.fn {K : PySem.W.Frag} {mg : Str → Option Value} {x : Str} {f : Addr} (r : RefX K mg x f) (h : (mtab.lookup x).isNone = true) : mg x = some (.ref f) ∧ PySem.W.keepIn K (.ref f) = true := by
  unfold RefX at r
  cases e : mtab.lookup x with
  | none => rw [e] at r; exact r
  | some q => rw [e] at h; cases h
theorem RefX.mt {K : PySem.W.Frag} {mg : Str → Option Value} {x : Str} {f : Addr} {ci : Nat} {m : Str} (r : RefX K mg x f) (h : mtab.lookup x = some (ci, m)) : Meth K (clsA K ci) m f := by
  unfold RefX at r
  rw [h] at r
  exact r
/-- a global's constant -/
def GlR (wo : World) (K : PySem.W.Frag) (mg : Str → Option Value) (x : Str) : GV → Prop
  | .i n => ∃ t, mg x = some (.int n t)
  | .s z => ∃ t, mg x = some (.str z t)
  | .t zs => ∃ a, mg x = some (.ref a) ∧ KT K a zs
  | .d zs => ∃ a, mg x = some (.ref a) ∧ KD wo K a zs
structure Ck where
  N : List Str
  sc : Scope
  fn : Str → Bool
  defs : List (Str × Nat × Nat)
  glob : List (Str × GV)
  excs : List (Str × Nat)
  sd : Bool
  dfl : Str → Option Int
  brk : Bool
  ins : List Nat
/-- errors are held as values where _law_word is a def like others -/
def xvB (c : Ck) : Bool := (c.defs.lookup ("_law_word" : Str)).isSome
def glB (c : Ck) (x : Str) : Bool := match c.sc.names.lookup x with
  | some .globalImplicit => true
  | _ => false
def visB (c : Ck) (x : Str) : Bool := match c.sc.names.lookup x with
  | some .local => true
  | some .cell => true
  | some .free => true
  | _ => false
def lcB (c : Ck) (x : Str) : Bool := match c.sc.names.lookup x with
  | some .local => true
  | _ => false
def ceB (c : Ck) (x : Str) : Bool := match c.sc.names.lookup x with
  | some .cell => true
  | _ => false
def plainN (x : Str) : Bool := !(x == ("__debug__" : Str)) && !(x == ("__classdict__" : Str)) && decide (x ≠ "__name__")
def rdB (c : Ck) (x : Str) (i : Nat) : Bool := decide (c.N[i]? = some x) && visB c x && plainN x
def nmB (c : Ck) (x : Str) (i : Nat) : Bool := decide (c.N[i]? = some x) && (lcB c x || (ceB c x && c.fn x))
def bopB : Bop → Operator → Bool
  | .add, .Add => true | .sub, .Sub => true | .mul, .Mult => true | .fdiv, .FloorDiv => true | .mod, .Mod => true | .pow, .Pow => true
  | _, _ => false
theorem bopB_of {o : Bop} {p : Operator} (h : bopB o p = true) : p = bopOf o := by
  cases o <;> cases p <;> first | rfl | cases h
def copB : Cop → CmpOp → Bool
  | .eq, .Eq => true | .ne, .NotEq => true | .lt, .Lt => true | .le, .LtE => true | .gt, .Gt => true | .ge, .GtE => true | .isin, .In => true | .notin, .NotIn => true | .isN, .Is => true | .notN, .IsNot => true | .eq0, .Eq => true | .notB, .IsNot => true | .ninS, .NotIn => true
  | _, _ => false
theorem copB_of {o : Cop} {p : CmpOp} (h : copB o p = true) : p = copOf o := by
  cases o <;> cases p <;> first | rfl | cases h
def noSet : Expr → Bool
  | .Set .. => false
  | _ => true
theorem noSet_in {op : CmpOp} {e : Expr} (h : noSet e = true) : behindInMarks op e = false := by
  cases e <;> first | rfl | cases h
theorem noSet_fold {e : Expr} (h : noSet e = true) (env : Env) (x : Value) : foldedSetIterable e env x = pure x := by
  cases e <;> first | rfl | cases h
def noComp : Expr → Bool
  | .ListComp .. => false | .SetComp .. => false | .DictComp .. => false
  | _ => true
theorem noComp_sw {e : Expr} (h : noComp e = true) (t : Option Expr) (l : Nat) (env : Env) : swapsWith e t l env = pure false := by
  cases e <;> first | rfl | cases h
/-- a test that runs as its value does -/
def isVal : Expr → Bool
  | .UnaryOp .Not .. => false
  | .BoolOp .. => false
  | .IfExp .. => false
  | .Compare .. => false
  | _ => true
theorem isVal_of {e : Expr} (h : isVal e = true) (env : Env) (whole : Sem Value) : isTrue e env whole = (do let v ← whole; standAt e.pos; holding [v] (truthy v)) := by
  cases e <;> first | rfl | (cases h; done) | (rename_i op _ _; cases op <;> first | rfl | cases h)
def bltB (c : Ck) (x : Str) : Bool := glB c x && bltNames.contains x
def biB : Bi → Str → Nat → Bool
  | .len, x, _ => decide (x = "len") | .all, x, _ => decide (x = "all") | .any, x, _ => decide (x = "any") | .sum, x, _ => decide (x = "sum")
  | .max1, x, n => decide (x = "max") && decide (n = 1) | .max2, x, n => decide (x = "max") && decide (n = 2) | .min2, x, n => decide (x = "min") && decide (n = 2) | .min4, x, n => decide (x = "min") && decide (n = 4)
  | .abs, x, _ => decide (x = "abs") | .divmod, x, _ => decide (x = "divmod") | .int, x, _ => decide (x = "int") | .list, x, _ => decide (x = "list") | .tuple, x, _ => decide (x = "tuple")
  | .rep, x, _ => decide (x = "repr") | .str, x, _ => decide (x = "str") | .sorted, x, _ => decide (x = "sorted")
  | _, _, _ => false
def meB : Bi → Str → Bool
  | .split, x => decide (x = "split") | .partition, x => decide (x = "partition") | .count, x => decide (x = "count") | .index, x => decide (x = "index") | .join, x => decide (x = "join")
  | _, _ => false
def tyB : Ty → Str → Bool
  | .int, x => decide (x = "int") | .bool, x => decide (x = "bool") | .tuple, x => decide (x = "tuple") | .str, x => decide (x = "str") | .list, x => decide (x = "list")
  | _, _ => false
def tstB : E → Bool
  | .not a => tstB a
  | .and a b => tstB a && tstB b
  | .or a b => tstB a && tstB b
  | .ite .. => false
  | _ => true
/-- the block of a comprehension -/
def Ck.blk (c : Ck) (scope : Scope) : Ck := { c with sc := relS scope c.sc, fn := fun x => scope.names.lookup x == some .cell, sd := false, brk := false }
/-- the block of a lambda -/
def Ck.lam (c : Ck) (scope : Scope) : Ck := ⟨c.N, scope, fun _ => false, c.defs, c.glob, [], false, c.dfl, false, c.ins⟩
def noArgs : Arguments → Bool
  | ⟨[], [], none, [], [], none, []⟩ => true
  | _ => false
def ownOf (c : Ck) (vs : List Nat) : List (Str × Nat) := vs.map fun i => ((c.N[i]?).getD "", i)
def nmsB (c : Ck) : List Expr → List Nat → Bool
  | [], [] => true
  | e :: es, i :: is => (match e with
    | .Name x _ => nmB c x i
    | _ => false) && nmsB c es is
  | _, _ => false
def ckT (c : Ck) : T → Expr → Bool
  | .n i, e => (match e with
    | .Name x _ => nmB c x i
    | _ => false)
  | .t is, e => (match e with
    | .Tuple es _ _ => nmsB c es is
    | _ => false)
def trueB : E → Bool
  | .c (.bl b) => b
  | _ => false
def isTup : Expr → Bool
  | .Tuple .. => true
  | _ => false
mutual
def ckE (c : Ck) : E → Expr → Bool
  | .c d, e => (match e with
    | .Constant k _ _ => chkC d k
    | _ => false)
  | .g x d, e => (match e, d with
    | .Name y _, .int i => decide (x = y) && glB c y && plainN y && decide (c.glob.lookup y = some (.i i))
    | .Name y _, .str z => decide (x = y) && glB c y && plainN y && decide (c.glob.lookup y = some (.s z))
    | _, _ => false)
  | .v i, e => (match e with
    | .Name x _ => rdB c x i
    | _ => false)
  | .bin o a b, e => (match e with
    | .BinOp a' op b' _ => bopB o op && (ckE c a a' && ckE c b b')
    | _ => false)
  | .neg a, e => (match e with
    | .UnaryOp .USub a' _ => ckE c a a'
    | _ => false)
  | .not a, e => (match e with
    | .UnaryOp .Not a' _ => ckE c a a'
    | _ => false)
  | .and a b, e => (match e with
    | .BoolOp .And [x, y] _ => ckE c a x && ckE c b y
    | .BoolOp .And (x :: y :: z :: r) p => ckE c a x && ckE c b (.BoolOp .And (y :: z :: r) p)
    | _ => false)
  | .or a b, e => (match e with
    | .BoolOp .Or [x, y] _ => ckE c a x && ckE c b y
    | .BoolOp .Or (x :: y :: z :: r) p => ckE c a x && ckE c b (.BoolOp .Or (y :: z :: r) p)
    | _ => false)
  | .ite t a b, e => (match e with
    | .IfExp t' a' b' _ => tstB t && (ckE c t t' && (ckE c a a' && ckE c b b'))
    | _ => false)
  | .cmp o a b, e => (match e with
    | .Compare a' [op] [b'] _ => copB o op && noSet b' && (ckE c a a' && ckE c b b')
    | _ => false)
  | .chn o p a b d, e => (match e with
    | .Compare a' [op, op'] [b', d'] _ => copB o op && copB p op' && noSet d' && (ckE c a a' && (ckE c b b' && ckE c d d'))
    | _ => false)
  | .call f es, e => (match e with
    | .Call (.Name x _) (a :: as) [] _ => (mtab.lookup x).isNone && decide (c.defs.lookup x = some (f, as.length + 1)) && glB c x && plainN x && (a :: as).all nst && ckEs c es (a :: as)
    | .Call (.Name x _) [] [] _ => (mtab.lookup x).isNone && (decide (c.defs.lookup x = some (f, 0)) && (glB c x && (plainN x && ckEs c es [])))
    | _ => false)
  | .cld f es i, e => (match e with
    | .Call (.Name x _) (a :: as) [] _ => (mtab.lookup x).isNone && decide (c.defs.lookup x = some (f, as.length + 2)) && decide (c.dfl x = some i) && glB c x && plainN x && (a :: as).all nst && ckEs c es (a :: as)
    | _ => false)
  | .bi b es, e => (match e with
    | .Call (.Name x _) (a :: as) [] _ => biB b x (as.length + 1) && glB c x && (a :: as).all nst && ckEs c es (a :: as)
    | _ => false)
  | .me m a b, e => (match e with
    | .Call (.Attribute a' mn apos) [b'] [] cpos => meB m mn && rcv a' && nst b' && (apos.endLine == cpos.line) && (ckE c a a' && ckE c b b')
    | _ => false)
  | .isi a t, e => (match e with
    | .Call (.Name x _) [a', .Name y _] [] _ => decide (x = "isinstance") && glB c x && tyB t y && glB c y && nst a' && ckE c a a'
    | _ => false)
  | .ix a b, e => (match e with
    | .Subscript a' b' _ => nsl b' && (ckE c a a' && ckE c b b')
    | _ => false)
  | .sl a lo hi, e => (match e with
    | .Subscript a' (.Slice (some l) (some u) none _) _ => ckE c a a' && (ckE c lo l && ckE c hi u)
    | _ => false)
  | .slf a lo, e => (match e with
    | .Subscript a' (.Slice (some l) none none _) _ => ckE c a a' && ckE c lo l
    | _ => false)
  | .slt a hi, e => (match e with
    | .Subscript a' (.Slice none (some u) none _) _ => ckE c a a' && ckE c hi u
    | _ => false)
  | .rev a, e => (match e with
    | .Subscript a' (.Slice none none (some (.UnaryOp .USub (.Constant (.int 1) _ _) _)) _) _ => ckE c a a'
    | _ => false)
  | .tup es, e => (match e with
    | .Tuple es' _ _ => es'.all nst && decide (es'.length ≤ 1000) && ckEs c es es'
    | _ => false)
  | .lst es, e => (match e with
    | .List es' _ => es'.all nst && decide (es'.length ≤ 1000) && ckEs c es es'
    | _ => false)
  | .mls es, e => (match e with
    | .List es' _ => es'.all nst && decide (es'.length ≤ 1000) && ckEs c es es'
    | _ => false)
  | .dic kvs, e => (match e, kvs with
    | .Dict [] [] _, [] => true
    | .Dict [some (.Constant (.int i) _ _)] [.Constant (.int j) _ _] _, [(k, v)] => decide (i = k) && decide (j = v)
    | _, _ => false)
  | .comp it t vs cnd elt, e => (match e with
    | .ListComp elt' [⟨tg, iter, ifs, 0⟩] scope _ => ckI c it tg iter && noSet iter && blkC c.N c.sc scope (ownOf c vs) && (t.is.all vs.contains) && ckT (c.blk scope) t tg &&
      ((match ifs with
        | [] => trueB cnd
        | [f] => tstB cnd && ckE (c.blk scope) cnd f
        | _ => false) && ckE (c.blk scope) elt elt')
    | _ => false)
  | .said a, e => (match e with
    | .Call (.Name x _) [.Lambda ar bd scope _] [] _ => decide (x = "_law_said") && glB c x && c.sd && LamX.lamSB c.sc scope && noArgs ar && ckE (c.lam scope) a bd
    | _ => false)
  | .kg i a, e => (match e with
    | .Subscript (.Name x _) a' _ => rdB c x i && nsl a' && ckE c a a'
    | _ => false)
  | .kin n i a, e => (match e with
    | .Compare a' [op] [.Name x _] _ => rdB c x i && (match n, op with
      | false, .In => true
      | true, .NotIn => true
      | _, _ => false) && ckE c a a'
    | _ => false)
  | .fld ci a f, e => (match e with
    | .Attribute a' f' _ => decide (f' = f) && (c.ins.contains ci && ((clF ci).contains f && (rcv a' && ckE c a a')))
    | _ => false)
  | .new ci f, e => (match e with
    | .Call (.Name x _) [] [] _ => decide (x = clN ci) && (c.ins.contains ci && (glB c x && (plainN x && (decide (mtab.lookup (keyN ci "__init__") = some (ci, ("__init__" : Str))) && decide (c.defs.lookup (keyN ci "__init__") = some (f, 1))))))
    | _ => false)
  | .mc ci f m a es, e => (match e with
    | .Call (.Attribute a' m' apos) as [] cpos => decide (m' = m) && (c.ins.contains ci && (decide (mtab.lookup (keyN ci m) = some (ci, m)) && (decide (c.defs.lookup (keyN ci m) = some (f, as.length + 1)) && (rcv a' && (as.all nst && (decide (as.length < 30) && ((apos.endLine == cpos.line) && (ckE c a a' && ckEs c es as))))))))
    | _ => false)
  | .popr a, e => (match e with
    | .Call (.Attribute a' m apos) [] [] cpos => decide (m = "pop") && (rcv a' && ((apos.endLine == cpos.line) && ckE c a a'))
    | _ => false)
  | .mkc it t vs cnd elt, e => (match e with
    | .ListComp elt' [⟨tg, iter, ifs, 0⟩] scope _ => ckI c it tg iter && noSet iter && blkC c.N c.sc scope (ownOf c vs) && (t.is.all vs.contains) && ckT (c.blk scope) t tg &&
      ((match ifs with
        | [] => trueB cnd
        | [f] => tstB cnd && ckE (c.blk scope) cnd f
        | _ => false) && ckE (c.blk scope) elt elt')
    | _ => false)
  | .mkm es b, e => (match e with
    | .BinOp (.List es' _) .Mult b' _ => es'.all nst && (decide (es'.length ≤ 1000) && (ckEs c es es' && ckE c b b'))
    | _ => false)
  | .mkd, e => (match e with
    | .Dict [] [] _ => true
    | _ => false)
  | .dgt a k d, e => (match e with
    | .Call (.Attribute a' m apos) [k', d'] [] cpos => decide (m = "get") && (rcv a' && (nst k' && (nst d' && ((apos.endLine == cpos.line) && (ckE c a a' && (ckE c k k' && ckE c d d'))))))
    | _ => false)
  | .din n a k, e => (match e with
    | .Compare k' [op] [a'] _ => (match n, op with
      | false, .In => true
      | true, .NotIn => true
      | _, _ => false) && (noSet a' && (ckE c k k' && ckE c a a'))
    | _ => false)
  | .tur a, e => (match e with
    | .Call (.Name x _) [a'] [] _ => decide (x = "tuple") && (glB c x && (nst a' && ckE c a a'))
    | _ => false)
  | .ggt x zs a, e => (match e with
    | .Call (.Attribute (.Name y _) m apos) [a'] [] cpos => decide (y = x) && (decide (m = "get") && (glB c y && (plainN y && (decide (c.glob.lookup y = some (.d zs)) && (nst a' && ((apos.endLine == cpos.line) && ckE c a a'))))))
    | _ => false)
  | .hcomp a t vs cnd elt, e => (match e with
    | .ListComp elt' [⟨tg, iter, ifs, 0⟩] scope _ => ckE c a iter && noSet iter && blkC c.N c.sc scope (ownOf c vs) && (t.is.all vs.contains) && ckT (c.blk scope) t tg &&
      ((match ifs with
        | [] => trueB cnd
        | [f] => tstB cnd && ckE (c.blk scope) cnd f
        | _ => false) && ckE (c.blk scope) elt elt')
    | _ => false)
  | .lnr a, e => (match e with
    | .Call (.Name x _) [a'] [] _ => decide (x = "len") && (glB c x && (nst a' && ckE c a a'))
    | _ => false)
  | .ise a, e => (match e with
    | .Compare a' [.Eq] [.List [] _] _ => ckE c a a'
    | _ => false)
  | .ing a x zs, e => (match e with
    | .Compare a' [.In] [.Name y _] _ => decide (y = x) && (glB c y && (plainN y && (decide (c.glob.lookup y = some (.t zs)) && ckE c a a')))
    | _ => false)
  | .up a, e => (match e with
    | .Call (.Attribute a' m apos) [] [] cpos => decide (m = "upper") && (rcv a' && ((apos.endLine == cpos.line) && ckE c a a'))
    | _ => false)
  | .mcd ci f m a es di, e => (match e with
    | .Call (.Attribute a' m' apos) as [] cpos => decide (m' = m) && (c.ins.contains ci && (decide (mtab.lookup (keyN ci m) = some (ci, m)) && (decide (c.defs.lookup (keyN ci m) = some (f, as.length + 2)) && (decide (c.dfl (keyN ci m) = some di) && (rcv a' && (as.all nst && (decide (as.length < 30) && ((apos.endLine == cpos.line) && (ckE c a a' && ckEs c es as)))))))))
    | _ => false)
  | .isc ci a, e => (match e with
    | .Call (.Name x _) [a', .Name y _] [] _ => decide (x = "isinstance") && (glB c x && (decide (y = clN ci) && (c.ins.contains ci && (glB c y && (plainN y && (nst a' && ckE c a a'))))))
    | _ => false)
  | .fst a s t, e => (match e with
    | .JoinedStr [.Constant (.str s') _ _, .FormattedValue a' k none _, .Constant (.str t') _ _] _ => decide (s' = s) && (decide (t' = t) && (decide (k = -1) && (decide (s.length ≤ 1000) && ckE c a a')))
    | _ => false)
  | .lnm ci f a, e => (match e with
    | .Call (.Name x _) [a'] [] _ => decide (x = "len") && (glB c x && (c.ins.contains ci && (decide (mtab.lookup (keyN ci "__len__") = some (ci, ("__len__" : Str))) && (decide (c.defs.lookup (keyN ci "__len__") = some (f, 1)) && (nst a' && ckE c a a')))))
    | _ => false)
  | .rpm ci f a, e => (match e with
    | .Call (.Name x _) [a'] [] _ => decide (x = "repr") && (glB c x && (c.ins.contains ci && (decide (mtab.lookup (keyN ci "__repr__") = some (ci, ("__repr__" : Str))) && (decide (c.defs.lookup (keyN ci "__repr__") = some (f, 1)) && (nst a' && ckE c a a')))))
    | _ => false)
  | .eqm n ci f a b, e => (match e with
    | .Compare a' [op] [b'] _ => decide (op = eqOp n) && (c.ins.contains ci && (decide (mtab.lookup (keyN ci "__eq__") = some (ci, ("__eq__" : Str))) && (decide (c.defs.lookup (keyN ci "__eq__") = some (f, 2)) && (noSet b' && (ckE c a a' && ckE c b b')))))
    | _ => false)
  | .inm ci f a b, e => (match e with
    | .Compare a' [.In] [.List [b'] _] _ => c.ins.contains ci && (decide (mtab.lookup (keyN ci "__eq__") = some (ci, ("__eq__" : Str))) && (decide (c.defs.lookup (keyN ci "__eq__") = some (f, 2)) && (nst b' && (ckE c a a' && ckE c b b'))))
    | _ => false)
  | .popi a b, e => (match e with
    | .Call (.Attribute a' m apos) [b'] [] cpos => decide (m = "pop") && (rcv a' && (nst b' && ((apos.endLine == cpos.line) && (ckE c a a' && ckE c b b'))))
    | _ => false)
  | .lsr a, e => (match e with
    | .Call (.Name x _) [a'] [] _ => decide (x = "list") && (glB c x && (nst a' && ckE c a a'))
    | _ => false)
  | .mkl a, e => (match e with
    | .Call (.Name x _) [a'] [] _ => decide (x = "list") && (glB c x && (nst a' && ckE c a a'))
    | _ => false)
  | .mkx k a, e => (match e with
    | .Call (.Name x _) [a'] [] _ => decide (k ≤ 15) && (decide (x = exN k) && (xvB c && (glB c x && (plainN x && (nst a' && ckE c a a')))))
    | _ => false)
  | .mkb a, e => (match e with
    | .Call (.Name x _) [a'] [] _ => decide (x = "Broken") && (xvB c && (c.brk && (glB c x && (nst a' && ckE c a a'))))
    | _ => false)
  | .isx j a, e => (match e with
    | .Call (.Name x _) [a', .Name y _] [] _ => decide (x = "isinstance") && (glB c x && (decide (j ≤ 16) && (decide (y = exN j) && (xvB c && (glB c y && (plainN y && (nst a' && ckE c a a')))))))
    | _ => false)
  | .isv a, e => (match e with
    | .Call (.Name x _) [a', .Name y _] [] _ => decide (x = "isinstance") && (glB c x && (decide (y = "ValueError") && (xvB c && (glB c y && (nst a' && ckE c a a')))))
    | _ => false)
  | .xat a, e => (match e with
    | .Attribute a' f' _ => decide (f' = "at") && (xvB c && (rcv a' && ckE c a a'))
    | _ => false)
  | .nv, e => noComp e
def ckEs (c : Ck) : Es → List Expr → Bool
  | .nil, es => es.isEmpty
  | .cons a r, es => (match es with
    | a' :: r' => ckE c a a' && ckEs c r r'
    | _ => false)
def ckI (c : Ck) : It → Expr → Expr → Bool
  | .seq a, _, e => ckE c a e
  | .rng a, _, e => (match e with
    | .Call (.Name x _) [a'] [] _ => decide (x = "range") && glB c x && nst a' && ckE c a a'
    | _ => false)
  | .rngs a b, _, e => (match e with
    | .Call (.Name x _) [a', b'] [] _ => decide (x = "range") && glB c x && nst a' && nst b' && (ckE c a a' && ckE c b b')
    | _ => false)
  | .rng3 a b d, _, e => (match e with
    | .Call (.Name x _) [a', b', d'] [] _ => decide (x = "range") && glB c x && nst a' && nst b' && nst d' && (ckE c a a' && (ckE c b b' && ckE c d d'))
    | _ => false)
  | .zip a b, tg, e => (match e with
    | .Call (.Name x _) [a', b'] [] _ => decide (x = "zip") && glB c x && nst a' && nst b' && isTup tg && (ckE c a a' && ckE c b b')
    | _ => false)
  | .zip3 a b d, tg, e => (match e with
    | .Call (.Name x _) [a', b', d'] [] _ => decide (x = "zip") && glB c x && nst a' && nst b' && nst d' && isTup tg && (ckE c a a' && (ckE c b b' && ckE c d d'))
    | _ => false)
  | .enm a, tg, e => (match e with
    | .Call (.Name x _) [a'] [] _ => decide (x = "enumerate") && glB c x && nst a' && isTup tg && ckE c a a'
    | _ => false)
end
end Tv
end

section
set_option autoImplicit false
set_option maxHeartbeats 1000000
/-! What `_law_word` tells of a caught error. -/
namespace Tv
open PySem PySem.Spec PyProof.Rows L2
abbrev wE : Str := "_law_e"
abbrev wK : Str := "_law_kinds"
abbrev wW : Str := "_law_words"
/-- a caught error of the class cl, as isinstance asks -/
structure IsW (K : PySem.W.Frag) (cl : Value) (c : Nat) (ns : List (Str × Nat)) (mg : Str → Option Value) : Prop where
  D : ∃ D : Addr, cl = .ref D ∧ ExcC K D ∧ (∀ x j, ns.lookup x = some j → ∃ C : Addr, mg x = some (.ref C) ∧ PySem.W.kitOne K (.ref D) (.ref C) = some (c == j)) ∧ PySem.W.kitOne K (.ref D) (.type "ValueError") = some true
section
variable {X : Cx} {px : Px} {a : Addr} {oe : Obj} {cl : Value} {d : Option Addr} {c : Nat} {ns : List (Str × Nat)}
theorem call_isW {D : Addr} (C : ExcC X.K D) (hp : (a, oe) ∈ X.pn) (hz : Zc (.ref D) d oe) (hdn : d = none) (hf : ∃ vs, oe.data = .fields vs) : CallR X (.builtin "isinstance") (rIsE X.K D a) := by
  subst hdn
  intro pins s σ H xs us Q I r h
  obtain ⟨k, cv, b, rfl, hcv, e, q⟩ := h
  obtain ⟨u1, u2, rfl, r1, r2⟩ := vals2 r
  cases r1
  have ec := hcv _ r2; subst ec
  obtain ⟨hget, _⟩ := I.pin (a, oe) (List.mem_append_left _ hp)
  obtain ⟨vs, hv⟩ := hf
  have J : PySem.W.InstAt s.heap a oe D none := by
    obtain ⟨oc, od, oda, osl⟩ := oe; obtain ⟨h1, h2⟩ := hz
    dsimp only at h1 h2 hv; subst h1 h2 hv
    exact ⟨hget, rfl, rfl, trivial⟩
  exact PySem.W.kia_one (PySem.W.handS_kitx_exc C.hg C.hk C.hs C.hd C.ha C.hn C.ht C.hm) I.kIn J e (fun z => nomatch z) fun tk => ⟨.bl b, H, I.kept (t' := tk) fun _ _ z => z, rfl, q⟩
/-- the context of the def that tells the word -/
structure WordX (X : Cx) (a : Addr) (oe : Obj) (cl : Value) (c : Nat) (ns : List (Str × Nat)) : Prop where
  N : X.N = [wE, wK, wW]
  l0 : X.env.scope.names.lookup wE = some NameKind.local
  l1 : X.env.scope.names.lookup wK = some NameKind.local
  l2 : X.env.scope.names.lookup wW = some NameKind.local
  gi : Gl X "isinstance"
  mi : X.mg "isinstance" = none
  gv : Gl X "ValueError"
  mv : X.mg "ValueError" = none
  gc : ∀ x j, ns.lookup x = some j → Gl X x
  cz : Cz X
  pin : (a, oe) ∈ X.pn
  zc : Zc cl none oe
  fs : ∃ vs, oe.data = .fields vs
  is : IsW X.K cl c ns X.mg
def C0 (a : Addr) (σ : L2.St) : Prop := σ[0]? = some (some (.ref a))
variable (wx : WordX X a oe cl c ns)
include wx
theorem WordX.var0 {p : Pos} : PE X (.Name wE p) (tVar 0) := pe_var (by rw [wx.N]; rfl) (.inl wx.l0)
theorem WordX.isE {x : Str} {j : Nat} {p p1 p2 pos : Pos} (h : ns.lookup x = some j) (hd : (x == ("__debug__" : Str)) = false) : PE X (.Call (.Name "isinstance" p) [.Name wE p1, .Name x p2] [] pos) (fun σ H Q => C0 a σ ∧ Q (.bl (c == j)) H) := by
  obtain ⟨D, e1, e2, e3, _⟩ := wx.is.D
  obtain ⟨C, m, k⟩ := e3 x j h
  have zc := wx.zc
  rw [e1] at zc
  refine PE.of (pe_callB (call_isW e2 wx.pin zc rfl wx.fs) wx.gi wx.mi (by decide +kernel) (pa_cons wx.var0 (pa_cons (pe_glob (v := .ref C) (wx.gc x j h) m rfl hd) pa_nil))) fun σ H Q ⟨h0, q⟩ => ?_
  exact ⟨.ref a, h0, .ref C, .ref C, c == j, rfl, fun u r => r, k, q⟩
theorem WordX.isV {p p1 p2 pos : Pos} : PE X (.Call (.Name "isinstance" p) [.Name wE p1, .Name "ValueError" p2] [] pos) (fun σ H Q => C0 a σ ∧ Q (.bl true) H) := by
  obtain ⟨D, e1, e2, _, k⟩ := wx.is.D
  have zc := wx.zc
  rw [e1] at zc
  refine PE.of (pe_callB (call_isW e2 wx.pin zc rfl wx.fs) wx.gi wx.mi (by decide +kernel) (pa_cons wx.var0 (pa_cons (pe_bltn (v := .ty "ValueError") wx.gv wx.mv rfl rfl) pa_nil))) fun σ H Q ⟨h0, q⟩ => ?_
  exact ⟨.ref a, h0, .ty "ValueError", .type "ValueError", true, rfl, fun u r => r, k, q⟩
/-- the asks of a display -/
def isB (ns : List (Str × Nat)) : List Expr → List Nat → Bool
  | [], [] => true
  | e :: es, j :: js => (match e with
    | .Call (.Name f _) [.Name v _, .Name x _] [] _ => decide (f = "isinstance") && decide (v = wE) && decide (ns.lookup x = some j) && !(x == ("__debug__" : Str))
    | _ => false) && isB ns es js
  | _, _ => false
theorem WordX.isA : ∀ {es : List Expr} {js : List Nat}, isB ns es js = true → PA X es (fun σ H Q => C0 a σ ∧ Q (js.map fun j => V.bl (c == j)) H)
  | [], [], _ => PA.of pa_nil fun σ H Q ⟨_, q⟩ => q
  | [], _ :: _, h => by cases h
  | _ :: _, [], h => by cases h
  | e :: es, j :: js, h => by
    unfold isB at h
    rw [Bool.and_eq_true] at h
    obtain ⟨h1, h2⟩ := h
    split at h1
    · rename_i f p v p1 x p2 pos
      simp only [Bool.and_eq_true, decide_eq_true_eq, Bool.not_eq_true'] at h1
      obtain ⟨⟨⟨rfl, rfl⟩, hx⟩, hd⟩ := h1
      refine PA.of (pa_cons (wx.isE hx hd) (WordX.isA h2)) fun σ H Q ⟨h0, q⟩ => ⟨h0, h0, q⟩
    · cases h1
end
end Tv
end

section
set_option autoImplicit false
set_option maxHeartbeats 1000000
/-! `_law_word`, row by row. -/
namespace Tv
open PySem PySem.Spec PyProof.Rows L2
section
variable {X : Cx} {px : Px} {a : Addr} {oe : Obj} {cl : Value} {c : Nat} {ns : List (Str × Nat)} {word : Str}
/-- what is left gives the word -/
def RestW (K : PySem.W.Frag) (px : Px) (a : Addr) (word : Str) (e : Ev) : TS := fun D σ H => ∃ w h, RR K px w e h σ H ∧ C0 a σ ∧ ∀ v w' H', ExtS w H w' H' → HR K w' h H' → LamX.Tabs px.T H' → VR K w' H' (.str word) v → D.rt v H'
def SEc (X : Cx) (px : Px) (a : Addr) (e : Expr) (f : Ev → Hs → R D) : Prop := PE X e (fun σ H Q => C0 a σ ∧ rdE X.K px Wno f σ H Q)
theorem SEc.of {e : Expr} {f : Ev → Hs → R D} (h : SE X px Wno e f) : SEc X px a e f := PE.of h fun _ _ _ q => q.2
theorem set_W {x : Str} {i : Nat} {e : Ev} {rhs : Expr} {f : Ev → Hs → R D} {d : D} {rest : List Stmt} {p' pos : Pos} (hN : X.N.Nodup) (hn : NmOk X x i) (hi : i ≠ 0) (hs : swapsWith rhs (some (.Name x p')) pos.line X.env = pure false) (ha : SEc X px a rhs f) (hf : ∀ h, f e h = .ok d h) (hk : d.keep = true)
    (hr : PSs X rest (RestW X.K px a word (e.put i (.v d)))) : PSs X (.Assign [.Name x p'] rhs pos :: rest) (RestW X.K px a word e) := by
  refine PSs.of (pss_cons (ps_set hN hn.1 hn.2.1 ha hs hn.2.2) hr) fun Dn σ H ⟨w, h, rr, hc, fin⟩ => ?_
  refine ⟨hc, w, e, h, rr, ?_⟩
  rw [hf h]
  intro v w' H' x1 x2 x3 x4
  refine ⟨w', h, ⟨x2, (rr.ext x1 x2 x3).er.put i (.of (VT.keep x4 hk)), x3⟩, ?_, fun u w2 H2 y1 y2 y3 y4 => fin u w2 H2 (x1.s.trans y1) y2 y3 y4⟩
  unfold C0 at hc ⊢
  rw [List.getElem?_set_ne hi]
  exact hc
theorem vrs_bls {K : PySem.W.Frag} {w : Wd} {H : Hp} {f : Nat → Bool} : ∀ {js : List Nat}, VRs K w H (js.map fun j => .bl (f j)) (js.map fun j => .bl (f j))
  | [] => .nil
  | j :: js => .cons (.bl _) vrs_bls
variable (wx : WordX X a oe cl c ns)
include wx
theorem WordX.disp {es : List Expr} {js : List Nat} {pos : Pos} (h : isB ns es js = true) (l : js.length ≤ 100) : SEc X px a (.List es pos) (fun _ h => .ok (.lst (js.map fun j => .bl (c == j))) h) := by
  refine PE.of (pe_lst (wx.isA h)) fun σ H Q ⟨hc, w, e, hh, p⟩ => ⟨hc, by rw [List.length_map, sizeLine_eq]; omega, fun q hq => p.newL hq vrs_bls⟩
omit wx in
theorem SEc.add {x y : Expr} {f g : Ev → Hs → R D} {pos : Pos} (ha : SE X px Wno x f) (hb : SEc X px a y g) : SEc X px a (.BinOp x .Add y pos) (fun e h => (f e h).bind fun x h => (g e h).bind fun y h => R.of (dBin .add x y) h) := by
  refine PE.of (pe_op (op_binD (px := px) (W := Wno) .add) ha hb) fun σ H Q ⟨hc, w, e, h, p⟩ => ?_
  refine ⟨w, e, h, p.bind.imp fun x H1 ⟨d1, h1, w1, _, x1, v1, p1⟩ => ⟨hc, w1, e, h1, p1.bind.imp fun y H2 ⟨d2, h2, w2, _, x2, v2, p2⟩ => ?_⟩⟩
  exact ⟨σ, w2, e, h2, d1, d2, v1.ext x2, v2, p2⟩
/-- texts written -/
def strB : List Expr → List Str → Bool
  | [], [] => true
  | e :: es, s :: ss => (match e with
    | .Constant (.str x) _ _ => decide (x = s)
    | _ => false) && strB es ss
  | _, _ => false
omit wx in
theorem strA {W : WX} : ∀ {es : List Expr} {ss : List Str}, strB es ss = true → SA X px W es (fun _ h => .ok (ss.map .str) h)
  | [], [], _ => PA.of pa_nil fun σ H Q ⟨w, e, h, p⟩ => p.done .nil
  | [], _ :: _, h => by cases h
  | _ :: _, [], h => by cases h
  | e :: es, s :: ss, h => by
    unfold strB at h
    rw [Bool.and_eq_true] at h
    obtain ⟨h1, h2⟩ := h
    split at h1
    · rename_i x j p
      rw [decide_eq_true_eq] at h1
      subst h1
      exact sa_cons (se_c (d := .str x) (k := .str x) (by simp [chkC])) (strA h2) rfl
    · cases h1
omit wx in
theorem strD {W : WX} {es : List Expr} {ss : List Str} {pos : Pos} (h : strB es ss = true) (l : es.length ≤ 1000) (l2 : ss.length = es.length) : SE X px W (.List es pos) (fun _ h => .ok (.lst (ss.map .str)) h) := by
  have q := se_lst (pos := pos) (strA (X := X) (px := px) (W := W) h) l (fun e h ds h' z => by cases z; rw [List.length_map]; exact l2)
  refine PE.of q fun σ H Q ⟨w, e, h, p⟩ => ⟨w, e, h, ?_⟩
  dsimp only [R.bind_ok]
  rw [if_pos (by rw [List.all_map, List.all_eq_true]; exact fun _ _ => rfl)]
  exact p
/-- the words -/
def w1L : List Str := ["grounds", "standing", "catch", "course", "bed", "number", "book", "deed", "there", "gone", "lacking"]
def w2L : List Str := ["nothing", "many", "text", "word"]
def j1L : List Nat := [1, 2, 3, 4]
def j2L : List Nat := [5, 6, 7, 8]
def j3L : List Nat := [9, 10, 11, 12]
def j4L : List Nat := [13, 14, 15, 16]
def allJ : List Nat := j1L ++ j2L ++ j3L ++ j4L
def kD (c : Nat) (js : List Nat) : D := .lst (js.map fun j => .bl (c == j))
/-- the row's shape -/
def wordB (ns : List (Str × Nat)) (b : List Stmt) : Bool := match b with
  | [.Assign [.Name x1 _] (.List es1 _) _, .Assign [.Name x2 _] (.BinOp (.Name y2 _) .Add (.List es2 _) _) _, .Assign [.Name x3 _] (.BinOp (.Name y3 _) .Add (.List es3 _) _) _, .Assign [.Name x4 _] (.BinOp (.Name y4 _) .Add (.List es4 _) _) _, .Assign [.Name x5 _] (.List es5 _) _,
     .If (.BoolOp .Or [.UnaryOp .Not (.Call (.Name f6 _) [.Name e6 _, .Name v6 _] [] _) _, .Compare (.Call (.Attribute (.Name k6 _) m6 ap6) [.Constant (.bool true) _ _] [] cp6) [.NotEq] [.Constant (.int 1) _ _] _] _) _ [] _, .If (.Subscript (.Name k7 _) (.Constant (.int 15) _ _) _) _ [] _,
     .Return (some (.BinOp (.Constant (.str s8) _ _) .Add (.Subscript (.BinOp (.Name w8 _) .Add (.List es8 _) _) (.Call (.Attribute (.Name k8 _) m8 ap8) [.Constant (.bool true) _ _] [] cp8) _) _)) _] =>
    isB ns es1 j1L && isB ns es2 j2L && isB ns es3 j3L && isB ns es4 j4L && strB es5 w1L && strB es8 w2L && decide (es5.length = 11) && decide (es8.length = 4) && decide (s8 = "! ") &&
    decide (x1 = wK) && decide (x2 = wK) && decide (x3 = wK) && decide (x4 = wK) && decide (x5 = wW) && decide (y2 = wK) && decide (y3 = wK) && decide (y4 = wK) && decide (f6 = "isinstance") && decide (e6 = wE) && decide (v6 = "ValueError") &&
    decide (k6 = wK) && decide (m6 = "count") && (ap6.endLine == cp6.line) && decide (k7 = wK) && decide (w8 = wW) && decide (k8 = wK) && decide (m8 = "index") && (ap8.endLine == cp8.line)
  | _ => false
omit wx in
theorem none_PSs {b : List Stmt} : PSs X b (fun _ _ _ => False) := ⟨fun _ _ _ _ _ _ h => h.elim⟩
omit wx in
theorem RestW.at_ {e : Ev} {Dn : Ends} {σ : L2.St} {w w' : Wd} {h : Hs} {H H' : Hp} (rr : RR X.K px w e h σ H) (hc : C0 a σ) (fin : ∀ v w' H', ExtS w H w' H' → HR X.K w' h H' → LamX.Tabs px.T H' → VR X.K w' H' (.str word) v → Dn.rt v H') (x1 : Ext w H w' H') (x2 : HR X.K w' h H') (x3 : LamX.Tabs px.T H') : RestW X.K px a word e Dn σ H' :=
  ⟨w', h, rr.ext x1 x2 x3, hc, fun u w2 H2 y1 y2 y3 y4 => fin u w2 H2 (x1.s.trans y1) y2 y3 y4⟩
omit wx in
/-- a row that looks, finds no, and goes on -/
theorem if_W {e : Ev} {cnd : Expr} {f : Ev → Hs → R D} {b rest : List Stmt} {pos : Pos} (ht : ST X px Wno cnd f) (hf : ∀ h, f e h = .ok (.bl false) h) (hr : PSs X rest (RestW X.K px a word e)) : PSs X (.If cnd b [] pos :: rest) (RestW X.K px a word e) := by
  refine PSs.of (pss_cons (ps_if ht none_PSs pss_nil) hr) fun Dn σ H ⟨w, h, rr, hc, fin⟩ => ?_
  refine ⟨w, e, h, rr, ?_⟩
  unfold tst
  rw [hf h]
  intro k w' H' x1 x2 x3 x4
  have x4 : false = k := x4
  subst x4
  exact RestW.at_ rr hc fin x1 x2 x3
/-- not an error at all, or not one of one kind alone -/
theorem WordX.or_W {e : Ev} {f : Ev → Hs → R D} {b rest : List Stmt} {g : Expr} {p p1 p2 p3 p4 p5 pos : Pos} (hg : ST X px Wno g f) (hf : ∀ h, f e h = .ok (.bl false) h) (hr : PSs X rest (RestW X.K px a word e)) :
    PSs X (.If (.BoolOp .Or [.UnaryOp .Not (.Call (.Name "isinstance" p) [.Name wE p1, .Name "ValueError" p2] [] p3) p4, g] p5) b [] pos :: rest) (RestW X.K px a word e) := by
  have ht := (pw_or (pos := p5) (pt_not (pos := p4) (pt_truth (wx.isV (p := p) (p1 := p1) (p2 := p2) (pos := p3)) (isVal_of rfl X.env))) (pw_or1 (pos := p5) hg)).pt
  refine PSs.of (pss_cons (ps_if ht none_PSs pss_nil) hr) fun Dn σ H ⟨w, h, rr, hc, fin⟩ => ?_
  refine ⟨hc, true, (VT.bl (w := w) true).tru rfl, ?_⟩
  show rdT X.K px Wno (tst f) σ H _
  refine ⟨w, e, h, rr, ?_⟩
  unfold tst
  rw [hf h]
  intro k w' H' x1 x2 x3 x4
  have x4 : false = k := x4
  subst x4
  exact RestW.at_ rr hc fin x1 x2 x3
omit wx in
theorem ret_W {e : Ev} {x : Expr} {f : Ev → Hs → R D} {pos : Pos} (ha : SE X px Wno x f) (hf : ∀ h, f e h = .ok (.str word) h) : PSs X [.Return (some x) pos] (RestW X.K px a word e) := by
  refine PSs.of (pss_one (ps_ret ha)) fun Dn σ H ⟨w, h, rr, hc, fin⟩ => ?_
  refine ⟨w, e, h, rr, ?_⟩
  rw [hf h]
  exact fun v w' H' x1 x2 x3 x4 => fin v w' H' x1.s x2 x3 (VT.keep x4 rfl)
/-- the row tells the word -/
theorem WordX.rows {b : List Stmt} (h : wordB ns b = true) (hcnt : dBi .count [kD c allJ, .bl true] = some (.int 1)) (h15 : L2.atI (allJ.map fun j => D.bl (c == j)) 15 = some (.bl false)) {i : Int} {w0 : Str}
    (hidx : dBi .index [kD c allJ, .bl true] = some (.int i)) (hw0 : dIx (.lst ((w1L ++ w2L).map .str)) (.int i) = some (.str w0)) (hw : dBin .add (.str "! ") (.str w0) = some (.str word)) : PSs X b (RestW X.K px a word [.u, .u, .u]) := by
  unfold wordB at h
  split at h
  · rename_i x1 q1 es1 p1 r1 x2 q2 y2 o2 es2 p2 b2 r2 x3 q3 y3 o3 es3 p3 b3 r3 x4 q4 y4 o4 es4 p4 b4 r4 x5 q5 es5 p5 r5 f6 pf6 e6 pe6 v6 pv6 pc6 pn6 k6 pk6 m6 ap6 kk6 pt6 cp6 ko6 po6 pcm6 pb6 t6 pi6 k7 pk7 ki7 pc7 ps7 t7 pi7 s8 ks8 pss8 w8 pw8 es8 pl8 pb8 k8 pk8 m8 ap8 kt8 pt8 cp8 psx8 pbb8 pr8
    simp only [Bool.and_eq_true, decide_eq_true_eq] at h
    obtain ⟨⟨⟨⟨⟨⟨⟨⟨⟨⟨⟨⟨⟨⟨⟨⟨⟨⟨⟨⟨⟨⟨⟨⟨⟨⟨⟨a1, a2⟩, a3⟩, a4⟩, a5⟩, a6⟩, a7⟩, a8⟩, a9⟩, rfl⟩, rfl⟩, rfl⟩, rfl⟩, rfl⟩, rfl⟩, rfl⟩, rfl⟩, rfl⟩, rfl⟩, rfl⟩, rfl⟩, rfl⟩, l6⟩, rfl⟩, rfl⟩, rfl⟩, rfl⟩, l8⟩ := h
    subst a9
    have nd : X.N.Nodup := by rw [wx.N]; decide
    have k1 : NmOk X wK 1 := ⟨by rw [wx.N]; rfl, .inl wx.l1, .inr wx.l1⟩
    have k2 : NmOk X wW 2 := ⟨by rw [wx.N]; rfl, .inl wx.l2, .inr wx.l2⟩
    have v1 : ∀ {p : Pos}, SE X px Wno (.Name wK p) (fun e h => R.of (evV e 1) h) := se_v (by rw [wx.N]; rfl) (.inl wx.l1) (by decide) (by decide)
    have v2 : ∀ {p : Pos}, SE X px Wno (.Name wW p) (fun e h => R.of (evV e 2) h) := se_v (by rw [wx.N]; rfl) (.inl wx.l2) (by decide) (by decide)
    have tr : ∀ {j : Nat} {p : Pos}, SE X px Wno (.Constant (.bool true) j p) (fun _ h => .ok (.bl true) h) := se_c rfl
    refine set_W (d := kD c j1L) nd k1 (by decide) (noComp_sw rfl _ _ _) (wx.disp a1 (by decide)) (fun h => rfl) rfl ?_
    refine set_W (d := kD c (j1L ++ j2L)) nd k1 (by decide) (noComp_sw rfl _ _ _) (SEc.add v1 (wx.disp a2 (by decide))) (fun h => rfl) rfl ?_
    refine set_W (d := kD c (j1L ++ j2L ++ j3L)) nd k1 (by decide) (noComp_sw rfl _ _ _) (SEc.add v1 (wx.disp a3 (by decide))) (fun h => rfl) rfl ?_
    refine set_W (d := kD c allJ) nd k1 (by decide) (noComp_sw rfl _ _ _) (SEc.add v1 (wx.disp a4 (by decide))) (fun h => rfl) rfl ?_
    refine set_W (d := .lst (w1L.map .str)) nd k2 (by decide) (noComp_sw rfl _ _ _) (SEc.of (strD a5 (by omega) (by rw [a7]; rfl))) (fun h => rfl) rfl ?_
    refine wx.or_W (st_cmp (o := .ne) wx.cz (se_meth (m := .count) PySem.F.plainAttrs_list PySem.F.slot_list_count PySem.F.type_list_count (mt_countD wx.cz) v1 tr rfl rfl l6) (se_c (d := .int 1) rfl) rfl) (fun h => ?_) ?_
    · show ((R.of (dBi .count [kD c allJ, .bl true]) h).bind fun x h => (R.ok (D.int 1) h).bind fun y h => R.of ((dCmp .ne x y).map D.bl) h) = _
      rw [hcnt]
      rfl
    refine if_W (st_val (se_ix v1 (se_c (d := .int 15) rfl) rfl) (isVal_of rfl X.env)) (fun h => ?_) ?_
    · show R.of (L2.atI (allJ.map fun j => D.bl (c == j)) 15) h = _
      rw [h15]
      rfl
    refine ret_W (se_bin (o := .add) (se_c (d := .str "! ") (by simp [chkC])) (se_ix (se_bin (o := .add) v2 (strD a6 (by omega) (by rw [a8]; rfl))) (se_meth (m := .index) PySem.F.plainAttrs_list PySem.F.slot_list_index PySem.F.type_list_index (mt_indexDD wx.cz) v1 tr rfl rfl l8) rfl)) (fun h => ?_)
    show ((R.of (dBi .index [kD c allJ, .bl true]) h).bind fun y h => fIx (.lst ((w1L ++ w2L).map .str)) y h).bind (fun y h => R.of (dBin .add (.str "! ") y) h) = _
    rw [hidx, R.of_some, R.bind_ok]
    show (R.of (dIx (.lst ((w1L ++ w2L).map .str)) (.int i)) h).bind (fun y h => R.of (dBin .add (.str "! ") y) h) = _
    rw [hw0, R.of_some, R.bind_ok, hw]
    rfl
  · cases h
end
end Tv
end

section
set_option autoImplicit false
set_option maxHeartbeats 1000000
/-! `_law_word`, called where an error was caught. -/
namespace Tv
open PySem PySem.Spec PyProof.Rows L2
/-- the scope of the def -/
def wordSB (ns : List (Str × Nat)) (sc : Scope) : Bool :=
  decide (sc.names.lookup wE = some NameKind.local) && decide (sc.names.lookup wK = some NameKind.local) && decide (sc.names.lookup wW = some NameKind.local) && decide (sc.names.lookup ("isinstance" : Str) = some NameKind.globalImplicit) && decide (sc.names.lookup ("ValueError" : Str) = some NameKind.globalImplicit) &&
  ns.all fun p => decide (sc.names.lookup p.1 = some NameKind.globalImplicit)
/-- what the word of the c'th class is -/
structure Words (c : Nat) (word : Str) : Prop where
  cnt : dBi .count [kD c allJ, .bl true] = some (.int 1)
  n15 : L2.atI (allJ.map fun j => D.bl (c == j)) 15 = some (.bl false)
  idx : ∃ (i : Int) (w0 : Str), dBi .index [kD c allJ, .bl true] = some (.int i) ∧ dIx (.lst ((w1L ++ w2L).map .str)) (.int i) = some (.str w0) ∧ dBin .add (.str "! ") (.str w0) = some (.str word)
/-- the promise of `_law_word` -/
def WordF (P : Program) (wo : World) (K : PySem.W.Frag) (mg : Str → Option Value) (base : Heap) (px : Px) (ns : List (Str × Nat)) (k : Nat) (f : Addr) (fd : FuncData) : Prop :=
  ∀ (A : Around) (outer : List Env) (s : Shared) (H : Hp) (a : Addr) (oe : Obj) (cl : Value) (c : Nat) (word : Str) (w : Wd) (h : Hs) (Q : VK), L2H.RoomH k A → A.guards = some [] → L2H.PinOk outer H s (a, oe) → Zc cl none oe → (∃ vs, oe.data = .fields vs) → IsW K cl c ns mg → Words c word →
    Env0 P wo K mg base A outer s H → BindsTo s fd ⟨[.ref a], []⟩ [(wE, .ref a)] → w.ow = [] → HR K w h H → LamX.Tabs px.T H → (∀ v w' H', ExtS w H w' H' → HR K w' h H' → LamX.Tabs px.T H' → VR K w' H' (.str word) v → Q v H') →
    codeAny (model P wo) A (.call (.ref f) ⟨[.ref a], []⟩) (CR C8.CX0 outer P wo H s Q C8.E0) s
section
variable {P : Program} {wo : World} {K : PySem.W.Frag} {mg : Str → Option Value} {base : Heap} {px : Px} {ns : List (Str × Nat)} {k : Nat} {f : Addr} {name qual : Str} {params : Arguments} {body : List Stmt} {scope : Scope} {dV kV doc pm cdv ct oc : Value} {an od : Option Addr} {osl : Array (Option Value)}
theorem wordF_of (lk : K.lookup f = some ⟨oc, od, .func (PySem.W.fnOf name qual params body scope dV kV doc pm an cdv ct), osl⟩) (hcd : PySem.W.codeIn K cdv qual = true) (S : FnScope [wE, wK, wW] [wE] scope) (hb : wordB ns body = true) (hs : wordSB ns scope = true)
    (mi : mg "isinstance" = none) (mv : mg "ValueError" = none) (sm : ∃ o, base.get? sysModules = some o ∧ o.cls ≠ .type "list") : WordF P wo K mg base px ns (k + 1) f (PySem.W.fnOf name qual params body scope dV kV doc pm an cdv ct) := by
  intro A outer s H a oe cl c word w h Q hr gd hpin hz hf his hw e0 hbd how hh tb fin
  have KX : K.In s.heap := e0.mod.kin.keeps fun b o e => (e0.bs b o e).1
  have lim : s.heap.NoLimit := e0.mod.nolimit.keeps fun b o e => (e0.bs b o e).1
  have hk0 : ∀ y ∈ [(wE, Value.ref a)], scope.names.lookup y.1 = some .local ∨ (scope.names.lookup y.1 = some .cell ∧ ((cellsFrom (s.heap.objs.size + 1) scope.names []).lookup y.1).isSome = true) := fun y hy => by
    rcases S.par wE List.mem_cons_self with q | q
    · exact .inl (by rw [List.mem_singleton.mp hy]; exact q)
    · exact .inr (by rw [List.mem_singleton.mp hy]; exact ⟨q, PySem.W.cellsFrom_some _ _ _ (.inl q)⟩)
  refine codeAny_call_function hr.depth (KX _ _ lk) rfl S.co S.gen rfl (PySem.W.codeRec_of KX hcd) (hbd _ _ _ _ ?_)
  refine wpAny_newFunctionEnv_cells S.kind hk0 fun env he s1 x => ?_
  subst he
  refine ⟨lim.keeps x.toInCall.keep, codeAny_func ?_⟩
  have I : Inv (L2H.cxH C8.CX0 P wo K mg base [wE, wK, wW] qual scope f cdv A outer s H C8.E0 (a, oe)) [] (L2.start [wE, wK, wW] [.ref a]) H s1 := L2H.inv_startH (ps := [wE]) (us := [.ref a]) S hpin e0 rfl (.cons rfl .nil) x
  unfold wordSB at hs
  simp only [Bool.and_eq_true, decide_eq_true_eq, List.all_eq_true] at hs
  obtain ⟨⟨⟨⟨⟨s1', s2⟩, s3⟩, s4⟩, s5⟩, s6⟩ := hs
  have wx : WordX (L2H.cxH C8.CX0 P wo K mg base [wE, wK, wW] qual scope f cdv A outer s H C8.E0 (a, oe)) a oe cl c ns := by
    refine ⟨rfl, s1', s2, s3, s4, mi, s5, mv, fun x j hx => s6 (x, j) (PySem.mem_of_lookup hx), ⟨?_, gd, sm⟩, List.mem_cons_self, hz, hf, his⟩
    have := hr.un
    show (A.deeper _).units + 200 < cLine
    show A.units + 3 + 200 < cLine
    omega
  obtain ⟨i, w0, i1, i2, i3⟩ := hw.idx
  have rows := wx.rows (px := px) (word := word) hb hw.cnt hw.n15 i1 i2 i3
  have rr : RR K px (w.enter 3) [.u, .u, .u] h (L2.start [wE, wK, wW] [.ref a]) H := by
    refine ⟨hh.weak rfl (fun a z => Wd.enter_forb z) (fun a ha => ⟨rep_none, (hh.sep a ha).2⟩) hh.prd, ⟨rfl, rfl, fun i => ?_, fun i j a q => (rep_none (List.mem_iff_getElem?.mpr ⟨i, q⟩)).elim, fun i a q => (rep_none (List.mem_iff_getElem?.mpr ⟨i, q⟩)).elim⟩, tb⟩
    rcases i with _ | _ | _ | i <;> exact trivial
  refine wpAny_mono (rows.run [] s1 _ H { nx := fun _ H' => Q .non H', rt := Q } I ⟨w.enter 3, h, rr, rfl, fun v w' H' x1 x2 x3 x4 => fin v w' H' (ext_enter.trans x1) x2 x3 x4⟩) (fun fl s' hs => ?_) fun e s' hs => hs
  cases fl with
  | ret u => obtain ⟨v, σ', H', J, rv, q⟩ := hs; exact ⟨v, H', J.os, J.bare, J.base, J.hok, rv, q⟩
  | next => obtain ⟨σ', H', J, q⟩ := hs; exact ⟨V.non, H', J.os, J.bare, J.base, J.hok, rfl, q⟩
  | brk => obtain ⟨_, _, _, q⟩ := hs; exact q.elim
  | cont => obtain ⟨_, _, _, q⟩ := hs; exact q.elim
end
/-- the fifteen words -/
def wordN (c : Nat) : Str := "! " ++ ((w1L ++ w2L).getD (c - 1) "")
theorem words_of : ∀ c, 1 ≤ c → c ≤ 15 → Words c (wordN c) := by
  have key : ∀ c, Words c (wordN c) → Words c (wordN c) := fun _ h => h
  intro c h1 h2
  have : c = 1 ∨ c = 2 ∨ c = 3 ∨ c = 4 ∨ c = 5 ∨ c = 6 ∨ c = 7 ∨ c = 8 ∨ c = 9 ∨ c = 10 ∨ c = 11 ∨ c = 12 ∨ c = 13 ∨ c = 14 ∨ c = 15 := by omega
  rcases this with rfl | rfl | rfl | rfl | rfl | rfl | rfl | rfl | rfl | rfl | rfl | rfl | rfl | rfl | rfl
  · exact ⟨rfl, rfl, 0, _, rfl, rfl, rfl⟩
  · exact ⟨rfl, rfl, 1, _, rfl, rfl, rfl⟩
  · exact ⟨rfl, rfl, 2, _, rfl, rfl, rfl⟩
  · exact ⟨rfl, rfl, 3, _, rfl, rfl, rfl⟩
  · exact ⟨rfl, rfl, 4, _, rfl, rfl, rfl⟩
  · exact ⟨rfl, rfl, 5, _, rfl, rfl, rfl⟩
  · exact ⟨rfl, rfl, 6, _, rfl, rfl, rfl⟩
  · exact ⟨rfl, rfl, 7, _, rfl, rfl, rfl⟩
  · exact ⟨rfl, rfl, 8, _, rfl, rfl, rfl⟩
  · exact ⟨rfl, rfl, 9, _, rfl, rfl, rfl⟩
  · exact ⟨rfl, rfl, 10, _, rfl, rfl, rfl⟩
  · exact ⟨rfl, rfl, 11, _, rfl, rfl, rfl⟩
  · exact ⟨rfl, rfl, 12, _, rfl, rfl, rfl⟩
  · exact ⟨rfl, rfl, 13, _, rfl, rfl, rfl⟩
  · exact ⟨rfl, rfl, 14, _, rfl, rfl, rfl⟩
theorem wordN_of : ∀ c, 1 ≤ c → c ≤ 15 → ∀ p, wordOf (.exc c p) = wordN c := by
  intro c h1 h2 p
  unfold wordOf
  dsimp only
  rw [if_neg (by omega)]
  have : c = 1 ∨ c = 2 ∨ c = 3 ∨ c = 4 ∨ c = 5 ∨ c = 6 ∨ c = 7 ∨ c = 8 ∨ c = 9 ∨ c = 10 ∨ c = 11 ∨ c = 12 ∨ c = 13 ∨ c = 14 ∨ c = 15 := by omega
  rcases this with rfl | rfl | rfl | rfl | rfl | rfl | rfl | rfl | rfl | rfl | rfl | rfl | rfl | rfl | rfl <;> rfl
end Tv
end

section
set_option autoImplicit false
set_option maxHeartbeats 2000000
/-! `_law_word` where a course broke. -/
namespace Tv
open PySem PySem.Spec PyProof.Rows L2
/-- the name in slot 0 is the error, its dict holds the year -/
def CB (a dx : Addr) (i : Int) (σ : L2.St) (H : Hp) : Prop := C0 a σ ∧ H dx = some (.xd [(bAt, .int i)])
structure WordY (X : Cx) (a dx : Addr) (oe : Obj) (C : Addr) (ns : List (Str × Nat)) : Prop where
  N : X.N = [wE, wK, wW]
  l0 : X.env.scope.names.lookup wE = some NameKind.local
  l1 : X.env.scope.names.lookup wK = some NameKind.local
  l2 : X.env.scope.names.lookup wW = some NameKind.local
  gi : Gl X "isinstance"
  mi : X.mg "isinstance" = none
  gv : Gl X "ValueError"
  mv : X.mg "ValueError" = none
  gr : Gl X "repr"
  mr : X.mg "repr" = none
  gc : ∀ x j, ns.lookup x = some j → Gl X x
  cz : Cz X
  pin : (a, oe) ∈ X.pn
  zc : Zc (.ref C) (some dx) oe
  fs : ∃ vs, oe.data = .fields vs
  is : IsW X.K (.ref C) 16 ns X.mg
  xf : XfC X.K C
  no : PySem.W.findIn X.K (.ref C) "at" = some none
theorem inst_Y {X : Cx} {pins : List (Addr × Obj)} {σ : L2.St} {H : Hp} {s : Shared} {a dx C : Addr} {oe : Obj} {i : Int} (I : Inv X pins σ H s) (hp : (a, oe) ∈ X.pn) (hz : Zc (.ref C) (some dx) oe) (hf : ∃ vs, oe.data = .fields vs) (hd : H dx = some (.xd [(bAt, .int i)])) :
    ∃ (od : Obj) (mA : Str → Option Value), PySem.W.InstAt s.heap a oe C (some od) ∧ (∀ f, RelO ([(bAt, V.int i)].lookup f) (mA f)) ∧ ∀ n, PySem.W.lookIn n od = some (mA n) := by
  obtain ⟨hget, _⟩ := I.pin (a, oe) (List.mem_append_left _ hp)
  obtain ⟨vs, hv⟩ := hf
  have hx : ObjOk X.prog X.w H s.heap dx (.xd [(bAt, .int i)]) := I.hok dx _ hd
  obtain ⟨mA, hns, hr⟩ := hx
  obtain ⟨od, ho, hl⟩ := lookIn_ns hns
  exact ⟨od, mA, ⟨hget, hz.1, by unfold PySem.W.notCls; rw [hv] <;> rfl, by rw [hz.2]; exact ho⟩, hr, hl⟩
theorem call_isY {X : Cx} {a dx D : Addr} {oe : Obj} {i : Int} (C : ExcC X.K D) (hp : (a, oe) ∈ X.pn) (hz : Zc (.ref D) (some dx) oe) (hf : ∃ vs, oe.data = .fields vs) : CallR X (.builtin "isinstance") (fun xs H Q => H dx = some (.xd [(bAt, .int i)]) ∧ rIsE X.K D a xs H Q) := by
  intro pins s σ H xs us Q I r h
  obtain ⟨hd, k, cv, b, rfl, hcv, e, q⟩ := h
  obtain ⟨u1, u2, rfl, r1, r2⟩ := vals2 r
  cases r1
  have ec := hcv _ r2; subst ec
  obtain ⟨od, mA, J, _, _⟩ := inst_Y I hp hz hf hd
  have hcl : (PySem.W.clsIn X.K D).isSome = true := by
    obtain ⟨cd, hc, _⟩ := PySem.W.any_some C.hd
    rw [hc]; rfl
  exact PySem.W.kia_one (PySem.W.kitx_exc (ox := oe) (od := some od) hcl C.hg C.hk C.hs C.ha C.hn C.ht C.hm) I.kIn J e (fun z => nomatch z) fun tk => ⟨.bl b, H, I.kept (t' := tk) fun _ _ z => z, rfl, q⟩
section
variable {X : Cx} {px : Px} {a dx C : Addr} {oe : Obj} {ns : List (Str × Nat)} {i : Int}
theorem CB.ext {K : PySem.W.Frag} {w w' : Wd} {h : Hs} {H H' : Hp} {σ : L2.St} (c : CB a dx i σ H) (r : HR K w h H) (x : Ext w H w' H') : CB a dx i σ H' := by
  refine ⟨c.1, x.keep dx _ c.2 (fun z => ?_) fun ps e => by cases e⟩
  obtain ⟨xs, q, qm⟩ := r.there z
  rw [c.2] at q; cases q; cases qm
theorem CB.set {σ : L2.St} {H : Hp} {j : Nat} {v : Option V} (c : CB a dx i σ H) (hj : j ≠ 0) : CB a dx i (σ.set j v) H := by
  refine ⟨?_, c.2⟩
  have := c.1
  unfold C0 at this ⊢
  rw [List.getElem?_set_ne hj]; exact this
def SEy (X : Cx) (px : Px) (a dx : Addr) (i : Int) (e : Expr) (f : Ev → Hs → R D) : Prop := PE X e (fun σ H Q => CB a dx i σ H ∧ rdE X.K px Wno f σ H Q)
theorem SEy.of {e : Expr} {f : Ev → Hs → R D} (h : SE X px Wno e f) : SEy X px a dx i e f := PE.of h fun _ _ _ q => q.2
/-- what is left gives the word -/
def RestY (K : PySem.W.Frag) (px : Px) (a dx : Addr) (i : Int) (word : Str) (e : Ev) : TS := fun D σ H => ∃ w h, RR K px w e h σ H ∧ CB a dx i σ H ∧ ∀ v w' H', ExtS w H w' H' → HR K w' h H' → LamX.Tabs px.T H' → VR K w' H' (.str word) v → D.rt v H'
variable {word : Str}
theorem set_Y {x : Str} {j : Nat} {e : Ev} {rhs : Expr} {f : Ev → Hs → R D} {d : D} {rest : List Stmt} {p' pos : Pos} (hN : X.N.Nodup) (hn : NmOk X x j) (hi : j ≠ 0) (hs : swapsWith rhs (some (.Name x p')) pos.line X.env = pure false) (ha : SEy X px a dx i rhs f) (hf : ∀ h, f e h = .ok d h) (hk : d.keep = true)
    (hr : PSs X rest (RestY X.K px a dx i word (e.put j (.v d)))) : PSs X (.Assign [.Name x p'] rhs pos :: rest) (RestY X.K px a dx i word e) := by
  refine PSs.of (pss_cons (ps_set hN hn.1 hn.2.1 ha hs hn.2.2) hr) fun Dn σ H ⟨w, h, rr, hc, fin⟩ => ?_
  refine ⟨hc, w, e, h, rr, ?_⟩
  rw [hf h]
  intro v w' H' x1 x2 x3 x4
  exact ⟨w', h, ⟨x2, (rr.ext x1 x2 x3).er.put j (.of (VT.keep x4 hk)), x3⟩, (hc.ext rr.hr x1).set hi, fun u w2 H2 y1 y2 y3 y4 => fin u w2 H2 (x1.s.trans y1) y2 y3 y4⟩
theorem SEy.add {x y : Expr} {f g : Ev → Hs → R D} {pos : Pos} (ha : SE X px Wno x f) (hb : SEy X px a dx i y g) : SEy X px a dx i (.BinOp x .Add y pos) (fun e h => (f e h).bind fun x h => (g e h).bind fun y h => R.of (dBin .add x y) h) := by
  refine PE.of (pe_op (op_binD (px := px) (W := Wno) .add) ha hb) fun σ H Q ⟨hc, w, e, h, p⟩ => ?_
  refine ⟨w, e, h, p.bind.imp fun x H1 ⟨d1, h1, w1, _, x1, v1, p1⟩ => ⟨hc.ext p.rr.hr x1, w1, e, h1, p1.bind.imp fun y H2 ⟨d2, h2, w2, _, x2, v2, p2⟩ => ?_⟩⟩
  exact ⟨σ, w2, e, h2, d1, d2, v1.ext x2, v2, p2⟩
variable (wx : WordY X a dx oe C ns)
include wx
theorem WordY.var0 {p : Pos} : PE X (.Name wE p) (tVar 0) := pe_var (by rw [wx.N]; rfl) (.inl wx.l0)
theorem WordY.isE {x : Str} {j : Nat} {p p1 p2 pos : Pos} (h : ns.lookup x = some j) (hd : (x == ("__debug__" : Str)) = false) : PE X (.Call (.Name "isinstance" p) [.Name wE p1, .Name x p2] [] pos) (fun σ H Q => CB a dx i σ H ∧ Q (.bl (16 == j)) H) := by
  obtain ⟨D, e1, e2, e3, _⟩ := wx.is.D
  cases e1
  obtain ⟨CC, m, k⟩ := e3 x j h
  refine PE.of (pe_callB (call_isY (i := i) e2 wx.pin wx.zc wx.fs) wx.gi wx.mi (by decide +kernel) (pa_cons wx.var0 (pa_cons (pe_glob (v := .ref CC) (wx.gc x j h) m rfl hd) pa_nil))) fun σ H Q ⟨h0, q⟩ => ?_
  exact ⟨.ref a, h0.1, h0.2, .ref CC, .ref CC, 16 == j, rfl, fun u r => r, k, q⟩
theorem WordY.isV {p p1 p2 pos : Pos} : PE X (.Call (.Name "isinstance" p) [.Name wE p1, .Name "ValueError" p2] [] pos) (fun σ H Q => CB a dx i σ H ∧ Q (.bl true) H) := by
  obtain ⟨D, e1, e2, _, k⟩ := wx.is.D
  cases e1
  refine PE.of (pe_callB (call_isY (i := i) e2 wx.pin wx.zc wx.fs) wx.gi wx.mi (by decide +kernel) (pa_cons wx.var0 (pa_cons (pe_bltn (v := .ty "ValueError") wx.gv wx.mv rfl rfl) pa_nil))) fun σ H Q ⟨h0, q⟩ => ?_
  exact ⟨.ref a, h0.1, h0.2, .ty "ValueError", .type "ValueError", true, rfl, fun u r => r, k, q⟩
theorem WordY.isA : ∀ {es : List Expr} {js : List Nat}, isB ns es js = true → PA X es (fun σ H Q => CB a dx i σ H ∧ Q (js.map fun j => V.bl (16 == j)) H)
  | [], [], _ => PA.of pa_nil fun σ H Q ⟨_, q⟩ => q
  | [], _ :: _, h => by cases h
  | _ :: _, [], h => by cases h
  | e :: es, j :: js, h => by
    unfold isB at h
    rw [Bool.and_eq_true] at h
    obtain ⟨h1, h2⟩ := h
    split at h1
    · rename_i f p v p1 x p2 pos
      simp only [Bool.and_eq_true, decide_eq_true_eq, Bool.not_eq_true'] at h1
      obtain ⟨⟨⟨rfl, rfl⟩, hx⟩, hd⟩ := h1
      refine PA.of (pa_cons (wx.isE hx hd) (WordY.isA h2)) fun σ H Q ⟨h0, q⟩ => ⟨h0, h0, q⟩
    · cases h1
theorem WordY.disp {es : List Expr} {js : List Nat} {pos : Pos} (h : isB ns es js = true) (l : js.length ≤ 100) : SEy X px a dx i (.List es pos) (fun _ h => .ok (.lst (js.map fun j => .bl (16 == j))) h) := by
  refine PE.of (pe_lst (wx.isA h)) fun σ H Q ⟨hc, w, e, hh, p⟩ => ⟨hc, by rw [List.length_map, sizeLine_eq]; omega, fun q hq => p.newL hq vrs_bls⟩
/-- the year -/
theorem WordY.yr {p pos : Pos} : PE X (.Attribute (.Name wE p) bAt pos) (fun σ H Q => CB a dx i σ H ∧ Q (.int i) H) := by
  refine ⟨fun pins s σ H Q I ⟨hc, q⟩ => ?_⟩
  refine attr_of (by rfl) (thn (wx.var0.run pins s σ H (fun v H1 => v = .ref a ∧ H1 = H) I ⟨.ref a, hc.1, rfl, rfl⟩) fun u s1 ⟨v, H1, I1, r1, ev, eH⟩ => ?_)
  subst ev; subst eH
  obtain rfl : u = Value.ref a := r1
  obtain ⟨od, mA, J, hr, hl⟩ := inst_Y I1 wx.pin wx.zc wx.fs hc.2
  obtain ⟨u, hu, ru⟩ := RelO.some_of (v := .int i) (o := mA bAt) (by exact hr bAt)
  exact HandSPX.exc_get I1.kIn J wx.xf.ga wx.xf.gg wx.xf.exC (PySem.W.findObj_own wx.xf.hdC wx.no rfl (by rw [hl, hu])) (handed_of ru) ⟨.int i, H1, I1.tok _, ru, q⟩
theorem WordY.rep {p p1 p2 pos : Pos} : SEy X px a dx i (.Call (.Name "repr" p) [.Attribute (.Name wE p1) bAt p2] [] pos) (fun _ h => R.of (dRep (.int i)) h) := by
  refine PE.of (pe_callB (bi_rep (px := px) (W := Wno) wx.cz) wx.gr wx.mr (by decide +kernel) (pa_cons (wx.yr (i := i)) pa_nil)) fun σ H Q ⟨hc, w, e, h, p⟩ => ?_
  exact ⟨hc, σ, w, e, h, [.int i], .cons (.of (.of (.int i))) .nil, p⟩
omit wx in
theorem RestY.at_ {e : Ev} {Dn : Ends} {σ : L2.St} {w w' : Wd} {h : Hs} {H H' : Hp} (rr : RR X.K px w e h σ H) (hc : CB a dx i σ H) (fin : ∀ v w' H', ExtS w H w' H' → HR X.K w' h H' → LamX.Tabs px.T H' → VR X.K w' H' (.str word) v → Dn.rt v H') (x1 : Ext w H w' H') (x2 : HR X.K w' h H') (x3 : LamX.Tabs px.T H') : RestY X.K px a dx i word e Dn σ H' :=
  ⟨w', h, rr.ext x1 x2 x3, hc.ext rr.hr x1, fun u w2 H2 y1 y2 y3 y4 => fin u w2 H2 (x1.s.trans y1) y2 y3 y4⟩
theorem WordY.or_W {e : Ev} {f : Ev → Hs → R D} {b rest : List Stmt} {g : Expr} {p p1 p2 p3 p4 p5 pos : Pos} (hg : ST X px Wno g f) (hf : ∀ h, f e h = .ok (.bl false) h) (hr : PSs X rest (RestY X.K px a dx i word e)) :
    PSs X (.If (.BoolOp .Or [.UnaryOp .Not (.Call (.Name "isinstance" p) [.Name wE p1, .Name "ValueError" p2] [] p3) p4, g] p5) b [] pos :: rest) (RestY X.K px a dx i word e) := by
  have ht := (pw_or (pos := p5) (pt_not (pos := p4) (pt_truth (wx.isV (i := i) (p := p) (p1 := p1) (p2 := p2) (pos := p3)) (isVal_of rfl X.env))) (pw_or1 (pos := p5) hg)).pt
  refine PSs.of (pss_cons (ps_if ht none_PSs pss_nil) hr) fun Dn σ H ⟨w, h, rr, hc, fin⟩ => ?_
  refine ⟨hc, true, (VT.bl (w := w) true).tru rfl, ?_⟩
  show rdT X.K px Wno (tst f) σ H _
  refine ⟨w, e, h, rr, ?_⟩
  unfold tst
  rw [hf h]
  intro k w' H' x1 x2 x3 x4
  have x4 : false = k := x4
  subst x4
  exact RestY.at_ rr hc fin x1 x2 x3
omit wx in
theorem ret_Y {e : Ev} {x : Expr} {f : Ev → Hs → R D} {pos : Pos} (ha : SEy X px a dx i x f) (hf : ∀ h, f e h = .ok (.str word) h) : PSs X [.Return (some x) pos] (RestY X.K px a dx i word e) := by
  refine PSs.of (pss_one (ps_ret ha)) fun Dn σ H ⟨w, h, rr, hc, fin⟩ => ?_
  refine ⟨hc, w, e, h, rr, ?_⟩
  rw [hf h]
  exact fun v w' H' x1 x2 x3 x4 => fin v w' H' x1.s x2 x3 (VT.keep x4 rfl)
omit wx in
theorem yes_Y {e : Ev} {cnd : Expr} {f : Ev → Hs → R D} {b rest : List Stmt} {pos : Pos} (ht : ST X px Wno cnd f) (hf : ∀ h, f e h = .ok (.bl true) h) (hb : PSs X b (RestY X.K px a dx i word e)) : PSs X (.If cnd b [] pos :: rest) (RestY X.K px a dx i word e) := by
  refine PSs.of (pss_cons (ps_if ht hb pss_nil) none_PSs) fun Dn σ H ⟨w, h, rr, hc, fin⟩ => ?_
  refine ⟨w, e, h, rr, ?_⟩
  unfold tst
  rw [hf h]
  intro k w' H' x1 x2 x3 x4
  have x4 : true = k := x4
  subst x4
  exact RestY.at_ rr hc fin x1 x2 x3
/-- the row's end for such an error -/
def wordYB (b : List Stmt) : Bool := match b with
  | [_, _, _, _, _, _, .If _ [.Return (some (.BinOp (.Constant (.str s) _ _) .Add (.Call (.Name r _) [.Attribute (.Name e _) f _] [] _) _)) _] [] _, _] => decide (s = "! broken ") && decide (r = "repr") && decide (e = wE) && decide (f = bAt)
  | _ => false
theorem WordY.rows {b : List Stmt} (h : wordB ns b = true) (h2 : wordYB b = true) (hd : dRep (.int i) = some (.str (PyData.shown (.int i)))) (hw : dBin .add (.str "! broken ") (.str (PyData.shown (.int i))) = some (.str word)) : PSs X b (RestY X.K px a dx i word [.u, .u, .u]) := by
  unfold wordB at h
  split at h
  · rename_i x1 q1 es1 p1 r1 x2 q2 y2 o2 es2 p2 b2 r2 x3 q3 y3 o3 es3 p3 b3 r3 x4 q4 y4 o4 es4 p4 b4 r4 x5 q5 es5 p5 r5 f6 pf6 e6 pe6 v6 pv6 pc6 pn6 k6 pk6 m6 ap6 kk6 pt6 cp6 ko6 po6 pcm6 pb6 t6 pi6 k7 pk7 ki7 pc7 ps7 t7 pi7 s8 ks8 pss8 w8 pw8 es8 pl8 pb8 k8 pk8 m8 ap8 kt8 pt8 cp8 psx8 pbb8 pr8
    simp only [Bool.and_eq_true, decide_eq_true_eq] at h
    obtain ⟨⟨⟨⟨⟨⟨⟨⟨⟨⟨⟨⟨⟨⟨⟨⟨⟨⟨⟨⟨⟨⟨⟨⟨⟨⟨⟨a1, a2⟩, a3⟩, a4⟩, a5⟩, a6⟩, a7⟩, a8⟩, a9⟩, rfl⟩, rfl⟩, rfl⟩, rfl⟩, rfl⟩, rfl⟩, rfl⟩, rfl⟩, rfl⟩, rfl⟩, rfl⟩, rfl⟩, rfl⟩, l6⟩, rfl⟩, rfl⟩, rfl⟩, rfl⟩, l8⟩ := h
    unfold wordYB at h2
    split at h2
    · rename_i heq
      simp only [List.cons.injEq, Stmt.If.injEq, and_true, true_and] at heq
      obtain ⟨_, _, _, _, _, _, ⟨_, rfl, _⟩, _⟩ := heq
      simp only [Bool.and_eq_true, decide_eq_true_eq] at h2
      obtain ⟨⟨⟨rfl, rfl⟩, rfl⟩, rfl⟩ := h2
      have nd : X.N.Nodup := by rw [wx.N]; decide
      have k1 : NmOk X wK 1 := ⟨by rw [wx.N]; rfl, .inl wx.l1, .inr wx.l1⟩
      have k2 : NmOk X wW 2 := ⟨by rw [wx.N]; rfl, .inl wx.l2, .inr wx.l2⟩
      have v1 : ∀ {p : Pos}, SE X px Wno (.Name wK p) (fun e h => R.of (evV e 1) h) := se_v (by rw [wx.N]; rfl) (.inl wx.l1) (by decide) (by decide)
      have tr : ∀ {j : Nat} {p : Pos}, SE X px Wno (.Constant (.bool true) j p) (fun _ h => .ok (.bl true) h) := se_c rfl
      refine set_Y (d := kD 16 j1L) nd k1 (by decide) (noComp_sw rfl _ _ _) (wx.disp a1 (by decide)) (fun h => rfl) rfl ?_
      refine set_Y (d := kD 16 (j1L ++ j2L)) nd k1 (by decide) (noComp_sw rfl _ _ _) (SEy.add v1 (wx.disp a2 (by decide))) (fun h => rfl) rfl ?_
      refine set_Y (d := kD 16 (j1L ++ j2L ++ j3L)) nd k1 (by decide) (noComp_sw rfl _ _ _) (SEy.add v1 (wx.disp a3 (by decide))) (fun h => rfl) rfl ?_
      refine set_Y (d := kD 16 allJ) nd k1 (by decide) (noComp_sw rfl _ _ _) (SEy.add v1 (wx.disp a4 (by decide))) (fun h => rfl) rfl ?_
      refine set_Y (d := .lst (w1L.map .str)) nd k2 (by decide) (noComp_sw rfl _ _ _) (SEy.of (strD a5 (by omega) (by rw [a7]; rfl))) (fun h => rfl) rfl ?_
      refine wx.or_W (st_cmp (o := .ne) wx.cz (se_meth (m := .count) PySem.F.plainAttrs_list PySem.F.slot_list_count PySem.F.type_list_count (mt_countD wx.cz) v1 tr rfl rfl l6) (se_c (d := .int 1) rfl) rfl) (fun h => ?_) ?_
      · show ((R.of (dBi .count [kD 16 allJ, .bl true]) h).bind fun x h => (R.ok (D.int 1) h).bind fun y h => R.of ((dCmp .ne x y).map D.bl) h) = _
        have hcnt : dBi .count [kD 16 allJ, .bl true] = some (.int 1) := rfl
        rw [hcnt]
        rfl
      refine yes_Y (st_val (se_ix v1 (se_c (d := .int 15) rfl) rfl) (isVal_of rfl X.env)) (fun h => rfl) ?_
      refine ret_Y (SEy.add (se_c (d := .str "! broken ") (by simp [chkC])) wx.rep) (fun h => ?_)
      show (R.of (dRep (.int i)) h).bind (fun y h => R.of (dBin .add (.str "! broken ") y) h) = _
      rw [hd, R.of_some, R.bind_ok, hw]
      rfl
    · cases h2
  · cases h
end
/-- the promise of `_law_word` at such an error -/
def WordFB (P : Program) (wo : World) (K : PySem.W.Frag) (mg : Str → Option Value) (base : Heap) (px : Px) (ns : List (Str × Nat)) (k : Nat) (f : Addr) (fd : FuncData) : Prop :=
  ∀ (A : Around) (outer : List Env) (s : Shared) (H : Hp) (a dx : Addr) (oe : Obj) (C : Addr) (i : Int) (word : Str) (w : Wd) (h : Hs) (Q : VK), L2H.RoomH k A → A.guards = some [] → L2H.PinOk outer H s (a, oe) → Zc (.ref C) (some dx) oe → (∃ vs, oe.data = .fields vs) → IsW K (.ref C) 16 ns mg → XfC K C → PySem.W.findIn K (.ref C) "at" = some none → H dx = some (.xd [(bAt, .int i)]) →
    dRep (.int i) = some (.str (PyData.shown (.int i))) → dBin .add (.str "! broken ") (.str (PyData.shown (.int i))) = some (.str word) →
    Env0 P wo K mg base A outer s H → BindsTo s fd ⟨[.ref a], []⟩ [(wE, .ref a)] → w.ow = [] → HR K w h H → LamX.Tabs px.T H → (∀ v w' H', ExtS w H w' H' → HR K w' h H' → LamX.Tabs px.T H' → VR K w' H' (.str word) v → Q v H') →
    codeAny (model P wo) A (.call (.ref f) ⟨[.ref a], []⟩) (CR C8.CX0 outer P wo H s Q C8.E0) s
section
variable {P : Program} {wo : World} {K : PySem.W.Frag} {mg : Str → Option Value} {base : Heap} {px : Px} {ns : List (Str × Nat)} {k : Nat} {f : Addr} {name qual : Str} {params : Arguments} {body : List Stmt} {scope : Scope} {dV kV doc pm cdv ct oc : Value} {an od : Option Addr} {osl : Array (Option Value)}
theorem wordFB_of (lk : K.lookup f = some ⟨oc, od, .func (PySem.W.fnOf name qual params body scope dV kV doc pm an cdv ct), osl⟩) (hcd : PySem.W.codeIn K cdv qual = true) (S : FnScope [wE, wK, wW] [wE] scope) (hb : wordB ns body = true) (hb2 : wordYB body = true) (hs : wordSB ns scope = true) (hs2 : scope.names.lookup ("repr" : Str) = some NameKind.globalImplicit)
    (mi : mg "isinstance" = none) (mv : mg "ValueError" = none) (mr : mg "repr" = none) (sm : ∃ o, base.get? sysModules = some o ∧ o.cls ≠ .type "list") : WordFB P wo K mg base px ns (k + 1) f (PySem.W.fnOf name qual params body scope dV kV doc pm an cdv ct) := by
  intro A outer s H a dx oe C i word w h Q hr gd hpin hz hf his hxf hno hdx hd hw e0 hbd how hh tb fin
  have KX : K.In s.heap := e0.mod.kin.keeps fun b o e => (e0.bs b o e).1
  have lim : s.heap.NoLimit := e0.mod.nolimit.keeps fun b o e => (e0.bs b o e).1
  have hk0 : ∀ y ∈ [(wE, Value.ref a)], scope.names.lookup y.1 = some .local ∨ (scope.names.lookup y.1 = some .cell ∧ ((cellsFrom (s.heap.objs.size + 1) scope.names []).lookup y.1).isSome = true) := fun y hy => by
    rcases S.par wE List.mem_cons_self with q | q
    · exact .inl (by rw [List.mem_singleton.mp hy]; exact q)
    · exact .inr (by rw [List.mem_singleton.mp hy]; exact ⟨q, PySem.W.cellsFrom_some _ _ _ (.inl q)⟩)
  refine codeAny_call_function hr.depth (KX _ _ lk) rfl S.co S.gen rfl (PySem.W.codeRec_of KX hcd) (hbd _ _ _ _ ?_)
  refine wpAny_newFunctionEnv_cells S.kind hk0 fun env he s1 x => ?_
  subst he
  refine ⟨lim.keeps x.toInCall.keep, codeAny_func ?_⟩
  have I : Inv (L2H.cxH C8.CX0 P wo K mg base [wE, wK, wW] qual scope f cdv A outer s H C8.E0 (a, oe)) [] (L2.start [wE, wK, wW] [.ref a]) H s1 := L2H.inv_startH (ps := [wE]) (us := [.ref a]) S hpin e0 rfl (.cons rfl .nil) x
  unfold wordSB at hs
  simp only [Bool.and_eq_true, decide_eq_true_eq, List.all_eq_true] at hs
  obtain ⟨⟨⟨⟨⟨s1', s2⟩, s3⟩, s4⟩, s5⟩, s6⟩ := hs
  have wx : WordY (L2H.cxH C8.CX0 P wo K mg base [wE, wK, wW] qual scope f cdv A outer s H C8.E0 (a, oe)) a dx oe C ns := by
    refine ⟨rfl, s1', s2, s3, s4, mi, s5, mv, hs2, mr, fun x j hx => s6 (x, j) (PySem.mem_of_lookup hx), ⟨?_, gd, sm⟩, List.mem_cons_self, hz, hf, his, hxf, hno⟩
    have := hr.un
    show (A.deeper _).units + 200 < cLine
    show A.units + 3 + 200 < cLine
    omega
  have rows := wx.rows (px := px) (i := i) (word := word) hb hb2 hd hw
  have rr : RR K px (w.enter 3) [.u, .u, .u] h (L2.start [wE, wK, wW] [.ref a]) H := by
    refine ⟨hh.weak rfl (fun a z => Wd.enter_forb z) (fun a ha => ⟨rep_none, (hh.sep a ha).2⟩) hh.prd, ⟨rfl, rfl, fun i => ?_, fun i j a q => (rep_none (List.mem_iff_getElem?.mpr ⟨i, q⟩)).elim, fun i a q => (rep_none (List.mem_iff_getElem?.mpr ⟨i, q⟩)).elim⟩, tb⟩
    rcases i with _ | _ | _ | i <;> exact trivial
  refine wpAny_mono (rows.run [] s1 _ H { nx := fun _ H' => Q .non H', rt := Q } I ⟨w.enter 3, h, rr, ⟨rfl, hdx⟩, fun v w' H' x1 x2 x3 x4 => fin v w' H' (ext_enter.trans x1) x2 x3 x4⟩) (fun fl s' hs => ?_) fun e s' hs => hs
  cases fl with
  | ret u => obtain ⟨v, σ', H', J, rv, q⟩ := hs; exact ⟨v, H', J.os, J.bare, J.base, J.hok, rv, q⟩
  | next => obtain ⟨σ', H', J, q⟩ := hs; exact ⟨V.non, H', J.os, J.bare, J.base, J.hok, rfl, q⟩
  | brk => obtain ⟨_, _, _, q⟩ := hs; exact q.elim
  | cont => obtain ⟨_, _, _, q⟩ := hs; exact q.elim
end
end Tv
end

section
set_option autoImplicit false
set_option maxHeartbeats 2000000
/-! A lambda made, handed over, called. -/
namespace Tv
open PySem PySem.Spec PyProof.Rows L2
section
variable {X : Cx} {pins : List (Addr × Obj)} {σ : L2.St} {H HZ : Hp} {s s1 : Shared}
/-- the lambda is made; no address goes free -/
theorem lam_made {T : List (Addr × Str)} {c P : Addr} {ar : Arguments} {bd : Expr} {sc : Scope} {pos : Pos} {E Q : Value → Shared → Prop} (I : Inv X pins σ H s) (TB : LamX.TabB X.base X.mg c P) (hcd : X.env.code = .ref c) (hm : (P, X.env.qual ++ "<lambda>") ∈ T) (hu : ∀ p ∈ T, p.1 = P → p.2 = X.env.qual ++ "<lambda>")
    (hT : LamX.Tabs T H) (hdf : defaultsOf ar X.env = ([], [])) (hfree : ∀ y ∈ sc.names, y.2 = .free → ∃ c, X.env.cells.lookup y.1 = some c)
    (go : ∀ (f c' : Addr) (pm ctv : Value) (H1 : Hp) (s' : Shared), Inv X pins σ H1 s' → LamX.ExtN H H1 → (∀ b, H1 b = none → H b = none) → LamX.Tabs T H1 → s'.heap.get? f = some (PySem.W.kla_obj "<lambda>" (X.env.qual ++ "<lambda>") ar bd sc (cloFrom X.env.cells sc.names []) pm c' ctv) → H1 f = none → f ∉ frs X.stack → H1 c' = some (LamX.CodeO c' (X.env.qual ++ "<lambda>")) → Q (.ref f) s') :
    wpAny (model X.prog X.w) X.A (eval (.Lambda ar bd sc pos) X.env) Q E s := by
  obtain ⟨ps, hP, ht, ha⟩ := hT _ hm
  refine PySem.W.kla_eval hdf ?_
  have bP : s.heap.BuiltinsAt X.mg P := TB.bm.keeps I.bk; have hP' : s.heap.get? P = some { cls := .none, data := .fields ps } := I.hok P _ hP
  have nofr : ∀ f, s.heap.objs.size ≤ f → f ∉ frs X.stack := fun f hf z => (List.mem_cons.mp (I.stkSub _ z)).elim (fun e => Nat.lt_irrefl _ (Nat.lt_of_lt_of_le (e ▸ I.lt) hf)) fun e => I.nofs hf e
  cases hc : codeAmong pos ps.toList with
  | none =>
    refine PySem.W.kla_makeFunction (mg := X.mg) (c := c) (P := P) (ps := ps) (closure_ok hfree) I.ok.glob (I.mod.glob.keeps I.bk) hcd (TB.code.keeps I.bk) hP' ht hc TB.gP bP fun c' ctv h' tk hx hge hlt hrec htb => ?_
    obtain ⟨c2, oc, vs, t, e2, hoc, hd, hv⟩ := hrec; cases e2
    have hsz : s.heap.objs.size ≤ h'.objs.size := Nat.le_trans hge (Nat.le_of_lt hlt); have nC : H c' = none := I.hok.fresh hge
    have I1 := LamX.inv_table (t' := tk) (more := #[rawInt pos.line, rawInt pos.col, .ref c']) (h' := h'.push (PySem.W.kla_obj "<lambda>" (X.env.qual ++ "<lambda>") ar bd sc (cloFrom X.env.cells sc.names []) ((X.mg "__name__").getD .none) c' ctv)) I hP (fun b o hb e => Heap.get?_push_of_some _ (hx b o hb e)) (Heap.get?_push_of_some _ htb) hge ⟨oc, vs, t, Heap.get?_push_of_some _ hoc, hd, hv⟩
    have hE : LamX.ExtN H (upd (upd H P (.tbl (ps ++ #[rawInt pos.line, rawInt pos.col, .ref c']))) c' (LamX.CodeO c' (X.env.qual ++ "<lambda>"))) := fun b o e n => by
      rw [upd_ne (ne_of_none e nC), upd_ne (fun z => n ps (Option.some.inj (e.symm.trans (by rw [z]; exact hP)))), e]
    have hD : ∀ b, upd (upd H P (.tbl (ps ++ #[rawInt pos.line, rawInt pos.col, .ref c']))) c' (LamX.CodeO c' (X.env.qual ++ "<lambda>")) b = none → H b = none := fun b e => by
      by_cases h1 : b = c'
      · rw [h1]; exact nC
      · by_cases h2 : b = P
        · rw [upd_ne h1, h2, upd_same] at e; cases e
        · rw [upd_ne h1, upd_ne h2] at e; exact e
    have eL : (ps ++ #[rawInt pos.line, rawInt pos.col, .ref c']).toList = ps.toList ++ [rawInt pos.line, rawInt pos.col, .ref c'] := by simp
    refine go h'.objs.size c' ((X.mg "__name__").getD .none) ctv _ _ I1 hE hD (fun p hp => ?_) (Heap.get?_push_size _ rfl) ?_ (nofr _ hsz) upd_same
    · by_cases hb : p.1 = P
      · rw [hu p hp hb, hb]
        refine ⟨_, by rw [upd_ne (ne_of_none hP nC), upd_same], by rw [eL]; exact PySem.TriplesOk_snoc _ _ _ _ ht, fun p' cv hcv => ?_⟩
        rw [eL] at hcv
        rcases LamX.among_app _ ht hcv with z | z
        · obtain ⟨c0, e1, e2⟩ := ha p' cv z; exact ⟨c0, e1, hE _ _ e2 LamX.codeO_ne⟩
        · exact ⟨c', z, upd_same⟩
      · obtain ⟨ps', a1, a2, a3⟩ := hT p hp
        refine ⟨ps', by rw [upd_ne (ne_of_none a1 nC), upd_ne hb, a1], a2, fun p' cv hcv => ?_⟩
        obtain ⟨c0, e1, e2⟩ := a3 p' cv hcv; exact ⟨c0, e1, hE _ _ e2 LamX.codeO_ne⟩
    · rw [upd_ne (Nat.ne_of_gt hlt), upd_ne (Nat.ne_of_gt (Nat.lt_of_lt_of_le (Heap.lt_size hP') hsz))]
      exact I.hok.fresh hsz
  | some cv =>
    obtain ⟨c', e, hco⟩ := ha pos cv hc; subst e
    refine PySem.W.kla_makeFunctionHit (mg := X.mg) (c := c) (P := P) (ps := ps) (closure_ok hfree) I.ok.glob (I.mod.glob.keeps I.bk) hcd (TB.code.keeps I.bk) hP' ht hc bP fun ctv h' tk hx hsz => ?_
    have I1 : Inv X pins σ H { s with heap := h'.push (PySem.W.kla_obj "<lambda>" (X.env.qual ++ "<lambda>") ar bd sc (cloFrom X.env.cells sc.names []) ((X.mg "__name__").getD .none) c' ctv), toks := tk } := I.kept fun b o e => Heap.get?_push_of_some _ (hx b o e)
    exact go h'.objs.size c' ((X.mg "__name__").getD .none) ctv H _ I1 (LamX.ExtN.refl H) (fun _ e => e) hT (Heap.get?_push_size _ rfl) (I.hok.fresh hsz) (nofr _ hsz) hco
/-- it is called where it was handed in -/
theorem lam_act {CXg : CXT} {Eg E : XK} {Ng : List Str} {qg a : Str} {sg sc : Scope} {g f c' : Addr} {cdg pm ctv : Value} {ar : Arguments} {bd : Expr} {i : Nat} {pn : List (Addr × Obj)} {xe : Value → Shared → Prop} {W : WX} {tb : TE} {p1 p2 : Pos} (I : Inv X pins σ H s) (L : LamX.LamS X.env.scope sc)
    (hf : s.heap.get? f = some (PySem.W.kla_obj "<lambda>" (X.env.qual ++ "<lambda>") ar bd sc (cloFrom X.env.cells sc.names []) pm c' ctv)) (hfn : H f = none) (hfr : f ∉ frs X.stack) (hbi : bindArgs (PySem.W.kla_fn "<lambda>" (X.env.qual ++ "<lambda>") ar bd sc (cloFrom X.env.cells sc.names []) pm (.ref c') ctv) ⟨[], []⟩ = pure [])
    (tk : Takes ((cxOf CXg X.prog X.w X.K X.mg X.base Ng qg sg g cdg X.A X.stack s H Eg).tr pn xe) W) (hW : ∀ cls d σ' H', E cls d H' → W cls d σ' H') (hr : Room 1 (X.A.deeper (envOfC qg sg s.heap.objs.size g cdg)))
    (hbody : ∀ (outer : List Env) (s0 : Shared) (H : Hp), PE (LamX.lamCx X (X.A.deeper (envOfC qg sg s.heap.objs.size g cdg)) outer s0 H E sc f c') bd tb) (hN : Ng[i]? = some a) (hv : Vis sg a) (hd : (a == ("__debug__" : Str)) = false) (hcd : (a == ("__classdict__" : Str)) = false) :
    PE ((cxOf CXg X.prog X.w X.K X.mg X.base Ng qg sg g cdg X.A X.stack s H Eg).tr pn xe) (.Call (.Name a p1) [] [] p2) (fun σZ HZ Q => σZ[i]? = some (some (.ref f)) ∧ HZ c' = some (LamX.CodeO c' (X.env.qual ++ "<lambda>")) ∧ tb σ HZ Q) := by
  refine ⟨fun pinsZ sZ σZ HZ Q IZ ⟨hs, hc, ht⟩ => ?_⟩
  refine wpAny_Call_Name_kw (thn ((pe_var (pos := p1) (i := i) hN hv hd hcd).run pinsZ sZ σZ HZ (fun v H1 => v = .ref f ∧ H1 = HZ) IZ ⟨.ref f, hs, rfl, rfl⟩) fun u s1 ⟨v, H1, I1, r1, ev, eH⟩ => ?_)
  subst ev; rw [eH] at I1
  obtain rfl : u = Value.ref f := r1
  have of1 : s1.heap.get? f = some (PySem.W.kla_obj "<lambda>" (X.env.qual ++ "<lambda>") ar bd sc (cloFrom X.env.cells sc.names []) pm c' ctv) := I1.base.keep f _ hf hfn hfr (fun z => nomatch (show f ∈ ([] : List Addr) from z))
  refine PySem.W.callWith_F0 ⟨_, _, _, _, of1⟩ ?_
  have un : Un (frs X.stack) [] H HZ s.heap s1.heap := I1.base
  obtain ⟨⟨oc, vs, t, hoc, hdc, hvc⟩, _, _⟩ := I1.hok c' _ hc
  have rc : codeAny (model X.prog X.w) (X.A.deeper (envOfC qg sg s.heap.objs.size g cdg)) (.call (.ref f) ⟨[], []⟩) (CR (L2.CX X.prog X.w) (envOfC qg sg s.heap.objs.size g cdg :: X.stack) X.prog X.w HZ s1 Q E) s1 := by
    refine PySem.W.kla_callFunE hr.depth of1 rfl L.co L.gen rfl ⟨c', oc, vs, t, rfl, hoc, hdc, hvc⟩ ?_
    rw [hbi]
    refine wpAny_pure (wpAny_newFunctionEnv (fun y hy => (L.own y hy).2) (fun y hy => absurd hy (by simp)) (fun h₁ hns hsb => ⟨I1.nolimit.fresh _ hsb, ?_⟩) L.kind)
    show codeAny _ _ (.expr bd (LamX.lamEnv X sc s1.heap.objs.size f c')) _ _
    have kp : ∀ b o, s1.heap.get? b = some o → h₁.get? b = some o := fun b o e => hsb.extBut b o (Nat.ne_of_lt (Heap.lt_size e)) (Heap.get?_push_of_some _ e)
    have J : Inv (LamX.lamCx X (X.A.deeper (envOfC qg sg s.heap.objs.size g cdg)) (envOfC qg sg s.heap.objs.size g cdg :: X.stack) s1 HZ E sc f c') [] σ HZ { s1 with heap := h₁, toks := s1.toks + ([] : List (Str × Value)).length } := LamX.lam_start2 I L I1.env0 hr.hd un hns kp
    refine PySem.W.kla_codeExpr (wpAny_mono ((hbody _ s1 HZ).run [] _ _ HZ Q J ht) (fun v s' hq => ?_) fun e s' hq => hq)
    obtain ⟨w', H', J', rv, q⟩ := hq; exact ⟨w', H', J'.os, J'.bare, J'.base, J'.hok, rv, q⟩
  refine wpAny_call (codeAny_mono rc fun r s' hq => ?_)
  cases r with
  | error e => exact passes_call tk hW pinsZ σZ HZ s1 e s' I1 hq
  | ok fl =>
    cases fl with
    | ret u => exact I1.after hq
    | next => exact False.elim hq
    | brk => exact False.elim hq
    | cont => exact False.elim hq
end
end Tv
end

section
set_option autoImplicit false
set_option maxHeartbeats 2000000
/-! `_law_said`: what a call tells, or the word of its error. -/
namespace Tv
open PySem PySem.Spec PyProof.Rows L2
abbrev wC : Str := "_law_call"
def saidB (b : List Stmt) : Bool := match b with
  | [.Try [.Return (some (.Call (.Name r _) [.Call (.Name a _) [] [] _] [] _)) _] [.ExceptHandler (some (.Name t _)) (some n) [.Return (some (.Call (.Name wd _) [.Name e _] [] _)) _] _] [] [] _] =>
    decide (r = "repr") && decide (a = wC) && decide (t = "TurnError") && decide (n = wE) && decide (wd = "_law_word") && decide (e = wE)
  | _ => false
def saidSB (sc : Scope) : Bool :=
  decide (sc.names.lookup wC = some NameKind.local) && decide (sc.names.lookup wE = some NameKind.local) && decide (sc.names.lookup ("repr" : Str) = some NameKind.globalImplicit) && decide (sc.names.lookup ("TurnError" : Str) = some NameKind.globalImplicit) && decide (sc.names.lookup ("_law_word" : Str) = some NameKind.globalImplicit)
/-- the two defs, as the world has them -/
structure SaidG (P : Program) (wo : World) (K : PySem.W.Frag) (mg : Str → Option Value) (base : Heap) (px : Px) : Prop where
  sd : ∃ (g : Addr) (oc : Value) (od : Option Addr) (osl : Array (Option Value)) (pg : Arguments) (bg : List Stmt) (sg : Scope) (dV kV doc pm cdv ct : Value) (an : Option Addr), K.lookup g = some ⟨oc, od, .func (PySem.W.fnOf "_law_said" "_law_said" pg bg sg dV kV doc pm an cdv ct), osl⟩ ∧ PySem.W.codeIn K cdv "_law_said" = true ∧
    mg "_law_said" = some (.ref g) ∧ PySem.W.keepIn K (.ref g) = true ∧ L2.Binds K (PySem.W.fnOf "_law_said" "_law_said" pg bg sg dV kV doc pm an cdv ct) [wC] [] ∧ FnScope [wC, wE] [wC] sg ∧ saidB bg = true ∧ saidSB sg = true
  wd : ∃ (f : Addr) (fd : FuncData) (ns : List (Str × Nat)), mg "_law_word" = some (.ref f) ∧ PySem.W.keepIn K (.ref f) = true ∧ L2.Binds K fd [wE] [] ∧ WordF P wo K mg base px ns 1 f fd ∧ (∀ c, 1 ≤ c → c ≤ 15 → IsW K (.ref (px.ex c)) c ns mg) ∧ WordFB P wo K mg base px ns 1 f fd ∧ IsW K (.ref (px.ex 16)) 16 ns mg
  br : XfC K (px.ex 16) ∧ PySem.W.findIn K (.ref (px.ex 16)) "at" = some none
  cs : ∃ CS : Addr, mg "TurnError" = some (.ref CS) ∧ ∀ c, 1 ≤ c → c ≤ 16 → PySem.W.exmOne K (.ref (px.ex c)) (.ref CS) = some true
  rp : mg "repr" = none
/-- where a lambda is made -/
structure SaidX (X : Cx) (px : Px) (kk : Nat) : Prop where
  tb : ∃ c P, LamX.TabB X.base X.mg c P ∧ X.env.code = .ref c ∧ (P, X.env.qual ++ "<lambda>") ∈ px.T ∧ ∀ p ∈ px.T, p.1 = P → p.2 = X.env.qual ++ "<lambda>"
  rm : Room 2 X.A
  rk : ∀ e1 e2, Room (2 * kk + 5) ((X.A.deeper e1).deeper e2)
def fSaid (fa : Ev → Hs → R D) : Ev → Hs → R D := fun e h => match fa e h with
  | .ok d h => if d.shows then .ok (.str (PyData.shown d.py)) h else .bad
  | .exc x h => if wordFits x then .ok (.str (wordOf x)) h else .bad
  | .bad => .bad
section
variable {X : Cx} {px : Px} {W : WX} {kk : Nat}
/-- what the caught error must give -/
def CatchW (K : PySem.W.Frag) (px : Px) (cls : Value) (dd : Option Addr) (H : Hp) (Q : VK) : Prop := dd = none ∧ ∃ c w h, 1 ≤ c ∧ c ≤ 15 ∧ cls = .ref (px.ex c) ∧ Wd.ow w = [] ∧ HR K w h H ∧ LamX.Tabs px.T H ∧ ∀ v w' H', ExtS w H w' H' → HR K w' h H' → LamX.Tabs px.T H' → VR K w' H' (.str (wordN c)) v → Q v H'
/-- the same of a course that breaks -/
def CatchB (K : PySem.W.Frag) (px : Px) (cls : Value) (dd : Option Addr) (H : Hp) (Q : VK) : Prop := ∃ (dx : Addr) (i : Int) (word : Str) (w : Wd) (h : Hs), dd = some dx ∧ cls = .ref (px.ex 16) ∧ H dx = some (.xd [(bAt, .int i)]) ∧ dRep (.int i) = some (.str (PyData.shown (.int i))) ∧ dBin .add (.str "! broken ") (.str (PyData.shown (.int i))) = some (.str word) ∧
  Wd.ow w = [] ∧ HR K w h H ∧ LamX.Tabs px.T H ∧ ∀ v w' H', ExtS w H w' H' → HR K w' h H' → LamX.Tabs px.T H' → VR K w' H' (.str word) v → Q v H'
/-- the word is told where the error was caught -/
theorem word_call {X0 : Cx} {a : Addr} {oe : Obj} {cls : Value} {d : Option Addr} {pn : List (Addr × Obj)} {f : Addr} {fd : FuncData} {ns : List (Str × Nat)} {p p1 pos : Pos} (hN : X0.N = [wC, wE]) (hv : X0.env.scope.names.lookup wE = some NameKind.local) (hg : Gl X0 "_law_word") (hm : X0.mg "_law_word" = some (.ref f)) (hk : PySem.W.keepIn X0.K (.ref f) = true) (hb : L2.Binds X0.K fd [wE] [])
    (F : WordF X0.prog X0.w X0.K X0.mg X0.base px ns 1 f fd) (his : ∀ c, 1 ≤ c → c ≤ 15 → IsW X0.K (.ref (px.ex c)) c ns X0.mg) (hr : L2H.RoomH 1 X0.A) (gd : X0.A.guards = some []) (hz : Zc cls d oe) (hf : ∃ vs, oe.data = .fields vs) :
    PE (X0.suite a ((a, oe) :: pn)) (.Call (.Name "_law_word" p) [.Name wE p1] [] pos) (fun σ H Q => (∃ σ0 : L2.St, σ = σ0.set 1 (some (.ref a))) ∧ CatchW X0.K px cls d H Q) := by
  refine ⟨fun pins s σ H Q I ⟨⟨σ0, hσ⟩, hd, c, w, h, c1, c2, ecl, how, hh, tb, fin⟩ => ?_⟩
  subst hd; subst ecl
  have h1 : σ[1]? = some (some (.ref a)) := by
    have l : σ.length = 2 := by rw [I.len]; show X0.N.length = 2; rw [hN]; rfl
    rw [hσ] at l ⊢
    rw [List.length_set] at l
    exact List.getElem?_set_self (by omega)
  refine wpAny_Call_Name_kw (ld_glob (X := X0.suite a ((a, oe) :: pn)) I hg hm ?_ (by decide))
  refine PySem.W.callWith_K (h₀ := X0.base) I.ok.mod.kin hk (thn ((pa_cons (X := X0.suite a ((a, oe) :: pn)) (pe_var (i := 1) (by show X0.N[1]? = _; rw [hN]; rfl) (.inl hv)) pa_nil).run pos pins s σ H (fun vs H1 => vs = [.ref a] ∧ H1 = H) I ⟨.ref a, h1, rfl, rfl⟩) fun us s1 ⟨vs, H1, I1, r, ev, eH⟩ => ⟨I1.kIn, ?_⟩) rfl rfl
  subst ev; subst eH
  obtain ⟨u, rfl, ru⟩ := vals1 r
  cases ru
  have b := hb s1 [.ref a] I1.kIn rfl
  rw [List.append_nil] at b
  have P1 := I1.pin (a, oe) (List.mem_append_left _ List.mem_cons_self)
  have hpin : L2H.PinOk (X0.suite a ((a, oe) :: pn)).stack H1 s1 (a, oe) := ⟨P1.1, P1.2.1, fun hm => (List.mem_cons.mp (I1.stkSub a hm)).elim P1.2.2.1 P1.2.2.2.1, P1.2.2.2.2⟩
  refine wpAny_call (codeAny_mono (F (X0.suite a ((a, oe) :: pn)).A (X0.suite a ((a, oe) :: pn)).stack s1 H1 a oe (.ref (px.ex c)) c (wordN c) w h Q ⟨hr.dp, hr.un⟩ gd hpin hz hf (his c c1 c2) (words_of c c1 c2) I1.env0 b how hh tb fin) fun r s' hq => ?_)
  cases r with
  | error e => exact (show False from hq).elim
  | ok fl =>
    cases fl with
    | ret u => exact I1.after hq
    | next => exact False.elim hq
    | brk => exact False.elim hq
    | cont => exact False.elim hq
theorem word_callB {X0 : Cx} {a : Addr} {oe : Obj} {cls : Value} {d : Option Addr} {pn : List (Addr × Obj)} {f : Addr} {fd : FuncData} {ns : List (Str × Nat)} {p p1 pos : Pos} (hN : X0.N = [wC, wE]) (hv : X0.env.scope.names.lookup wE = some NameKind.local) (hg : Gl X0 "_law_word") (hm : X0.mg "_law_word" = some (.ref f)) (hk : PySem.W.keepIn X0.K (.ref f) = true) (hb : L2.Binds X0.K fd [wE] [])
    (F : WordFB X0.prog X0.w X0.K X0.mg X0.base px ns 1 f fd) (his : IsW X0.K (.ref (px.ex 16)) 16 ns X0.mg) (hxf : XfC X0.K (px.ex 16)) (hno : PySem.W.findIn X0.K (.ref (px.ex 16)) "at" = some none) (hr : L2H.RoomH 1 X0.A) (gd : X0.A.guards = some []) (hz : Zc cls d oe) (hf : ∃ vs, oe.data = .fields vs) :
    PE (X0.suite a ((a, oe) :: pn)) (.Call (.Name "_law_word" p) [.Name wE p1] [] pos) (fun σ H Q => (∃ σ0 : L2.St, σ = σ0.set 1 (some (.ref a))) ∧ CatchB X0.K px cls d H Q) := by
  refine ⟨fun pins s σ H Q I ⟨⟨σ0, hσ⟩, dx, i, word, w, h, hd, ecl, hdx, hrp, hwd, how, hh, tb, fin⟩ => ?_⟩
  subst hd; subst ecl
  have h1 : σ[1]? = some (some (.ref a)) := by
    have l : σ.length = 2 := by rw [I.len]; show X0.N.length = 2; rw [hN]; rfl
    rw [hσ] at l ⊢
    rw [List.length_set] at l
    exact List.getElem?_set_self (by omega)
  refine wpAny_Call_Name_kw (ld_glob (X := X0.suite a ((a, oe) :: pn)) I hg hm ?_ (by decide))
  refine PySem.W.callWith_K (h₀ := X0.base) I.ok.mod.kin hk (thn ((pa_cons (X := X0.suite a ((a, oe) :: pn)) (pe_var (i := 1) (by show X0.N[1]? = _; rw [hN]; rfl) (.inl hv)) pa_nil).run pos pins s σ H (fun vs H1 => vs = [.ref a] ∧ H1 = H) I ⟨.ref a, h1, rfl, rfl⟩) fun us s1 ⟨vs, H1, I1, r, ev, eH⟩ => ⟨I1.kIn, ?_⟩) rfl rfl
  subst ev; subst eH
  obtain ⟨u, rfl, ru⟩ := vals1 r
  cases ru
  have b := hb s1 [.ref a] I1.kIn rfl
  rw [List.append_nil] at b
  have P1 := I1.pin (a, oe) (List.mem_append_left _ List.mem_cons_self)
  have hpin : L2H.PinOk (X0.suite a ((a, oe) :: pn)).stack H1 s1 (a, oe) := ⟨P1.1, P1.2.1, fun hm => (List.mem_cons.mp (I1.stkSub a hm)).elim P1.2.2.1 P1.2.2.2.1, P1.2.2.2.2⟩
  refine wpAny_call (codeAny_mono (F (X0.suite a ((a, oe) :: pn)).A (X0.suite a ((a, oe) :: pn)).stack s1 H1 a dx oe (px.ex 16) i word w h Q ⟨hr.dp, hr.un⟩ gd hpin hz hf his hxf hno hdx hrp hwd I1.env0 b how hh tb fin) fun r s' hq => ?_)
  cases r with
  | error e => exact (show False from hq).elim
  | ok fl =>
    cases fl with
    | ret u => exact I1.after hq
    | next => exact False.elim hq
    | brk => exact False.elim hq
    | cont => exact False.elim hq
theorem PE.orR {X : Cx} {e : Expr} {t u : TE} (h1 : PE X e t) (h2 : PE X e u) : PE X e (fun σ H Q => t σ H Q ∨ u σ H Q) := ⟨fun pins s σ H Q I z => z.elim (h1.run pins s σ H Q I) (h2.run pins s σ H Q I)⟩
end
end Tv
end

section
set_option autoImplicit false
set_option maxHeartbeats 2000000
/-! `_law_said(lambda: ..)` as an expression. -/
namespace Tv
open PySem PySem.Spec PyProof.Rows L2
section
variable {X : Cx} {px : Px} {W : WX} {kk : Nat}
theorem cz_of {Z : Cx} (un : Z.A.units + 200 < cLine) (gd : Z.A.guards = some []) (sm : ∃ o, Z.base.get? sysModules = some o ∧ o.cls ≠ .type "list") : Cz Z := ⟨un, gd, sm⟩
theorem se_said {fa : Ev → Hs → R D} {ar : Arguments} {bd : Expr} {sc : Scope} {p lpos pos : Pos} (G : SaidG X.prog X.w X.K X.mg X.base px) (S : SaidX X px kk) (z : Cz X) (hg : Gl X "_law_said") (L : LamX.LamS X.env.scope sc) (hdf : defaultsOf ar X.env = ([], []))
    (hbi : ∀ (q : Str) (cl : List (Str × Addr)) (pm cv ctv : Value), bindArgs (PySem.W.kla_fn "<lambda>" q ar bd sc cl pm cv ctv) ⟨[], []⟩ = pure [])
    (hbody : ∀ (e1 : Env) (outer : List Env) (s0 : Shared) (H : Hp) (E : XK) (f c' : Addr), SE (LamX.lamCx X (X.A.deeper e1) outer s0 H E sc f c') px (fun cls d _ H => E cls d H) bd fa) :
    SE X px W (.Call (.Name "_law_said" p) [.Lambda ar bd sc lpos] [] pos) (fSaid fa) := by
  refine ⟨fun pins s σ H Q I ⟨w, e, h, pr⟩ => ?_⟩
  obtain ⟨g, oc, od, osl, pg, bg, sg, dV, kV, doc, pm, cdv, ct, an, lk, hcd, hm, hk, hb, Sg, hB, hS⟩ := G.sd
  obtain ⟨fw, fdw, ns, hmw, hkw, hbw, F, his, FB, hisB⟩ := G.wd
  obtain ⟨hxf, hno⟩ := G.br
  obtain ⟨CS, hmc, hex⟩ := G.cs
  obtain ⟨cA, P, TB, hcode, hmT, hu⟩ := S.tb
  refine wpAny_Call_Name_kw (ld_glob I hg hm ?_ (by decide))
  refine PySem.W.callWith_K (h₀ := X.base) I.ok.mod.kin hk ?_ (by rfl) (by rfl)
  show wpAny _ _ (spliced ((false, eval (.Lambda ar bd sc lpos) X.env) :: backTo pos (starEach [] X.env))) _ _ s
  refine Calls.spliced_cons (lam_made I TB hcode hmT hu pr.rr.tb hdf (L.has I.ok) fun f c' pm' ctv H1 s' I1 eN hD T1 hf hfn hfr hco => ?_)
  refine Calls.spliced_nil ⟨I1.kIn, ?_⟩
  have x1 : Ext w H w H1 := by
    refine ⟨⟨[], by simp, fun _ h => by cases h⟩, rfl, fun _ h => h, fun _ h => .inl h, fun a o h n t => eN a o h t, fun a xs q => ?_, hD⟩
    exact eN _ _ q fun ps z => by cases z
  have hr1 : HR X.K w h H1 := pr.rr.hr.mono x1 rfl fun a ha => by
    obtain ⟨xs, q, qm⟩ := pr.rr.hr.there ha
    rw [q]; exact eN _ _ q fun ps z => by rw [z] at qm; cases qm
  have rr1 := pr.rr.ext x1 hr1 T1
  have q := pr.po
  unfold saidB at hB
  split at hB
  case h_2 => cases hB
  rename_i r pr1 a pa pca pcr pret t pt n wd pw en pe pcw prw ph ptry
  simp only [Bool.and_eq_true, decide_eq_true_eq] at hB
  obtain ⟨⟨⟨⟨⟨rfl, rfl⟩, rfl⟩, rfl⟩, rfl⟩, rfl⟩ := hB
  unfold saidSB at hS
  simp only [Bool.and_eq_true, decide_eq_true_eq] at hS
  obtain ⟨⟨⟨⟨l1, l2⟩, l3⟩, l4⟩, l5⟩ := hS
  have rc : codeAny (model X.prog X.w) X.A (.call (.ref g) ⟨[.ref f], []⟩) (CR C8.CX0 X.stack X.prog X.w H1 s' Q C8.E0) s' := by
    refine LamX.run_ofS (N := [wC, wE]) (ps := [wC]) (us := [.ref f]) (vs := [.ref f]) lk hcd Sg S.rm I1.env0 (hb s' [.ref f] I1.kIn rfl) (.cons rfl .nil) rfl fun hr' => ?_
    have un' : (X.A.deeper (envOfC "_law_said" sg s'.heap.objs.size g cdv)).units + 200 < cLine := by have := hr'.un; omega
    have act := fun (W' : WX) (pn : List (Addr × Obj)) (xe : Value → Shared → Prop) (E : XK) (p1 p2 : Pos) (tk : Takes ((cxOf C8.CX0 X.prog X.w X.K X.mg X.base [wC, wE] "_law_said" sg g cdv X.A X.stack s' H1 C8.E0).tr pn xe) W') (hW : ∀ cls d σ' H', E cls d H' → W' cls d σ' H') =>
      lam_act (i := 0) (p1 := p1) (p2 := p2) (E := E) (tb := rdE X.K px (fun cls dd _ H => E cls dd H) fa) I1 L hf hfn hfr (hbi _ _ _ _ _) tk hW hr' (fun outer s0 H => hbody _ outer s0 H E f c') (a := wC) rfl (.inl l1) (by decide) (by decide)
    have tr := ps_try_as (X := (cxOf C8.CX0 X.prog X.w X.K X.mg X.base [wC, wE] "_law_said" sg g cdv X.A X.stack s' H1 C8.E0).nox) (x := "TurnError") (n := wE) (c := .ref CS) (i := 1)
      (body := [.Return (some (.Call (.Name "repr" pr1) [.Call (.Name wC pa) [] [] pca] [] pcr)) pret]) (suite := []) (b₀ := .Return (some (.Call (.Name "_law_word" pw) [.Name wE pe] [] pcw)) prw) (np := pt) (pos := ptry) (pos' := ph) (Wout := fun _ _ _ _ => False)
      (tb := fun W' Dn σZ HZ => ∃ Ech : XK, (∀ cls d σ' H', Ech cls d H' → W' cls d σ' H') ∧ σZ[0]? = some (some (.ref f)) ∧ HZ c' = some (LamX.CodeO c' (X.env.qual ++ "<lambda>")) ∧ rdE X.K px (fun cls d _ H => Ech cls d H) fa σ HZ (fun v H2 => rBi X.K px Wno .rep [v] H2 Dn.rt))
      (ts := fun a cls d Dn σ H => ((∃ σ0 : L2.St, σ = σ0.set 1 (some (.ref a))) ∧ CatchW X.K px cls d H Dn.rt) ∨ ((∃ σ0 : L2.St, σ = σ0.set 1 (some (.ref a))) ∧ CatchB X.K px cls d H Dn.rt))
      rfl rfl (show [wC, wE].Nodup by decide) rfl l2 ⟨l4, by decide, .inl hmc⟩ LamX.takes0 (fun W' pn xe tk _ => ?_) (fun a oe cls d pn hz hfs => ?_)
    · refine ⟨_, (pss_one tr).nox, ?_⟩
      refine ⟨fun cls dd H2 => CatchW X.K px cls dd H2 Q ∨ CatchB X.K px cls dd H2 Q, fun cls dd σ' H' hc => ?_, rfl, hco, w, e, h, rr1, ?_⟩
      · rcases hc with ⟨hd, c, w2, h2, c1, c2, ec, rest⟩ | ⟨dx, i, wd, w2, h2, hd, ec, rest⟩
        · refine ⟨true, by rw [ec]; exact hex c c1 (by omega), fun _ a _ => .inl ⟨⟨σ', rfl⟩, hd, c, w2, h2, c1, c2, ec, rest⟩, fun h => by cases h⟩
        · refine ⟨true, by rw [ec]; exact hex 16 (by decide) (by decide), fun _ a _ => .inr ⟨⟨σ', rfl⟩, dx, i, wd, w2, h2, hd, ec, rest⟩, fun h => by cases h⟩
      · unfold fSaid at q
        cases e1 : fa e h with
        | bad => rw [e1] at q; exact q.elim
        | ok d h' =>
          rw [e1] at q
          dsimp only at q
          split at q
          · rename_i hs
            intro v w' H2 y1 y2 y3 y4
            refine ⟨σ, w', e, h', [d], .cons y4 .nil, rr1.ext y1 y2 y3, ?_⟩
            show Post X.K px Wno σ (relV X.K) w' H2 Q (R.of (dRep d) h')
            unfold dRep
            rw [if_pos hs]
            exact fun u w'' H3 z1 z2 z3 z4 => q u w'' H3 (x1.trans (y1.trans z1)) z2 z3 z4
          · exact q.elim
        | exc x h' =>
          rw [e1] at q
          dsimp only at q
          split at q
          · rename_i hs
            intro cls dd w' H2 y1 y2 y3 y4
            unfold wordFits at hs
            split at hs
            · rename_i c pd
              rw [Bool.or_eq_true, Bool.and_eq_true, Bool.and_eq_true, Bool.and_eq_true, decide_eq_true_eq, decide_eq_true_eq, decide_eq_true_eq, decide_eq_true_eq] at hs
              obtain ⟨ec, hn, hb16⟩ := y4
              rcases hs with hs | ⟨⟨h16, hs1⟩, hs2⟩
              · have e2 := wordN_of c hs.1 hs.2 pd
                rw [e2] at q
                refine .inl ⟨hn (by omega), c, w'.call, h', hs.1, hs.2, ec, rfl, (rr1.ext y1 y2 y3).call, y3, fun v w'' H3 z1 z2 z3 z4 => ?_⟩
                refine q v (w'.back w'') H3 (x1.trans (y1.trans (Ext.back z1))) (HR.back z1 z2) z3 ?_
                cases z4
                exact .str _
              · subst h16
                obtain ⟨dx, i, hdd, hpd, hdx⟩ := hb16 rfl
                subst hpd
                have e2 : wordOf (.exc 16 (.int i)) = ("! broken " : Str) ++ PyData.shown (.int i) := rfl
                rw [e2] at q
                have hs2 : (PyData.shown (.int i)).length ≤ 1000 := hs2
                have e3 : dBin .add (.str "! broken ") (.str (PyData.shown (.int i))) = some (.str (("! broken " : Str) ++ PyData.shown (.int i))) := by
                  show ofLen _ _ = _
                  unfold ofLen
                  rw [if_pos]
                  show (9 : Nat) + (PyData.shown (.int i)).length ≤ 16777216
                  omega
                refine .inr ⟨dx, i, _, w'.call, h', hdd, ec, hdx, ?_, e3, rfl, (rr1.ext y1 y2 y3).call, y3, fun v w'' H3 z1 z2 z3 z4 => ?_⟩
                · unfold dRep
                  rw [if_pos hs1]
                  rfl
                · refine q v (w'.back w'') H3 (x1.trans (y1.trans (Ext.back z1))) (HR.back z1 z2) z3 ?_
                  cases z4
                  exact .str _
            · cases hs
          · exact q.elim
    · refine ⟨fun pins' s1 σ' H' Dn I' ⟨Ech, hW, h1, h2, h3⟩ => ?_⟩
      have a1 := act W' pn xe Ech pa pca tk hW
      have cz' : Cz ((cxOf C8.CX0 X.prog X.w X.K X.mg X.base [wC, wE] "_law_said" sg g cdv X.A X.stack s' H1 C8.E0).tr pn xe) := cz_of un' z.gd z.sm
      have a2 := pe_callB (p := pr1) (pos := pcr) (bi_rep (px := px) (W := Wno) cz') (x := "repr") l3 G.rp (by decide +kernel) (pa_cons a1 pa_nil)
      exact (pss_one (ps_ret (pos := pret) a2)).run pins' s1 σ' H' Dn I' ⟨h1, h2, h3⟩
    · refine PSs.of (pss_one (ps_ret (PE.orR (word_call (X0 := (cxOf C8.CX0 X.prog X.w X.K X.mg X.base [wC, wE] "_law_said" sg g cdv X.A X.stack s' H1 C8.E0).nox) (px := px) rfl l2 l5 hmw hkw hbw F his (L2H.roomH_of hr') z.gd hz hfs) (word_callB (X0 := (cxOf C8.CX0 X.prog X.w X.K X.mg X.base [wC, wE] "_law_said" sg g cdv X.A X.stack s' H1 C8.E0).nox) (px := px) rfl l2 l5 hmw hkw hbw FB hisB hxf hno (L2H.roomH_of hr') z.gd hz hfs)))) fun _ _ _ q => q
  refine wpAny_call (codeAny_mono rc fun r s2 hq => ?_)
  cases r with
  | error e => exact (show False from hq).elim
  | ok fl =>
    cases fl with
    | ret u => exact I1.after hq
    | next => exact False.elim hq
    | brk => exact False.elim hq
    | cont => exact False.elim hq
end
end Tv
end

section
set_option autoImplicit false
set_option maxHeartbeats 1000000
/-! What is held against the code computes what the trees say: expressions. -/
namespace Tv
open PySem PySem.Spec PyProof.Rows L2
/-- where an error with its year may be raised -/
def BrkX (X : Cx) (px : Px) : Prop := ∃ (C fI : Addr) (fd : FuncData), BrkC X.K X.mg C ∧ PySem.W.findIn X.K (.ref C) "__init__" = some (some (.ref fI)) ∧ PySem.W.typeIn X.K (.ref fI) = some (.type "function") ∧ FnOk X.prog X.w X.K X.mg X.base CX0 1 fI fd [bSelf, bAt] (spBr C) ∧ Room 2 X.A ∧ Binds X.K fd [bSelf, bAt] [] ∧ X.mg "Broken" = some (.ref C) ∧ px.ex 16 = C
/-- the place where checked code runs -/
structure Ok (X : Cx) (px : Px) (W : WX) (cl : Nat → List D → Hs → R D) (c : Ck) : Prop where
  N : X.N = c.N
  nd : X.N.Nodup
  sc : X.env.scope = c.sc
  fn : ∀ x, c.fn x = true → X.fn x = true
  calm : X.calm = true
  cz : Cz X
  tk : Takes X W
  defs : ∀ x i n, c.defs.lookup x = some (i, n) → ∃ k f fd ps, CallG X.prog X.w X.K X.mg X.base px k f fd ps (cl i) ∧ Room (2 * k + 5) X.A ∧ RefX X.K X.mg x f ∧ BindX X.K fd ps (c.dfl x) ∧ ps.length = n
  glob : ∀ x i, c.glob.lookup x = some i → GlR X.w X.K X.mg x i
  blt : ∀ x, bltNames.contains x = true → X.mg x = none
  exc : ∀ x i, c.excs.lookup x = some i → ∃ (C : Addr) (bmB : List Value) (B newId initId : String), ExcBaseFacts B newId initId bmB ∧ PySem.W.excIn X.K C bmB newId = true ∧ X.mg x = some (.ref C) ∧ PySem.W.keepIn X.K (.ref C) = true ∧ Raises X (.ref C) ∧ px.ex i = C
  sd : c.sd = true → ∃ kk, SaidG X.prog X.w X.K X.mg X.base px ∧ SaidX X px kk ∧ ∀ x i n, c.defs.lookup x = some (i, n) → ∃ f fd ps, CallG X.prog X.w X.K X.mg X.base px kk f fd ps (cl i) ∧ RefX X.K X.mg x f ∧ BindX X.K fd ps (c.dfl x) ∧ ps.length = n
  brk : c.brk = true → BrkX X px
  ins : ∀ ci, c.ins.contains ci = true → InsG X.K X.mg ci
  xv : (c.defs.lookup ("_law_word" : Str)).isSome = true → XvG X.K X.mg
section
variable {X : Cx} {px : Px} {W : WX} {cl : Nat → List D → Hs → R D} {c : Ck}
theorem Ok.gl (ok : Ok X px W cl c) {x : Str} (h : glB c x = true) : Gl X x := by
  unfold glB at h
  show X.env.scope.names.lookup x = _
  rw [ok.sc]
  split at h
  · assumption
  · cases h
theorem Ok.vis (ok : Ok X px W cl c) {x : Str} (h : visB c x = true) : Vis X.env.scope x := by
  unfold visB at h
  rw [ok.sc]
  split at h
  · exact .inl (by assumption)
  · exact .inr (.inl (by assumption))
  · exact .inr (.inr (by assumption))
  · cases h
theorem Ok.lc (ok : Ok X px W cl c) {x : Str} (h : lcB c x = true) : X.env.scope.names.lookup x = some .local := by
  unfold lcB at h
  rw [ok.sc]
  split at h
  · assumption
  · cases h
theorem Ok.ce (ok : Ok X px W cl c) {x : Str} (h : ceB c x = true) : X.env.scope.names.lookup x = some .cell := by
  unfold ceB at h
  rw [ok.sc]
  split at h
  · assumption
  · cases h
theorem plain_of {x : Str} (h : plainN x = true) : (x == ("__debug__" : Str)) = false ∧ (x == ("__classdict__" : Str)) = false ∧ x ≠ "__name__" := by
  unfold plainN at h
  rw [Bool.and_eq_true, Bool.and_eq_true, Bool.not_eq_true', Bool.not_eq_true', decide_eq_true_eq] at h
  exact ⟨h.1.1, h.1.2, h.2⟩
theorem Ok.rd (ok : Ok X px W cl c) {x : Str} {i : Nat} (h : rdB c x i = true) : RdOk X x i := by
  unfold rdB at h
  rw [Bool.and_eq_true, Bool.and_eq_true, decide_eq_true_eq] at h
  have p := plain_of h.2
  exact ⟨by rw [ok.N]; exact h.1.1, ok.vis h.1.2, p.1, p.2.1⟩
theorem Ok.nm (ok : Ok X px W cl c) {x : Str} {i : Nat} (h : nmB c x i = true) : NmOk X x i := by
  unfold nmB at h
  rw [Bool.and_eq_true, decide_eq_true_eq, Bool.or_eq_true, Bool.and_eq_true] at h
  refine ⟨by rw [ok.N]; exact h.1, ?_⟩
  rcases h.2 with q | q
  · exact ⟨.inl (ok.lc q), .inr (ok.lc q)⟩
  · exact ⟨.inr (ok.ce q.1), .inl (ok.fn x q.2)⟩
theorem Ok.nms (ok : Ok X px W cl c) : ∀ {es : List Expr} {is : List Nat}, nmsB c es is = true → NmsOk X es is
  | [], [], _ => .nil
  | [], _ :: _, h => by cases h
  | _ :: _, [], h => by cases h
  | e :: es, i :: is, h => by
    unfold nmsB at h
    rw [Bool.and_eq_true] at h
    obtain ⟨h1, h2⟩ := h
    split at h1
    · exact .cons (ok.nm h1) (ok.nms h2)
    · cases h1
theorem Ok.tg (ok : Ok X px W cl c) {t : T} {e : Expr} (h : ckT c t e = true) : SG X e t := by
  cases t with
  | n i =>
    unfold ckT at h
    dsimp only at h
    split at h
    · exact sg_name ok.nd (ok.nm h)
    · cases h
  | t is =>
    unfold ckT at h
    dsimp only at h
    split at h
    · exact sg_tup ok.calm ok.nd (ok.nms h)
    · cases h
theorem Ok.mn (ok : Ok X px W cl c) {x : Str} (h : bltNames.contains x = true) : X.mg x = none := ok.blt x h
theorem sa_bool {es : List Expr} (h : es.all nst = true) : ∀ a r, es = a :: r → starEach (a :: r) X.env = (false, eval a X.env) :: starEach r X.env := fun a r e => by
  subst e
  rw [List.all_cons, Bool.and_eq_true] at h
  exact star_ok h.1
/-- a tree and its place -/
structure Snd (X : Cx) (px : Px) (W : WX) (cl : Nat → List D → Hs → R D) (t : E) (e : Expr) : Prop where
  se : SE X px W e (evE cl t)
  st : tstB t = true → ST X px W e (evE cl t)
  sw : tstB t = true → ∀ op es p, e = .BoolOp op es p → SW X px W e (evE cl t)
theorem Snd.val {t : E} {e : Expr} (h : SE X px W e (evE cl t)) (hv : isVal e = true) : Snd X px W cl t e :=
  ⟨h, fun _ => st_val h (isVal_of hv X.env), fun _ op es p q => by subst q; cases hv⟩
theorem se_bi {b : Bi} {x : Str} {a : Expr} {es : List Expr} {fr : Ev → Hs → R (List D)} {p pos : Pos} (ok : Ok X px W cl c) (h : biB b x (es.length + 1) = true) (hg : glB c x = true) (hs : (a :: es).all nst = true) (ha : SA X px W (a :: es) fr) :
    SE X px W (.Call (.Name x p) (a :: es) [] pos) (fun e h => (fr e h).bind fun ds h => R.of (dBi b ds) h) := by
  have hg := ok.gl hg
  cases b <;> first | (cases h; done) | skip
  all_goals (unfold biB at h)
  all_goals (simp only [Bool.and_eq_true, decide_eq_true_eq] at h)
  · subst h; exact se_callB bi_len hg (ok.mn (by decide)) (by decide +kernel) ha hs (by decide) (by decide)
  · subst h; exact se_callB (bi_all ok.calm) hg (ok.mn (by decide)) (by decide +kernel) ha hs (by decide) (by decide)
  · subst h; exact se_callB (bi_any ok.calm) hg (ok.mn (by decide)) (by decide +kernel) ha hs (by decide) (by decide)
  · subst h; exact se_callB bi_abs hg (ok.mn (by decide)) (by decide +kernel) ha hs (by decide) (by decide)
  · subst h; exact se_callB bi_divmod hg (ok.mn (by decide)) (by decide +kernel) ha hs (by decide) (by decide)
  · subst h; exact se_callTy bi_int hg (ok.mn (by decide)) (by decide +kernel) ha hs (by decide) (by decide)
  · subst h; exact se_callTy bi_list hg (ok.mn (by decide)) (by decide +kernel) ha hs (by decide) (by decide)
  · subst h; exact se_callTy bi_tuple hg (ok.mn (by decide)) (by decide +kernel) ha hs (by decide) (by decide)
  · obtain ⟨h, _⟩ := h; subst h; exact se_callB (bi_max1 ok.calm) hg (ok.mn (by decide)) (by decide +kernel) ha hs (by decide) (by decide)
  · obtain ⟨h, _⟩ := h; subst h; exact se_callB (bi_max2 ok.calm) hg (ok.mn (by decide)) (by decide +kernel) ha hs (by decide) (by decide)
  · obtain ⟨h, _⟩ := h; subst h; exact se_callB (bi_min2 ok.calm) hg (ok.mn (by decide)) (by decide +kernel) ha hs (by decide) (by decide)
  · obtain ⟨h, _⟩ := h; subst h; exact se_callB (bi_min4 ok.calm) hg (ok.mn (by decide)) (by decide +kernel) ha hs (by decide) (by decide)
  · subst h; exact se_callB (bi_rep ok.cz) hg (ok.mn (by decide)) (by decide +kernel) ha hs (by decide) (by decide)
  · subst h; exact se_callTy bi_str hg (ok.mn (by decide)) (by decide +kernel) ha hs (by decide) (by decide)
  · subst h; exact se_callB (bi_sum ok.calm) hg (ok.mn (by decide)) (by decide +kernel) ha hs (by decide) (by decide)
  · subst h; exact se_callB (bi_sorted ok.cz) hg (ok.mn (by decide)) (by decide +kernel) ha hs (by decide) (by decide)
theorem se_dic0 {pos : Pos} : SE X px W (.Dict [] [] pos) (fun _ h => .ok (.dct []) h) := by
  refine PE.of pe_dnewK fun σ H Q ⟨w, e, h, p⟩ q hq => ?_
  exact p.new hq _ (.of (.of (.dct (p.rr.free hq) (by simp) upd_same)))
theorem se_dic1 {i j : Int} {k1 k2 : Nat} {p1 p2 pos : Pos} : SE X px W (.Dict [some (.Constant (.int i) k1 p1)] [.Constant (.int j) k2 p2] pos) (fun _ h => .ok (.dct [(i, j)]) h) := by
  refine PE.of (pe_disp (pps_cons pe_int pe_int pps_nil) rfl rfl (by simp) (by simp)) fun σ H Q ⟨w, e, h, p⟩ q hq => ?_
  refine ⟨upd_same, [(.inl i, .int j)], rfl, by simp, ?_⟩
  have e1 : upd (upd H q (.dK [])) q (.dK (mergeK [] [(Sum.inl i, V.int j)])) = upd H q (.dK [(Sum.inl i, V.int j)]) := by rw [upd_upd]; rfl
  rw [e1]
  exact p.new hq _ (.of (.of (.dct (p.rr.free hq) (by simp) upd_same)))
/-! ### blocks -/
theorem Ok.blk (ok : Ok X px W cl c) {scope : Scope} {s : Shared} {H : Hp} {C : Addr} {cs : List (Str × Addr)} {fp : List Addr} : Ok (X.blk s H scope (compEnvC scope cs C X.env) fp) px Wno cl (c.blk scope) where
  N := ok.N
  nd := ok.nd
  sc := by
    show relS scope X.env.scope = relS scope c.sc
    rw [ok.sc]
  fn := fun x h => h
  calm := ok.calm
  cz := ⟨ok.cz.un, ok.cz.gd, ok.cz.sm⟩
  tk := LamX.takes0
  defs := ok.defs
  glob := ok.glob
  blt := ok.blt
  exc := ok.exc
  sd := fun z => by cases z
  brk := fun z => by cases z
  ins := ok.ins
  xv := ok.xv
/-- a lambda's body -/
theorem Ok.lam (ok : Ok X px W cl c) {kk : Nat} (S : SaidX X px kk) (dfs : ∀ x i n, c.defs.lookup x = some (i, n) → ∃ f fd ps, CallG X.prog X.w X.K X.mg X.base px kk f fd ps (cl i) ∧ RefX X.K X.mg x f ∧ BindX X.K fd ps (c.dfl x) ∧ ps.length = n)
    {e1 : Env} {outer : List Env} {s0 : Shared} {H : Hp} {E : XK} {sc : Scope} {f c' : Addr} : Ok (LamX.lamCx X (X.A.deeper e1) outer s0 H E sc f c') px (fun cls d _ H => E cls d H) cl (c.lam sc) where
  N := ok.N
  nd := ok.nd
  sc := rfl
  fn := fun x h => by cases h
  calm := rfl
  cz := ⟨by have := (S.rk e1 (LamX.lamEnv X sc s0.heap.objs.size f c')).un; show ((X.A.deeper e1).deeper _).units + 200 < cLine; omega, ok.cz.gd, ok.cz.sm⟩
  tk := takes_of rfl rfl rfl rfl
  defs := fun x i n h => by
    obtain ⟨f1, fd, ps, h1, h2, h4, h5⟩ := dfs x i n h
    exact ⟨kk, f1, fd, ps, h1, S.rk e1 _, h2, h4, h5⟩
  glob := ok.glob
  blt := ok.blt
  exc := fun x i h => by cases h
  sd := fun z => by cases z
  brk := fun z => by cases z
  ins := ok.ins
  xv := ok.xv
/-- an own method that is asked for by the machine -/
theorem Ok.own (ok : Ok X px W cl c) {ci f n : Nat} {m : Str} (h1 : mtab.lookup (keyN ci m) = some (ci, m)) (h2 : c.defs.lookup (keyN ci m) = some (f, n)) : OwnM X px ci m n (cl f) := by
  obtain ⟨k, fa, fd, ps, G, hr, rx, hb, hl⟩ := ok.defs _ _ _ h2
  exact ⟨⟨k, fa, fd, ps, G, hr, rx.mt h1, hb.full, hl⟩⟩
theorem noArgs_of {ar : Arguments} (h : noArgs ar = true) : ar = ⟨[], [], none, [], [], none, []⟩ := by
  unfold noArgs at h
  split at h
  · rfl
  · cases h
theorem own_map {vs : List Nat} : (ownOf c vs).map (·.2) = vs := by
  unfold ownOf
  rw [List.map_map]
  exact List.map_id _
/-! ### what a tree's list of parts gives -/
theorem evEs_len : ∀ (es : Es) {as : List Expr}, ckEs c es as = true → ∀ e h ds h', evEs cl es e h = .ok ds h' → ds.length = as.length
  | .nil, as, hc, e, h, ds, h', q => by
    unfold ckEs at hc; try dsimp only at hc
    have : as = [] := List.isEmpty_iff.mp hc
    subst this
    rw [evEs] at q
    cases q
    rfl
  | .cons a r, as, hc, e, h, ds, h', q => by
    unfold ckEs at hc; try dsimp only at hc
    split at hc
    · rename_i a' r'
      rw [Bool.and_eq_true] at hc
      rw [evEs] at q
      obtain ⟨x, h1, _, q⟩ := bind_ok q
      obtain ⟨xs, h2, q2, q⟩ := bind_ok q
      cases q
      exact congrArg (· + 1) (evEs_len r hc.2 _ _ _ _ q2)
    · cases hc
end
mutual
theorem sndE {px : Px} {cl : Nat → List D → Hs → R D} : ∀ (t : E) {X : Cx} {W : WX} {c : Ck} {e : Expr}, Ok X px W cl c → ckE c t e = true → Snd X px W cl t e
  | .c d, X, W, c, e, ok, h => by
    unfold ckE at h; try dsimp only at h
    split at h
    · exact .val (se_c h) rfl
    · cases h
  | .g x d, X, W, c, e, ok, h => by
    unfold ckE at h; try dsimp only at h
    split at h
    · rename_i y _ i
      rw [Bool.and_eq_true, Bool.and_eq_true, Bool.and_eq_true, decide_eq_true_eq, decide_eq_true_eq] at h
      obtain ⟨⟨⟨rfl, h1⟩, h2⟩, h3⟩ := h
      obtain ⟨t, ht⟩ := ok.glob _ _ h3
      exact .val (se_g (v := .int i) (ok.gl h1) ht ⟨t, rfl⟩ (fun _ _ => .of (.of (.int _))) (plain_of h2).1) rfl
    · rename_i y _ i
      rw [Bool.and_eq_true, Bool.and_eq_true, Bool.and_eq_true, decide_eq_true_eq, decide_eq_true_eq] at h
      obtain ⟨⟨⟨rfl, h1⟩, h2⟩, h3⟩ := h
      obtain ⟨t, ht⟩ := ok.glob _ _ h3
      exact .val (se_g (v := .str i) (ok.gl h1) ht ⟨t, rfl⟩ (fun _ _ => .of (.of (.str _))) (plain_of h2).1) rfl
    · cases h
  | .v i, X, W, c, e, ok, h => by
    unfold ckE at h; try dsimp only at h
    split at h
    · have r := ok.rd h
      exact .val (se_v r.ix r.vis r.db r.cd) rfl
    · cases h
  | .bin o a b, X, W, c, e, ok, h => by
    unfold ckE at h; try dsimp only at h
    split at h
    · rw [Bool.and_eq_true, Bool.and_eq_true] at h
      obtain ⟨h1, h2, h3⟩ := h
      rw [bopB_of h1]
      exact .val (se_bin (sndE a ok h2).se (sndE b ok h3).se) rfl
    · cases h
  | .neg a, X, W, c, e, ok, h => by
    unfold ckE at h; try dsimp only at h
    split at h
    · exact .val (se_neg (sndE a ok h).se) rfl
    · cases h
  | .not a, X, W, c, e, ok, h => by
    unfold ckE at h; try dsimp only at h
    split at h
    · have q := sndE a ok h
      exact ⟨se_not q.se, fun ht => st_not (q.st ht), fun _ op es p e => by cases e⟩
    · cases h
  | .and a b, X, W, c, e, ok, h => by
    unfold ckE at h; try dsimp only at h
    split at h
    · rw [Bool.and_eq_true] at h
      have qa := sndE a ok h.1
      have qb := sndE b ok h.2
      refine ⟨se_and qa.se (pe_one qb.se), fun ht => ?_, fun ht op es p e => ?_⟩
      · rw [tstB, Bool.and_eq_true] at ht
        exact (sw_and (qa.st ht.1) (sw_and1 (qb.st ht.2))).pt
      · rw [tstB, Bool.and_eq_true] at ht
        exact sw_and (qa.st ht.1) (sw_and1 (qb.st ht.2))
    · rw [Bool.and_eq_true] at h
      have qa := sndE a ok h.1
      have qb := sndE b ok h.2
      refine ⟨se_and qa.se qb.se, fun ht => ?_, fun ht op es p e => ?_⟩
      · rw [tstB, Bool.and_eq_true] at ht
        exact (sw_and (qa.st ht.1) (qb.sw ht.2 _ _ _ rfl)).pt
      · rw [tstB, Bool.and_eq_true] at ht
        exact sw_and (qa.st ht.1) (qb.sw ht.2 _ _ _ rfl)
    · cases h
  | .or a b, X, W, c, e, ok, h => by
    unfold ckE at h; try dsimp only at h
    split at h
    · rw [Bool.and_eq_true] at h
      have qa := sndE a ok h.1
      have qb := sndE b ok h.2
      refine ⟨se_or qa.se (pe_one qb.se), fun ht => ?_, fun ht op es p e => ?_⟩
      · rw [tstB, Bool.and_eq_true] at ht
        exact (sw_or (qa.st ht.1) (sw_or1 (qb.st ht.2))).pt
      · rw [tstB, Bool.and_eq_true] at ht
        exact sw_or (qa.st ht.1) (sw_or1 (qb.st ht.2))
    · rw [Bool.and_eq_true] at h
      have qa := sndE a ok h.1
      have qb := sndE b ok h.2
      refine ⟨se_or qa.se qb.se, fun ht => ?_, fun ht op es p e => ?_⟩
      · rw [tstB, Bool.and_eq_true] at ht
        exact (sw_or (qa.st ht.1) (qb.sw ht.2 _ _ _ rfl)).pt
      · rw [tstB, Bool.and_eq_true] at ht
        exact sw_or (qa.st ht.1) (qb.sw ht.2 _ _ _ rfl)
    · cases h
  | .ite t a b, X, W, c, e, ok, h => by
    unfold ckE at h; try dsimp only at h
    split at h
    · rw [Bool.and_eq_true, Bool.and_eq_true, Bool.and_eq_true] at h
      obtain ⟨h0, h1, h2, h3⟩ := h
      exact ⟨se_ite ((sndE t ok h1).st h0) (sndE a ok h2).se (sndE b ok h3).se, (fun ht => by cases ht), (fun ht => by cases ht)⟩
    · cases h
  | .cmp o a b, X, W, c, e, ok, h => by
    unfold ckE at h; try dsimp only at h
    split at h
    · rw [Bool.and_eq_true, Bool.and_eq_true, Bool.and_eq_true] at h
      obtain ⟨⟨h1, h2⟩, h3, h4⟩ := h
      rw [copB_of h1]
      exact ⟨se_cmp ok.cz (sndE a ok h3).se (sndE b ok h4).se (noSet_in h2), fun _ => st_cmp ok.cz (sndE a ok h3).se (sndE b ok h4).se (noSet_in h2), fun _ op es p e => by cases e⟩
    · cases h
  | .chn o p a b d, X, W, c, e, ok, h => by
    unfold ckE at h; try dsimp only at h
    split at h
    · rw [Bool.and_eq_true, Bool.and_eq_true, Bool.and_eq_true, Bool.and_eq_true, Bool.and_eq_true] at h
      obtain ⟨⟨⟨h1, h2⟩, h3⟩, h4, h5, h6⟩ := h
      rw [copB_of h1, copB_of h2]
      exact ⟨se_chn ok.cz (sndE a ok h4).se (sndE b ok h5).se (sndE d ok h6).se (noSet_in h3), fun _ => st_chn ok.cz (sndE a ok h4).se (sndE b ok h5).se (sndE d ok h6).se (noSet_in h3), fun _ op es p e => by cases e⟩
    · cases h
  | .call f es, X, W, c, e, ok, h => by
    unfold ckE at h; try dsimp only at h
    split at h
    · rw [Bool.and_eq_true, Bool.and_eq_true, Bool.and_eq_true, Bool.and_eq_true, Bool.and_eq_true, decide_eq_true_eq] at h
      obtain ⟨⟨⟨⟨⟨hz, h1⟩, h2⟩, h3⟩, h4⟩, h5⟩ := h
      obtain ⟨k, fa, fd, ps, G, hr, rx, hb, hl⟩ := ok.defs _ _ _ h1
      obtain ⟨hm, hk⟩ := rx.fn hz
      exact .val (se_call G (hr.mono (by omega)) ok.cz.gd ok.tk (ok.gl h2) hm hk hb.full (sndEs es ok h5 h4) h4 (fun e h ds h' q => by rw [hl]; exact evEs_len es h5 e h ds h' q) (plain_of h3).1) rfl
    · rw [Bool.and_eq_true, Bool.and_eq_true, Bool.and_eq_true, Bool.and_eq_true, decide_eq_true_eq] at h
      obtain ⟨hz, h1, h2, h3, h4⟩ := h
      obtain ⟨k, fa, fd, ps, G, hr, rx, hb, hl⟩ := ok.defs _ _ _ h1
      obtain ⟨hm, hk⟩ := rx.fn hz
      have ees : es = .nil := by
        cases es with
        | nil => rfl
        | cons b r => unfold ckEs at h4; cases h4
      subst ees
      exact .val (se_call0 G (hr.mono (by omega)) ok.cz.gd ok.tk (ok.gl h2) hm hk hb.full hl (plain_of h3).1) rfl
    · cases h
  | .cld f es di, X, W, c, e, ok, h => by
    unfold ckE at h; try dsimp only at h
    split at h
    · rw [Bool.and_eq_true, Bool.and_eq_true, Bool.and_eq_true, Bool.and_eq_true, Bool.and_eq_true, Bool.and_eq_true, decide_eq_true_eq, decide_eq_true_eq] at h
      obtain ⟨⟨⟨⟨⟨⟨hz, h1⟩, h0⟩, h2⟩, h3⟩, h4⟩, h5⟩ := h
      obtain ⟨k, fa, fd, ps, G, hr, rx, hb, hl⟩ := ok.defs _ _ _ h1
      obtain ⟨hm, hk⟩ := rx.fn hz
      obtain ⟨t, hb⟩ := hb.short _ h0
      exact .val (se_cld G (hr.mono (by omega)) ok.cz.gd ok.tk (ok.gl h2) hm hk hb (sndEs es ok h5 h4) h4 (fun e h ds h' q => by rw [hl, evEs_len es h5 e h ds h' q]; rfl) (plain_of h3).1) rfl
    · cases h
  | .bi b es, X, W, c, e, ok, h => by
    unfold ckE at h; try dsimp only at h
    split at h
    · rw [Bool.and_eq_true, Bool.and_eq_true, Bool.and_eq_true] at h
      obtain ⟨⟨⟨h1, h2⟩, h3⟩, h4⟩ := h
      exact .val (se_bi ok h1 h2 h3 (sndEs es ok h4 h3)) rfl
    · cases h
  | .me m a b, X, W, c, e, ok, h => by
    unfold ckE at h; try dsimp only at h
    split at h
    · rw [Bool.and_eq_true, Bool.and_eq_true, Bool.and_eq_true, Bool.and_eq_true, Bool.and_eq_true] at h
      obtain ⟨⟨⟨⟨h1, h2⟩, h3⟩, h4⟩, h5, h6⟩ := h
      have qa := (sndE a ok h5).se
      have qb := (sndE b ok h6).se
      cases m <;> first | (cases h1; done) | skip
      all_goals (unfold meB at h1)
      all_goals (rw [decide_eq_true_eq] at h1)
      · subst h1; exact .val (se_meth (m := .index) PySem.F.plainAttrs_list PySem.F.slot_list_index PySem.F.type_list_index (mt_indexDD ok.cz) qa qb h2 h3 h4) rfl
      · subst h1; exact .val (se_meth (m := .count) PySem.F.plainAttrs_list PySem.F.slot_list_count PySem.F.type_list_count (mt_countD ok.cz) qa qb h2 h3 h4) rfl
      · subst h1; exact .val (se_meth (m := .join) PySem.F.plainAttrs_str PySem.F.slot_str_join PySem.F.type_str_join mt_joinD qa qb h2 h3 h4) rfl
      · subst h1; exact .val (se_meth (m := .split) PySem.F.plainAttrs_str PySem.F.slot_str_split PySem.F.type_str_split mt_splitD qa qb h2 h3 h4) rfl
      · subst h1; exact .val (se_meth (m := .partition) PySem.F.plainAttrs_str PySem.F.slot_str_partition PySem.F.type_str_partition mt_partD qa qb h2 h3 h4) rfl
    · cases h
  | .isi a t, X, W, c, e, ok, h => by
    unfold ckE at h; try dsimp only at h
    split at h
    · rw [Bool.and_eq_true, Bool.and_eq_true, Bool.and_eq_true, Bool.and_eq_true, Bool.and_eq_true, decide_eq_true_eq] at h
      obtain ⟨⟨⟨⟨⟨rfl, h1⟩, h2⟩, h3⟩, h4⟩, h5⟩ := h
      have qa := (sndE a ok h5).se
      have g1 := ok.gl h1
      have g2 := ok.gl h3
      cases t <;> first | (cases h2; done) | skip
      all_goals (unfold tyB at h2)
      all_goals (rw [decide_eq_true_eq] at h2; subst h2)
      all_goals exact .val (se_isi rfl g1 (ok.mn (by decide)) g2 (ok.mn (by decide)) (by decide +kernel) (by decide) (by decide) qa h4) rfl
    · cases h
  | .ix a b, X, W, c, e, ok, h => by
    unfold ckE at h; try dsimp only at h
    split at h
    · rw [Bool.and_eq_true, Bool.and_eq_true] at h
      obtain ⟨h1, h2, h3⟩ := h
      exact .val (se_ix (sndE a ok h2).se (sndE b ok h3).se h1) rfl
    · cases h
  | .sl a lo hi, X, W, c, e, ok, h => by
    unfold ckE at h; try dsimp only at h
    split at h
    · rw [Bool.and_eq_true, Bool.and_eq_true] at h
      obtain ⟨h1, h2, h3⟩ := h
      exact .val (se_sl (sndE a ok h1).se (sndE lo ok h2).se (sndE hi ok h3).se) rfl
    · cases h
  | .slf a lo, X, W, c, e, ok, h => by
    unfold ckE at h; try dsimp only at h
    split at h
    · rw [Bool.and_eq_true] at h
      exact .val (se_slf (sndE a ok h.1).se (sndE lo ok h.2).se) rfl
    · cases h
  | .slt a hi, X, W, c, e, ok, h => by
    unfold ckE at h; try dsimp only at h
    split at h
    · rw [Bool.and_eq_true] at h
      exact .val (se_slt (sndE a ok h.1).se (sndE hi ok h.2).se) rfl
    · cases h
  | .kg i a, X, W, c, e, ok, h => by
    unfold ckE at h; try dsimp only at h
    split at h
    · rw [Bool.and_eq_true, Bool.and_eq_true] at h
      obtain ⟨⟨h1, h2⟩, h3⟩ := h
      exact .val (se_kg (by have := ok.cz.un; omega) (ok.rd h1) (sndE a ok h3).se h2) rfl
    · cases h
  | .kin n i a, X, W, c, e, ok, h => by
    unfold ckE at h; try dsimp only at h
    split at h
    · rename_i a' op x p2 p3
      rw [Bool.and_eq_true, Bool.and_eq_true] at h
      obtain ⟨⟨h1, h2⟩, h3⟩ := h
      have eop : op = kinOp n := by
        cases n <;> cases op <;> first | rfl | (cases h2; done)
      subst eop
      have hu : X.A.units + 1 < cLine := by have := ok.cz.un; omega
      have hm : behindInMarks (kinOp n) (.Name x p2) = false := noSet_in rfl
      exact ⟨se_kin hu (ok.rd h1) (sndE a ok h3).se hm, fun _ => st_kin hu (ok.rd h1) (sndE a ok h3).se hm, fun _ op es p e => by cases e⟩
    · cases h
  | .rev a, X, W, c, e, ok, h => by
    unfold ckE at h; try dsimp only at h
    split at h
    · exact .val (se_rev (sndE a ok h).se) rfl
    · cases h
  | .tup es, X, W, c, e, ok, h => by
    unfold ckE at h; try dsimp only at h
    split at h
    · rw [Bool.and_eq_true, Bool.and_eq_true, decide_eq_true_eq] at h
      obtain ⟨⟨h1, h2⟩, h3⟩ := h
      exact .val (se_tup (sndEs es ok h3 h1) h2 (evEs_len es h3)) rfl
    · cases h
  | .lst es, X, W, c, e, ok, h => by
    unfold ckE at h; try dsimp only at h
    split at h
    · rw [Bool.and_eq_true, Bool.and_eq_true, decide_eq_true_eq] at h
      obtain ⟨⟨h1, h2⟩, h3⟩ := h
      exact .val (se_lst (sndEs es ok h3 h1) h2 (evEs_len es h3)) rfl
    · cases h
  | .mls es, X, W, c, e, ok, h => by
    unfold ckE at h; try dsimp only at h
    split at h
    · rw [Bool.and_eq_true, Bool.and_eq_true, decide_eq_true_eq] at h
      obtain ⟨⟨h1, h2⟩, h3⟩ := h
      exact .val (se_mls (sndEs es ok h3 h1) h2 (evEs_len es h3)) rfl
    · cases h
  | .dic kvs, X, W, c, e, ok, h => by
    unfold ckE at h; try dsimp only at h
    split at h
    · exact .val se_dic0 rfl
    · rw [Bool.and_eq_true, decide_eq_true_eq, decide_eq_true_eq] at h
      obtain ⟨rfl, rfl⟩ := h
      exact .val se_dic1 rfl
    · cases h
  | .comp it t vs cnd elt, X, W, c, e, ok, h => by
    unfold ckE at h; try dsimp only at h
    split at h
    · rename_i elt' tg iter ifs scope pos
      rw [Bool.and_eq_true, Bool.and_eq_true, Bool.and_eq_true, Bool.and_eq_true, Bool.and_eq_true, Bool.and_eq_true] at h
      obtain ⟨⟨⟨⟨⟨h1, h2⟩, h3⟩, h4⟩, h5⟩, h6, h7⟩ := h
      have hb : BlkOk X.N X.env.scope scope (ownOf c vs) := by rw [ok.N, ok.sc]; exact blkOk_by h3
      have htv : ∀ i ∈ t.is, i ∈ (ownOf c vs).map (·.2) := fun i hi => by
        rw [own_map]
        rw [List.all_eq_true] at h4
        have := h4 i hi
        simpa using this
      have hf : ∀ (s : Shared) (H : Hp) (C : Addr) (cs : List (Str × Addr)) (fp : List Addr), STs (X.blk s H scope (compEnvC scope cs C X.env) fp) px Wno ifs (evE cl cnd) := fun s H C cs fp => by
        split at h6
        · cases cnd <;> try (cases h6; done)
          rename_i d
          cases d <;> try (cases h6; done)
          rename_i b
          have hb : b = true := h6
          subst hb
          exact sts_nil
        · rw [Bool.and_eq_true] at h6
          exact sts_one ((sndE cnd ok.blk h6.2).st h6.1)
        · cases h6
      have q := se_compF (W := W) (pos := pos) ok.calm ok.nd (sndI it ok h1) hb htv (fun s H C cs fp => ok.blk.tg h5) hf (fun s H C cs fp => (sndE elt ok.blk h7).se) (noSet_fold h2 X.env)
      rw [own_map] at q
      exact .val q.se rfl
    · cases h
  | .said a, X, W, c, e, ok, h => by
    unfold ckE at h; try dsimp only at h
    split at h
    · rename_i x p ar bd scope lp pos
      simp only [Bool.and_eq_true, decide_eq_true_eq] at h
      obtain ⟨⟨⟨⟨⟨rfl, h1⟩, h2⟩, h3⟩, h4⟩, h5⟩ := h
      obtain ⟨kk, G, S, dfs⟩ := ok.sd h2
      obtain rfl := noArgs_of h4
      have L := LamX.lamS_by (sc := X.env.scope) (by rw [ok.sc]; exact h3)
      exact .val (se_said (fa := evE cl a) G S ok.cz (ok.gl h1) L rfl (fun _ _ _ _ _ => rfl) fun e1 outer s0 H E f c' => (sndE a (ok.lam S dfs) h5).se) rfl
    · cases h
  | .fld ci a f, X, W, c, e, ok, h => by
    unfold ckE at h; try dsimp only at h
    split at h
    · rw [Bool.and_eq_true, Bool.and_eq_true, Bool.and_eq_true, Bool.and_eq_true, decide_eq_true_eq] at h
      obtain ⟨rfl, h1, h2, h3, h4⟩ := h
      exact .val (se_fld (ok.ins ci h1) h2 h3 (sndE a ok h4).se) rfl
    · cases h
  | .new ci f, X, W, c, e, ok, h => by
    unfold ckE at h; try dsimp only at h
    split at h
    · rw [Bool.and_eq_true, Bool.and_eq_true, Bool.and_eq_true, Bool.and_eq_true, Bool.and_eq_true, decide_eq_true_eq, decide_eq_true_eq, decide_eq_true_eq] at h
      obtain ⟨rfl, h1, h2, h3, h4, h5⟩ := h
      obtain ⟨k, fa, fd, ps, G, hr, rx, hb, hl⟩ := ok.defs _ _ _ h5
      have I := ok.ins ci h1
      obtain ⟨f', M⟩ := I.mkr
      have e1 : f' = fa := by
        have z1 := M.init
        have z2 := (rx.mt h4).at_
        rw [z1] at z2
        cases z2
        rfl
      subst e1
      exact .val (se_new I M G hr ok.cz.gd ok.tk (ok.gl h2) I.mg hb.full hl (plain_of h3).1) rfl
    · cases h
  | .mc ci f m a es, X, W, c, e, ok, h => by
    unfold ckE at h; try dsimp only at h
    split at h
    · rename_i a' m' apos as cpos
      rw [Bool.and_eq_true, Bool.and_eq_true, Bool.and_eq_true, Bool.and_eq_true, Bool.and_eq_true, Bool.and_eq_true, Bool.and_eq_true, Bool.and_eq_true, Bool.and_eq_true, decide_eq_true_eq, decide_eq_true_eq, decide_eq_true_eq, decide_eq_true_eq] at h
      obtain ⟨rfl, h1, h2, h3, h4, h5, h6, h7, h8, h9⟩ := h
      obtain ⟨k, fa, fd, ps, G, hr, rx, hb, hl⟩ := ok.defs _ _ _ h3
      have I := ok.ins ci h1
      cases as with
      | nil =>
        have ees : es = .nil := by
          cases es with
          | nil => rfl
          | cons b r => unfold ckEs at h9; cases h9
        subst ees
        exact .val (se_mc0 I (rx.mt h2) G (hr.mono (by omega)) ok.cz.gd ok.tk hb.full h4 (sndE a ok h8).se h7 hl) rfl
      | cons b bs =>
        exact .val (se_mc I (rx.mt h2) G (hr.mono (by omega)) ok.cz.gd ok.tk hb.full h4 (sndE a ok h8).se (sndEs es ok h9 h5) h5 h6 h7 (fun e h ds h' q => by rw [hl, evEs_len es h9 e h ds h' q])) rfl
    · cases h
  | .popr a, X, W, c, e, ok, h => by
    unfold ckE at h; try dsimp only at h
    split at h
    · rw [Bool.and_eq_true, Bool.and_eq_true, Bool.and_eq_true, decide_eq_true_eq] at h
      obtain ⟨rfl, h1, h2, h3⟩ := h
      exact .val (se_popr h1 (sndE a ok h3).se h2) rfl
    · cases h
  | .mkc it t vs cnd elt, X, W, c, e, ok, h => by
    unfold ckE at h; try dsimp only at h
    split at h
    · rename_i elt' tg iter ifs scope pos
      rw [Bool.and_eq_true, Bool.and_eq_true, Bool.and_eq_true, Bool.and_eq_true, Bool.and_eq_true, Bool.and_eq_true] at h
      obtain ⟨⟨⟨⟨⟨h1, h2⟩, h3⟩, h4⟩, h5⟩, h6, h7⟩ := h
      have hb : BlkOk X.N X.env.scope scope (ownOf c vs) := by rw [ok.N, ok.sc]; exact blkOk_by h3
      have htv : ∀ i ∈ t.is, i ∈ (ownOf c vs).map (·.2) := fun i hi => by
        rw [own_map]
        rw [List.all_eq_true] at h4
        have := h4 i hi
        simpa using this
      have hf : ∀ (s : Shared) (H : Hp) (C : Addr) (cs : List (Str × Addr)) (fp : List Addr), STs (X.blk s H scope (compEnvC scope cs C X.env) fp) px Wno ifs (evE cl cnd) := fun s H C cs fp => by
        split at h6
        · cases cnd <;> try (cases h6; done)
          rename_i d
          cases d <;> try (cases h6; done)
          rename_i b
          have hb : b = true := h6
          subst hb
          exact sts_nil
        · rw [Bool.and_eq_true] at h6
          exact sts_one ((sndE cnd ok.blk h6.2).st h6.1)
        · cases h6
      have q := se_compF (W := W) (pos := pos) ok.calm ok.nd (sndI it ok h1) hb htv (fun s H C cs fp => ok.blk.tg h5) hf (fun s H C cs fp => (sndE elt ok.blk h7).se) (noSet_fold h2 X.env)
      rw [own_map] at q
      exact .val (se_mk q.sel) rfl
    · cases h
  | .mkm es b, X, W, c, e, ok, h => by
    unfold ckE at h; try dsimp only at h
    split at h
    · rename_i es' p1 b' p2
      rw [Bool.and_eq_true, Bool.and_eq_true, Bool.and_eq_true, decide_eq_true_eq] at h
      obtain ⟨h1, h2, h3, h4⟩ := h
      have qa := (se_lstF (W := W) (pos := p1) (sndEs es ok h3 h1) h2 (evEs_len es h3)).se
      have qb := (sndE b ok h4).se
      exact .val (se_mk (sel_bin (o := .mul) (r := op_mulL) qa qb)) rfl
    · cases h
  | .hcomp a t vs cnd elt, X, W, c, e, ok, h => by
    unfold ckE at h; try dsimp only at h
    split at h
    · rename_i elt' tg iter ifs scope pos
      rw [Bool.and_eq_true, Bool.and_eq_true, Bool.and_eq_true, Bool.and_eq_true, Bool.and_eq_true, Bool.and_eq_true] at h
      obtain ⟨⟨⟨⟨⟨h1, h2⟩, h3⟩, h4⟩, h5⟩, h6, h7⟩ := h
      have hb : BlkOk X.N X.env.scope scope (ownOf c vs) := by rw [ok.N, ok.sc]; exact blkOk_by h3
      have htv : ∀ i ∈ t.is, i ∈ (ownOf c vs).map (·.2) := fun i hi => by
        rw [own_map]
        rw [List.all_eq_true] at h4
        have := h4 i hi
        simpa using this
      have hf : ∀ (s : Shared) (H : Hp) (C : Addr) (cs : List (Str × Addr)) (fp : List Addr), STs (X.blk s H scope (compEnvC scope cs C X.env) fp) px Wno ifs (evE cl cnd) := fun s H C cs fp => by
        split at h6
        · cases cnd <;> try (cases h6; done)
          rename_i d
          cases d <;> try (cases h6; done)
          rename_i b
          have hb : b = true := h6
          subst hb
          exact sts_nil
        · rw [Bool.and_eq_true] at h6
          exact sts_one ((sndE cnd ok.blk h6.2).st h6.1)
        · cases h6
      have q := se_hcF (W := W) (pos := pos) ok.calm ok.nd (sndE a ok h1).se hb htv (fun s H C cs fp => ok.blk.tg h5) hf (fun s H C cs fp => (sndE elt ok.blk h7).se) (noSet_fold h2 X.env)
      rw [own_map] at q
      exact .val q.se rfl
    · cases h
  | .mkd, X, W, c, e, ok, h => by
    unfold ckE at h; try dsimp only at h
    split at h
    · exact .val se_mkd rfl
    · cases h
  | .dgt a k d, X, W, c, e, ok, h => by
    unfold ckE at h; try dsimp only at h
    split at h
    · rw [Bool.and_eq_true, Bool.and_eq_true, Bool.and_eq_true, Bool.and_eq_true, Bool.and_eq_true, Bool.and_eq_true, Bool.and_eq_true, decide_eq_true_eq] at h
      obtain ⟨rfl, h1, h2, h3, h4, h5, h6, h7⟩ := h
      exact .val (se_dgt ok.cz h1 (sndE a ok h5).se (sndE k ok h6).se (sndE d ok h7).se h4 h2 h3) rfl
    · cases h
  | .din n a k, X, W, c, e, ok, h => by
    unfold ckE at h; try dsimp only at h
    split at h
    · rename_i k' op a' pos
      rw [Bool.and_eq_true, Bool.and_eq_true, Bool.and_eq_true] at h
      obtain ⟨h1, h2, h3, h4⟩ := h
      have qk := (sndE k ok h3).se
      have qa := (sndE a ok h4).se
      have eo : op = kinOp n := by
        cases n <;> cases op <;> first | rfl | cases h1
      subst eo
      have hm : behindInMarks (kinOp n) a' = false := noSet_in h2
      exact ⟨se_din ok.cz qk qa hm, fun _ => st_din ok.cz qk qa hm, fun _ op es p e => by cases e⟩
    · cases h
  | .tur a, X, W, c, e, ok, h => by
    unfold ckE at h; try dsimp only at h
    split at h
    · rw [Bool.and_eq_true, Bool.and_eq_true, Bool.and_eq_true, decide_eq_true_eq] at h
      obtain ⟨rfl, h1, h2, h3⟩ := h
      exact .val (se_tur (ok.gl h1) (ok.mn (by decide)) (sndE a ok h3).se h2) rfl
    · cases h
  | .ggt x zs a, X, W, c, e, ok, h => by
    unfold ckE at h; try dsimp only at h
    split at h
    · rw [Bool.and_eq_true, Bool.and_eq_true, Bool.and_eq_true, Bool.and_eq_true, Bool.and_eq_true, Bool.and_eq_true, Bool.and_eq_true, decide_eq_true_eq, decide_eq_true_eq, decide_eq_true_eq] at h
      obtain ⟨rfl, rfl, h1, h2, h3, h4, h5, h6⟩ := h
      obtain ⟨ga, hm, hk⟩ := ok.glob _ _ h3
      exact .val (se_gget (ok.gl h1) hm hk (plain_of h2).1 (sndE a ok h6).se h5 h4) rfl
    · cases h
  | .lnr a, X, W, c, e, ok, h => by
    unfold ckE at h; try dsimp only at h
    split at h
    · rw [Bool.and_eq_true, Bool.and_eq_true, Bool.and_eq_true, decide_eq_true_eq] at h
      obtain ⟨rfl, h1, h2, h3⟩ := h
      exact .val (se_lnr (ok.gl h1) (ok.mn (by decide)) (sndE a ok h3).se h2) rfl
    · cases h
  | .ise a, X, W, c, e, ok, h => by
    unfold ckE at h; try dsimp only at h
    split at h
    · have q := (sndE a ok h).se
      exact ⟨se_ise ok.cz q, fun _ => st_ise ok.cz q, fun _ op es p e => by cases e⟩
    · cases h
  | .ing a x zs, X, W, c, e, ok, h => by
    unfold ckE at h; try dsimp only at h
    split at h
    · rw [Bool.and_eq_true, Bool.and_eq_true, Bool.and_eq_true, Bool.and_eq_true, decide_eq_true_eq, decide_eq_true_eq] at h
      obtain ⟨rfl, h1, h2, h3, h4⟩ := h
      obtain ⟨ga, hm, hk⟩ := ok.glob _ _ h3
      have q := (sndE a ok h4).se
      exact ⟨se_ing ok.cz (ok.gl h1) hm hk (plain_of h2).1 q, fun _ => st_ing ok.cz (ok.gl h1) hm hk (plain_of h2).1 q, fun _ op es p e => by cases e⟩
    · cases h
  | .up a, X, W, c, e, ok, h => by
    unfold ckE at h; try dsimp only at h
    split at h
    · rw [Bool.and_eq_true, Bool.and_eq_true, Bool.and_eq_true, decide_eq_true_eq] at h
      obtain ⟨rfl, h1, h2, h3⟩ := h
      exact .val (se_up h1 (sndE a ok h3).se h2) rfl
    · cases h
  | .mcd ci f m a es di, X, W, c, e, ok, h => by
    unfold ckE at h; try dsimp only at h
    split at h
    · rename_i a' m' apos as cpos
      simp only [Bool.and_eq_true, decide_eq_true_eq] at h
      obtain ⟨rfl, h1, h2, h3, h0, h4, h5, h6, h7, h8, h9⟩ := h
      obtain ⟨k, fa, fd, ps, G, hr, rx, hb, hl⟩ := ok.defs _ _ _ h3
      have I := ok.ins ci h1
      obtain ⟨t, hb⟩ := hb.short _ h0
      cases as with
      | nil =>
        have ees : es = .nil := by
          cases es with
          | nil => rfl
          | cons b r => unfold ckEs at h9; cases h9
        subst ees
        exact .val (se_mcd0 I (rx.mt h2) G (hr.mono (by omega)) ok.cz.gd ok.tk hb h4 (sndE a ok h8).se h7 hl) rfl
      | cons b bs =>
        exact .val (se_mcd I (rx.mt h2) G (hr.mono (by omega)) ok.cz.gd ok.tk hb h4 (sndE a ok h8).se (sndEs es ok h9 h5) h5 h6 h7 (fun e h ds h' q => by rw [hl, evEs_len es h9 e h ds h' q])) rfl
    · cases h
  | .mkx k a, X, W, c, e, ok, h => by
    unfold ckE at h; try dsimp only at h
    split at h
    · simp only [Bool.and_eq_true, decide_eq_true_eq] at h
      obtain ⟨h1, h2, h3, h4, h5, h6, h7⟩ := h
      exact .val (se_mkx (ok.xv h3) h1 h2 (ok.gl h4) (plain_of h5).1 (sndE a ok h7).se h6) rfl
    · cases h
  | .mkb a, X, W, c, e, ok, h => by
    unfold ckE at h; try dsimp only at h
    split at h
    · simp only [Bool.and_eq_true, decide_eq_true_eq] at h
      obtain ⟨rfl, h1, h2, h3, h4, h5⟩ := h
      obtain ⟨C, fI, fd, B, iC, tI, F1, hr, hb, hm, _⟩ := ok.brk h2
      have eC : C = exA X.K 16 := by
        have z := (ok.xv h1).gm 16 (by omega)
        have z2 : X.mg "Broken" = some (.ref (exA X.K 16)) := z
        rw [hm] at z2
        injection z2 with z2
        injection z2
      subst eC
      exact .val (se_mkb (ok.xv h1) B iC tI F1 hr hb rfl (ok.gl h3) (by decide) (sndE a ok h5).se h4) rfl
    · cases h
  | .isx j a, X, W, c, e, ok, h => by
    unfold ckE at h; try dsimp only at h
    split at h
    · simp only [Bool.and_eq_true, decide_eq_true_eq] at h
      obtain ⟨rfl, h1, h2, h3, h4, h5, h6, h7, h8⟩ := h
      exact .val (se_isx (ok.xv h4) h2 h3 (ok.gl h1) (ok.mn (by decide)) (ok.gl h5) (plain_of h6).1 (sndE a ok h8).se h7) rfl
    · cases h
  | .isv a, X, W, c, e, ok, h => by
    unfold ckE at h; try dsimp only at h
    split at h
    · simp only [Bool.and_eq_true, decide_eq_true_eq] at h
      obtain ⟨rfl, h1, rfl, h3, h4, h5, h6⟩ := h
      exact .val (se_isv (ok.xv h3) (ok.gl h1) (ok.mn (by decide)) (ok.gl h4) (ok.xv h3).mv (sndE a ok h6).se h5) rfl
    · cases h
  | .xat a, X, W, c, e, ok, h => by
    unfold ckE at h; try dsimp only at h
    split at h
    · simp only [Bool.and_eq_true, decide_eq_true_eq] at h
      obtain ⟨rfl, h1, h2, h3⟩ := h
      exact .val (se_xat (ok.xv h1) (sndE a ok h3).se h2) rfl
    · cases h
  | .isc ci a, X, W, c, e, ok, h => by
    unfold ckE at h; try dsimp only at h
    split at h
    · simp only [Bool.and_eq_true, decide_eq_true_eq] at h
      obtain ⟨rfl, h1, h2, h3, h4, h5, h6, h7⟩ := h
      exact .val (se_isc (ok.ins ci h3) (ok.gl h1) (ok.mn (by decide)) (ok.gl h4) h2 (plain_of h5).1 (sndE a ok h7).se h6) rfl
    · cases h
  | .fst a s t, X, W, c, e, ok, h => by
    unfold ckE at h; try dsimp only at h
    split at h
    · simp only [Bool.and_eq_true, decide_eq_true_eq] at h
      obtain ⟨rfl, rfl, rfl, h1, h2⟩ := h
      exact .val (se_fst ok.cz h1 (sndE a ok h2).se) rfl
    · cases h
  | .lnm ci f a, X, W, c, e, ok, h => by
    unfold ckE at h; try dsimp only at h
    split at h
    · simp only [Bool.and_eq_true, decide_eq_true_eq] at h
      obtain ⟨rfl, h1, h2, h3, h4, h5, h6⟩ := h
      exact .val (se_lnm ok.cz (ok.own h3 h4) (ok.gl h1) (ok.mn (by decide)) (sndE a ok h6).se h5) rfl
    · cases h
  | .rpm ci f a, X, W, c, e, ok, h => by
    unfold ckE at h; try dsimp only at h
    split at h
    · simp only [Bool.and_eq_true, decide_eq_true_eq] at h
      obtain ⟨rfl, h1, h2, h3, h4, h5, h6⟩ := h
      exact .val (se_rpm ok.cz (ok.own h3 h4) (ok.gl h1) (ok.mn (by decide)) (sndE a ok h6).se h5) rfl
    · cases h
  | .eqm n ci f a b, X, W, c, e, ok, h => by
    unfold ckE at h; try dsimp only at h
    split at h
    · simp only [Bool.and_eq_true, decide_eq_true_eq] at h
      obtain ⟨rfl, h1, h2, h3, h4, h5, h6⟩ := h
      have qa := (sndE a ok h5).se
      have qb := (sndE b ok h6).se
      exact ⟨se_eqm (ok.ins ci h1) ok.cz (ok.own h2 h3) qa qb (noSet_in h4), fun _ => st_eqm (ok.ins ci h1) ok.cz (ok.own h2 h3) qa qb (noSet_in h4), fun _ op es p e => by cases e⟩
    · cases h
  | .inm ci f a b, X, W, c, e, ok, h => by
    unfold ckE at h; try dsimp only at h
    split at h
    · simp only [Bool.and_eq_true, decide_eq_true_eq] at h
      obtain ⟨h1, h2, h3, h4, h5, h6⟩ := h
      have qa := (sndE a ok h5).se
      have qb := (sndE b ok h6).se
      exact ⟨se_inm (ok.ins ci h1) ok.cz (ok.own h2 h3) qa qb h4, fun _ => st_inm (ok.ins ci h1) ok.cz (ok.own h2 h3) qa qb h4, fun _ op es p e => by cases e⟩
    · cases h
  | .popi a b, X, W, c, e, ok, h => by
    unfold ckE at h; try dsimp only at h
    split at h
    · simp only [Bool.and_eq_true, decide_eq_true_eq] at h
      obtain ⟨rfl, h1, h2, h3, h4, h5⟩ := h
      exact .val (se_popi h1 (sndE a ok h4).se (sndE b ok h5).se h3 h2) rfl
    · cases h
  | .lsr a, X, W, c, e, ok, h => by
    unfold ckE at h; try dsimp only at h
    split at h
    · simp only [Bool.and_eq_true, decide_eq_true_eq] at h
      obtain ⟨rfl, h1, h2, h3⟩ := h
      exact .val (se_lsr (ok.gl h1) (ok.mn (by decide)) (sndE a ok h3).se h2) rfl
    · cases h
  | .mkl a, X, W, c, e, ok, h => by
    unfold ckE at h; try dsimp only at h
    split at h
    · simp only [Bool.and_eq_true, decide_eq_true_eq] at h
      obtain ⟨rfl, h1, h2, h3⟩ := h
      exact .val (se_mkl (ok.gl h1) (ok.mn (by decide)) (sndE a ok h3).se h2) rfl
    · cases h
  | .nv, X, W, c, e, ok, h => ⟨⟨fun _ _ _ _ _ _ ⟨_, _, _, p⟩ => p.po.elim⟩, fun _ => ⟨fun _ _ _ _ _ _ ⟨_, _, _, p⟩ => p.po.elim⟩, fun _ _ _ _ _ => ⟨fun _ _ _ _ _ _ _ ⟨_, _, _, p⟩ => p.po.elim⟩⟩
theorem sndEs {px : Px} {cl : Nat → List D → Hs → R D} : ∀ (t : Es) {X : Cx} {W : WX} {c : Ck} {es : List Expr}, Ok X px W cl c → ckEs c t es = true → es.all nst = true → SA X px W es (evEs cl t)
  | .nil, X, W, c, es, ok, h, hs => by
    unfold ckEs at h; try dsimp only at h
    have : es = [] := List.isEmpty_iff.mp h
    subst this
    exact sa_nil
  | .cons a r, X, W, c, es, ok, h, hs => by
    unfold ckEs at h; try dsimp only at h
    split at h
    · rw [Bool.and_eq_true] at h
      rw [List.all_cons, Bool.and_eq_true] at hs
      exact sa_cons (sndE a ok h.1).se (sndEs r ok h.2 hs.2) (star_ok hs.1)
    · cases h
theorem sndI {px : Px} {cl : Nat → List D → Hs → R D} {st : Bool} : ∀ (t : It) {X : Cx} {W : WX} {c : Ck} {tg e : Expr}, Ok X px W cl c → ckI c t tg e = true → SI X px W st tg e (evI cl st t)
  | .seq a, X, W, c, tg, e, ok, h => by
    unfold ckI at h; try dsimp only at h
    exact si_seq (sndE a ok h).se
  | .rng a, X, W, c, tg, e, ok, h => by
    unfold ckI at h; try dsimp only at h
    split at h
    · rw [Bool.and_eq_true, Bool.and_eq_true, Bool.and_eq_true, decide_eq_true_eq] at h
      obtain ⟨⟨⟨rfl, h1⟩, h2⟩, h3⟩ := h
      exact si_rng (sndE a ok h3).se (ok.gl h1) (ok.mn (by decide)) h2
    · cases h
  | .rngs a b, X, W, c, tg, e, ok, h => by
    unfold ckI at h; try dsimp only at h
    split at h
    · rw [Bool.and_eq_true, Bool.and_eq_true, Bool.and_eq_true, Bool.and_eq_true, Bool.and_eq_true, decide_eq_true_eq] at h
      obtain ⟨⟨⟨⟨rfl, h1⟩, h2⟩, h3⟩, h4, h5⟩ := h
      exact si_rngs (sndE a ok h4).se (sndE b ok h5).se (ok.gl h1) (ok.mn (by decide)) h2 h3
    · cases h
  | .rng3 a b d, X, W, c, tg, e, ok, h => by
    unfold ckI at h; try dsimp only at h
    split at h
    · rw [Bool.and_eq_true, Bool.and_eq_true, Bool.and_eq_true, Bool.and_eq_true, Bool.and_eq_true, Bool.and_eq_true, Bool.and_eq_true, decide_eq_true_eq] at h
      obtain ⟨⟨⟨⟨⟨rfl, h1⟩, h2⟩, h3⟩, h4⟩, h5, h6, h7⟩ := h
      exact si_rng3 (sndE a ok h5).se (sndE b ok h6).se (sndE d ok h7).se (ok.gl h1) (ok.mn (by decide)) h2 h3 h4
    · cases h
  | .zip a b, X, W, c, tg, e, ok, h => by
    unfold ckI at h; try dsimp only at h
    split at h
    · rw [Bool.and_eq_true, Bool.and_eq_true, Bool.and_eq_true, Bool.and_eq_true, Bool.and_eq_true, Bool.and_eq_true, decide_eq_true_eq] at h
      obtain ⟨⟨⟨⟨⟨rfl, h1⟩, h2⟩, h3⟩, h4⟩, h5, h6⟩ := h
      cases tg <;> try (cases h4; done)
      exact si_zip (sndE a ok h5).se (sndE b ok h6).se (ok.gl h1) (ok.mn (by decide)) h2 h3
    · cases h
  | .zip3 a b d, X, W, c, tg, e, ok, h => by
    unfold ckI at h; try dsimp only at h
    split at h
    · rw [Bool.and_eq_true, Bool.and_eq_true, Bool.and_eq_true, Bool.and_eq_true, Bool.and_eq_true, Bool.and_eq_true, Bool.and_eq_true, Bool.and_eq_true, decide_eq_true_eq] at h
      obtain ⟨⟨⟨⟨⟨⟨rfl, h1⟩, h2⟩, h3⟩, h3'⟩, h4⟩, h5, h6, h7⟩ := h
      cases tg <;> try (cases h4; done)
      exact si_zip3 (sndE a ok h5).se (sndE b ok h6).se (sndE d ok h7).se (ok.gl h1) (ok.mn (by decide)) h2 h3 h3'
    · cases h
  | .enm a, X, W, c, tg, e, ok, h => by
    unfold ckI at h; try dsimp only at h
    split at h
    · rw [Bool.and_eq_true, Bool.and_eq_true, Bool.and_eq_true, Bool.and_eq_true, decide_eq_true_eq] at h
      obtain ⟨⟨⟨⟨rfl, h1⟩, h2⟩, h3⟩, h4⟩ := h
      cases tg <;> try (cases h3; done)
      exact si_enm (sndE a ok h4).se (ok.gl h1) (ok.mn (by decide)) h2
    · cases h
end
end Tv
end

section
set_option autoImplicit false
set_option maxHeartbeats 1000000
/-! What is held against the code computes what the trees say: statements, defs. -/
namespace Tv
open PySem PySem.Spec PyProof.Rows L2
section
variable {X : Cx} {px : Px} {W : WX} {cl : Nat → List D → Hs → R D} {c : Ck} {a b : Expr} {fa fb fc : Ev → Hs → R D} {pos pos' p : Pos} {i j : Nat} {x y : Str}
/-! ### a comprehension's parts -/
structure CompOk (X : Cx) (px : Px) (W : WX) (c : Ck) (cl : Nat → List D → Hs → R D) (it : It) (t : T) (vs : List Nat) (cnd elt : E) (elt' tg iter : Expr) (ifs : List Expr) (scope : Scope) : Prop where
  it : SI X px W false tg iter (evI cl false it)
  blk : BlkOk X.N X.env.scope scope (ownOf c vs)
  tv : ∀ i ∈ t.is, i ∈ vs
  tg : ∀ (s : Shared) (H : Hp) (C : Addr) (cs : List (Str × Addr)) (fp : List Addr), SG (X.blk s H scope (compEnvC scope cs C X.env) fp) tg t
  cnd : ∀ (s : Shared) (H : Hp) (C : Addr) (cs : List (Str × Addr)) (fp : List Addr), STs (X.blk s H scope (compEnvC scope cs C X.env) fp) px Wno ifs (evE cl cnd)
  elt : ∀ (s : Shared) (H : Hp) (C : Addr) (cs : List (Str × Addr)) (fp : List Addr), SE (X.blk s H scope (compEnvC scope cs C X.env) fp) px Wno elt' (evE cl elt)
  fold : ∀ x, foldedSetIterable iter X.env x = pure x
theorem comp_ok (ok : Ok X px W cl c) {it : It} {t : T} {vs : List Nat} {cnd elt : E} {e : Expr} (h : ckE c (.comp it t vs cnd elt) e = true) :
    ∃ elt' tg iter ifs scope pos, e = .ListComp elt' [⟨tg, iter, ifs, 0⟩] scope pos ∧ CompOk X px W c cl it t vs cnd elt elt' tg iter ifs scope := by
  unfold ckE at h; try dsimp only at h
  split at h
  · rename_i elt' tg iter ifs scope pos
    rw [Bool.and_eq_true, Bool.and_eq_true, Bool.and_eq_true, Bool.and_eq_true, Bool.and_eq_true, Bool.and_eq_true] at h
    obtain ⟨⟨⟨⟨⟨h1, h2⟩, h3⟩, h4⟩, h5⟩, h6, h7⟩ := h
    refine ⟨elt', tg, iter, ifs, scope, pos, rfl, sndI it ok h1, by rw [ok.N, ok.sc]; exact blkOk_by h3, fun i hi => ?_, fun s H C cs fp => ok.blk.tg h5, fun s H C cs fp => ?_, fun s H C cs fp => (sndE elt ok.blk h7).se, noSet_fold h2 X.env⟩
    · rw [List.all_eq_true] at h4
      have := h4 i hi
      simpa using this
    · split at h6
      · cases cnd <;> try (cases h6; done)
        rename_i d
        cases d <;> try (cases h6; done)
        rename_i b
        have hb : b = true := h6
        subst hb
        exact sts_nil
      · rw [Bool.and_eq_true] at h6
        exact sts_one ((sndE cnd ok.blk h6.2).st h6.1)
      · cases h6
  · cases h
structure HCompOk (X : Cx) (px : Px) (W : WX) (c : Ck) (cl : Nat → List D → Hs → R D) (t : T) (vs : List Nat) (cnd elt : E) (elt' tg iter : Expr) (ifs : List Expr) (scope : Scope) : Prop where
  blk : BlkOk X.N X.env.scope scope (ownOf c vs)
  tv : ∀ i ∈ t.is, i ∈ vs
  tg : ∀ (s : Shared) (H : Hp) (C : Addr) (cs : List (Str × Addr)) (fp : List Addr), SG (X.blk s H scope (compEnvC scope cs C X.env) fp) tg t
  cnd : ∀ (s : Shared) (H : Hp) (C : Addr) (cs : List (Str × Addr)) (fp : List Addr), STs (X.blk s H scope (compEnvC scope cs C X.env) fp) px Wno ifs (evE cl cnd)
  elt : ∀ (s : Shared) (H : Hp) (C : Addr) (cs : List (Str × Addr)) (fp : List Addr), SE (X.blk s H scope (compEnvC scope cs C X.env) fp) px Wno elt' (evE cl elt)
  fold : ∀ x, foldedSetIterable iter X.env x = pure x
theorem hcomp_ok (ok : Ok X px W cl c) {a : E} {t : T} {vs : List Nat} {cnd elt : E} {e : Expr} (h : ckE c (.hcomp a t vs cnd elt) e = true) :
    ∃ elt' tg iter ifs scope pos, e = .ListComp elt' [⟨tg, iter, ifs, 0⟩] scope pos ∧ HCompOk X px W c cl t vs cnd elt elt' tg iter ifs scope ∧ SE X px W iter (evE cl a) := by
  unfold ckE at h; try dsimp only at h
  split at h
  · rename_i elt' tg iter ifs scope pos
    rw [Bool.and_eq_true, Bool.and_eq_true, Bool.and_eq_true, Bool.and_eq_true, Bool.and_eq_true, Bool.and_eq_true] at h
    obtain ⟨⟨⟨⟨⟨h1, h2⟩, h3⟩, h4⟩, h5⟩, h6, h7⟩ := h
    refine ⟨elt', tg, iter, ifs, scope, pos, rfl, ⟨by rw [ok.N, ok.sc]; exact blkOk_by h3, fun i hi => ?_, fun s H C cs fp => ok.blk.tg h5, fun s H C cs fp => ?_, fun s H C cs fp => (sndE elt ok.blk h7).se, noSet_fold h2 X.env⟩, (sndE a ok h1).se⟩
    · rw [List.all_eq_true] at h4
      have := h4 i hi
      simpa using this
    · split at h6
      · cases cnd <;> try (cases h6; done)
        rename_i d
        cases d <;> try (cases h6; done)
        rename_i b
        have hb : b = true := h6
        subst hb
        exact sts_nil
      · rw [Bool.and_eq_true] at h6
        exact sts_one ((sndE cnd ok.blk h6.2).st h6.1)
      · cases h6
  · cases h
/-- lists made anew -/
def frF : E → Bool
  | .lst _ => true
  | .comp .. => true
  | _ => false
def frB : E → Bool
  | .lst _ => true
  | .comp .. => true
  | .bin .add _ _ => true
  | .bin .mul _ _ => true
  | _ => false
theorem sndF (ok : Ok X px W cl c) {t : E} {e : Expr} (h : ckE c t e = true) (hf : frF t = true) : SEF X px W e (evE cl t) := by
  cases t <;> try (cases hf; done)
  · rename_i es
    unfold ckE at h; try dsimp only at h
    split at h
    · rw [Bool.and_eq_true, Bool.and_eq_true, decide_eq_true_eq] at h
      obtain ⟨⟨h1, h2⟩, h3⟩ := h
      exact se_lstF (sndEs es ok h3 h1) h2 (evEs_len es h3)
    · cases h
  · rename_i it t vs cnd elt
    obtain ⟨elt', tg, iter, ifs, scope, pos, rfl, q⟩ := comp_ok ok h
    have r := se_compF (W := W) (pos := pos) ok.calm ok.nd q.it q.blk (fun i hi => by rw [own_map]; exact q.tv i hi) q.tg q.cnd q.elt q.fold
    rw [own_map] at r
    exact r
theorem sndL (ok : Ok X px W cl c) {t : E} {e : Expr} (h : ckE c t e = true) (hf : frB t = true) : SEL X px W e (evE cl t) := by
  by_cases hF : frF t = true
  · exact (sndF ok h hF).sel
  · cases t <;> first | (cases hf; done) | (exact absurd rfl hF) | skip
    rename_i o a b
    unfold ckE at h; try dsimp only at h
    split at h
    · rw [Bool.and_eq_true, Bool.and_eq_true] at h
      obtain ⟨h1, h2, h3⟩ := h
      rw [bopB_of h1]
      have qa := (sndE a ok h2).se
      have qb := (sndE b ok h3).se
      cases o <;> first | (cases hf; done) | skip
      · exact sel_bin (o := .add) (r := op_addL) qa qb
      · exact sel_bin (o := .mul) (r := op_mulL) qa qb
    · cases h
/-! ### stores that no swap is made of -/
theorem sw_cell {e : Expr} {t : Option Expr} (hx : X.env.scope.names.lookup x = some .cell) {l : Nat} : swapsWith e (some (.Name x p)) l X.env = pure false := by
  have k : X.env.kindOf x = some .cell := hx
  unfold swapsWith
  cases e <;> first | rfl | (simp only [k]; simp [show (NameKind.cell == NameKind.local) = false from rfl])
def kindFn (c : Ck) : Bool := match c.sc.kind with
  | .function => true
  | _ => false
/-- x = [..] of a name that no block reads, on one line -/
def lcSwap (c : Ck) (x : Str) (e : Expr) (l l2 : Nat) : Bool := match e with
  | .ListComp _ _ scope pos => lcB c x && kindFn c && (l == pos.line) && !(scope.names.any fun (n, k) => n == x && (k == .local || k == .cell))
  | _ => false
theorem ss_setW (ok : Ok X px W cl c) {f : Ev → Hs → R Fl} {t : E} (hn : NmOk X x i) (h : ckE c t a = true) (hc : (noComp a || ceB c x || lcSwap c x a pos'.line pos.line) = true)
    (hr : ∀ En σ H, rdS X.K px W f En σ H → tAsg (rdE X.K px W (evE cl t)) (gName i) En σ H) : SS X px W (.Assign [.Name x pos'] a pos) f := by
  rw [Bool.or_eq_true, Bool.or_eq_true] at hc
  rcases hc with (hc | hc) | hc
  · exact PS.of (ps_set ok.nd hn.1 hn.2.1 (sndE t ok h).se (noComp_sw hc _ _ _) hn.2.2) fun En σ H q => hr En σ H q
  · exact PS.of (ps_set ok.nd hn.1 hn.2.1 (sndE t ok h).se (sw_cell (t := none) (ok.ce hc)) hn.2.2) fun En σ H q => hr En σ H q
  · unfold lcSwap at hc
    split at hc
    · rename_i elt0 gs scope0 pos0
      rw [Bool.and_eq_true, Bool.and_eq_true, Bool.and_eq_true, Bool.not_eq_true'] at hc
      obtain ⟨⟨⟨k1, k2⟩, k3⟩, k4⟩ := hc
      have hk : X.env.scope.kind = .function := by
        unfold kindFn at k2
        rw [ok.sc]
        split at k2
        · assumption
        · cases k2
      cases t <;> try (unfold ckE at h; cases h; done)
      · rename_i it t vs cnd elt
        obtain ⟨elt', tg, iter, ifs, scope, pos2, e1, q⟩ := comp_ok ok h
        cases e1
        refine PS.of (ps_setLc (g := rdG X.K t) (tt := rdTs X.K px Wno (evE cl cnd)) (te := rdE X.K px Wno (evE cl elt)) ok.calm ok.nd hn.1 (ok.lc k1) (sw_true hk (ok.lc k1) k3 k4) q.it q.blk q.tg q.cnd q.elt q.fold) fun En σ H z => ?_
        have r := SEF.rd (hr En σ H z)
        rw [own_map]
        exact comp_rd q.tv r
      · rename_i it t vs cnd elt
        have h : ckE c (.comp it t vs cnd elt) (elt0.ListComp gs scope0 pos0) = true := by unfold ckE at h ⊢; exact h
        obtain ⟨elt', tg, iter, ifs, scope, pos2, e1, q⟩ := comp_ok ok h
        cases e1
        refine PS.of (ps_setLc (g := rdG X.K t) (tt := rdTs X.K px Wno (evE cl cnd)) (te := rdE X.K px Wno (evE cl elt)) ok.calm ok.nd hn.1 (ok.lc k1) (sw_true hk (ok.lc k1) k3 k4) q.it q.blk q.tg q.cnd q.elt q.fold) fun En σ H z => ?_
        have r : rdF X.K px W (fComp (evI cl false it) t vs (evE cl cnd) (evE cl elt)) σ H _ := SEF.rdl (mk_rd (hr En σ H z))
        rw [own_map]
        exact comp_rd q.tv r
      · rename_i a t vs cnd elt
        obtain ⟨elt', tg, iter, ifs, scope, pos2, e1, q, qa⟩ := hcomp_ok ok h
        cases e1
        refine PS.of (ps_setLc (g := rdG X.K t) (tt := rdTs X.K px Wno (evE cl cnd)) (te := rdE X.K px Wno (evE cl elt)) ok.calm ok.nd hn.1 (ok.lc k1) (sw_true hk (ok.lc k1) k3 k4) (pi_list qa) q.blk q.tg q.cnd q.elt q.fold) fun En σ H z => ?_
        have r := SEF.rd (hr En σ H z)
        rw [own_map]
        exact hcomp_rd q.tv r
    · cases hc
theorem lc_parts {t : E} {e : Expr} (ok : Ok X px W cl c) (h : ckE c t e = true) (hf : frB t = true) {l l2 : Nat} (hc : lcSwap c x e l l2 = true) : ∃ it t' vs cnd elt elt' tg iter ifs scope pos, t = .comp it t' vs cnd elt ∧ e = .ListComp elt' [⟨tg, iter, ifs, 0⟩] scope pos ∧ CompOk X px W c cl it t' vs cnd elt elt' tg iter ifs scope ∧
      X.env.scope.names.lookup x = some .local ∧ X.env.scope.kind = .function ∧ (l == pos.line) = true ∧ (scope.names.any fun (n, k) => n == x && (k == .local || k == .cell)) = false := by
  unfold lcSwap at hc
  split at hc
  · rename_i elt0 gs scope0 pos0
    rw [Bool.and_eq_true, Bool.and_eq_true, Bool.and_eq_true, Bool.not_eq_true'] at hc
    obtain ⟨⟨⟨k1, k2⟩, k3⟩, k4⟩ := hc
    cases t <;> try (first | (cases hf; done) | (unfold ckE at h; cases h; done))
    · rename_i it t vs cnd elt
      obtain ⟨elt', tg, iter, ifs, scope, pos2, e1, q⟩ := comp_ok ok h
      cases e1
      have hk : X.env.scope.kind = .function := by
        unfold kindFn at k2
        rw [ok.sc]
        split at k2
        · assumption
        · cases k2
      exact ⟨it, t, vs, cnd, elt, elt0, tg, iter, ifs, scope0, pos0, rfl, rfl, q, ok.lc k1, hk, k3, k4⟩
  · cases hc
theorem ss_ownW (ok : Ok X px W cl c) {t : E} (hn : NmOk X x i) (h : ckE c t a = true) (hf : frB t = true) (hc : (noComp a || ceB c x || lcSwap c x a pos'.line pos.line) = true) : SS X px W (.Assign [.Name x pos'] a pos) (fOwn i (evE cl t)) := by
  rw [Bool.or_eq_true, Bool.or_eq_true] at hc
  rcases hc with (hc | hc) | hc
  · exact ss_ownL ok.nd hn (sndL ok h hf) (noComp_sw hc _ _ _)
  · exact ss_ownL ok.nd hn (sndL ok h hf) (sw_cell (t := none) (ok.ce hc))
  · obtain ⟨it, t', vs, cnd, elt, elt', tg, iter, ifs, scope, pos2, rfl, rfl, q, k1, hk, k3, k4⟩ := lc_parts ok h hf hc
    refine PS.of (ps_setLc (g := rdG X.K t') (tt := rdTs X.K px Wno (evE cl cnd)) (te := rdE X.K px Wno (evE cl elt)) ok.calm ok.nd hn.1 k1 (sw_true hk k1 k3 k4) q.it q.blk q.tg q.cnd q.elt q.fold) fun En σ H z => ?_
    have r := own_rd z
    rw [own_map]
    exact comp_rd q.tv r
/-! ### a, b = x, y -/
def parB (c : Ck) (x y : Str) (p q : Pos) (a b : Expr) : Bool := lcB c x && lcB c y && kindFn c && (q.line == p.line) && decide (x ≠ y) && nst a && nst b && !(foldedForSure 8 a && foldedForSure 8 b) && !(constantsAlone 8 a && constantsAlone 8 b)
theorem par_sw {c : Ck} (hs : X.env.scope = c.sc) {p q pt pt2 : Pos} {kt k2 : Nat} {a b : Expr} (h : parB c x y p q a b = true) : swappedStores [.Tuple [.Name x p, .Name y q] kt pt] (.Tuple [a, b] k2 pt2) X.env = pure (some [x, y]) := by
  unfold parB at h
  simp only [Bool.and_eq_true, Bool.not_eq_true', decide_eq_true_eq] at h
  obtain ⟨⟨⟨⟨⟨⟨⟨⟨h1, h2⟩, h3⟩, h4⟩, h5⟩, h6⟩, h7⟩, h8⟩, h9⟩ := h
  have kx : X.env.kindOf x = some .local := by
    show X.env.scope.names.lookup x = _
    rw [hs]; unfold lcB at h1
    split at h1
    · assumption
    · cases h1
  have ky : X.env.kindOf y = some .local := by
    show X.env.scope.names.lookup y = _
    rw [hs]; unfold lcB at h2
    split at h2
    · assumption
    · cases h2
  have hb : X.env.blockKind = .function := by
    unfold Env.blockKind
    rw [hs]
    unfold kindFn at h3
    split at h3
    · rename_i z; rw [z]; rfl
    · cases h3
  have st : ∀ e, nst e = true → (match e with | .Starred .. => true | _ => false) = false := by
    intro e h
    cases e <;> first | rfl | cases h
  have hfo : (foldedForSure 8 a && (foldedForSure 8 b && true)) = false := by rw [Bool.and_true]; exact h8
  have hco : (constantsAlone 8 a && (constantsAlone 8 b && true)) = false := by rw [Bool.and_true]; exact h9
  have hq : (q.line == p.line) = true := h4
  have xy : (y == x) = false := by simpa using fun e => h5 e.symm
  unfold swappedStores
  simp only [hb, List.any_cons, List.any_nil, st a h6, st b h7, List.all_cons, List.all_nil, hfo, hco, List.filterMap_cons, List.filterMap_nil, kx, ky, List.head?_cons, Option.map_some, Option.getD_some, Expr.pos, hq, beq_self_eq_true, Bool.and_self, if_true, List.length_cons, List.length_nil, Bool.or_false, Bool.false_eq_true, if_false, List.eraseDups_cons, List.filter_cons, List.filter_nil, xy]
  refine (if_neg (by decide)).trans ?_
  refine (if_neg ?_).trans ?_
  · intro z
    rw [Bool.or_eq_true] at z
    rcases z with z | z
    · exact Bool.noConfusion (z.symm.trans (st a h6))
    · exact Bool.noConfusion (z.symm.trans (st b h7))
  · refine if_neg ?_
    rw [if_pos (by rfl)]
    have e1 : [y].eraseDups = [y] := by rw [List.eraseDups_cons]; rfl
    rw [e1]
    intro z
    cases z
/-- the first a new list, i's own -/
def fParT (i j : Nat) (fa fb : Ev → Hs → R D) : Ev → Hs → R Fl := fun e h => (fa e h).bind fun x h => (fb e h).bind fun y h => (match x with
    | .lst xs => if xs.all D.keep && y.keep then .ok (.nx ((e.put i (.o xs)).put j (.v y))) h else .bad
    | _ => .bad)
/-- the second -/
def fParU (i j : Nat) (fa fb : Ev → Hs → R D) : Ev → Hs → R Fl := fun e h => (fa e h).bind fun x h => (fb e h).bind fun y h => (match y with
    | .lst ys => if x.keep && ys.all D.keep then .ok (.nx ((e.put i (.v x)).put j (.o ys))) h else .bad
    | _ => .bad)
theorem ss_parT {kt k2 : Nat} {px' py' pt pt2 : Pos} (hcal : X.calm = true) (hN : X.N.Nodup) (hn : NmOk X x i) (hm : NmOk X y j) (hij : i ≠ j) (hx : X.env.scope.names.lookup x = some .local) (hy : X.env.scope.names.lookup y = some .local) (ha : SEF X px W a fa) (hb : SE X px W b fb) (sa : nst a = true) (sb : nst b = true)
    (hw : swappedStores [.Tuple [.Name x px', .Name y py'] kt pt] (.Tuple [a, b] k2 pt2) X.env = pure (some [x, y])) : SS X px W (.Assign [.Tuple [.Name x px', .Name y py'] kt pt] (.Tuple [a, b] k2 pt2) pos) (fParT i j fa fb) := by
  refine PS.of (ps_par hcal hN hn.1 hm.1 hij hx hy (pa_cons ha (pa_cons hb pa_nil (star_ok sb)) (star_ok sa)) hw) fun En σ H ⟨w, e, h, p⟩ => ?_
  refine ⟨w, e, h, p.rr, ?_⟩
  have q := p.po
  unfold fParT at q
  cases e1 : fa e h with
  | bad => rw [e1] at q; exact q
  | exc z h' => rw [e1] at q; exact fun cls dd w' H' x1 x2 x3 x4 => q cls dd w' σ H' x1.s x2 x3 x4
  | ok d h1 =>
    rw [e1, R.bind_ok] at q
    rintro v w1 H1 x1 x2 x3 ⟨l, xs, ds, rfl, rfl, h0, y1, y2, y3⟩
    refine ⟨w1, e, h1, p.rr.ext x1 x2 x3, ?_⟩
    cases e2 : fb e h1 with
    | bad => rw [e2] at q; exact q
    | exc z h' => rw [e2] at q; exact fun cls dd w' H' z1 z2 z3 z4 => q cls dd w' σ H' (x1.trans z1).s z2 z3 z4
    | ok d2 h2 =>
      rw [e2, R.bind_ok] at q
      intro u w2 H2 z1 z2 z3 z4
      dsimp only at q
      split at q
      · rename_i hk
        rw [Bool.and_eq_true] at hk
        have nh : l ∉ w1.hp := fun z => (x2.sep l z).2 y1
        have r := p.rr.own (x1.trans z1) z2 z3 i h0 (z1.pr l y1) (z1.keep l _ y2 nh fun ps z => by cases z) (y3.ext z1) hk.1
        have e3 : (w2.own i l).hp = w2.hp := rfl
        exact ⟨.ref l, u, rfl, q _ _ _ (ext_own (x1.trans z1) p.rr.hr.prd h0 (z1.pr l y1)) ⟨r.hr, r.er.put j (.of (VR.weak e3 (fun b => Wd.own_forb (z1.pr l y1)) (VT.keep z4 hk.2))), r.tb⟩⟩
      · exact q.elim
theorem ss_parU {kt k2 : Nat} {px' py' pt pt2 : Pos} (hcal : X.calm = true) (hN : X.N.Nodup) (hn : NmOk X x i) (hm : NmOk X y j) (hij : i ≠ j) (hx : X.env.scope.names.lookup x = some .local) (hy : X.env.scope.names.lookup y = some .local) (ha : SE X px W a fa) (hb : SEF X px W b fb) (sa : nst a = true) (sb : nst b = true)
    (hw : swappedStores [.Tuple [.Name x px', .Name y py'] kt pt] (.Tuple [a, b] k2 pt2) X.env = pure (some [x, y])) : SS X px W (.Assign [.Tuple [.Name x px', .Name y py'] kt pt] (.Tuple [a, b] k2 pt2) pos) (fParU i j fa fb) := by
  refine PS.of (ps_par hcal hN hn.1 hm.1 hij hx hy (pa_cons ha (pa_cons hb pa_nil (star_ok sb)) (star_ok sa)) hw) fun En σ H ⟨w, e, h, p⟩ => ?_
  refine ⟨w, e, h, p.bind.imp fun v H1 ⟨d, h1, w1, _, x1, v1, p1⟩ => ⟨w1, e, h1, p1.rr, ?_⟩⟩
  have q := p1.po
  cases e2 : fb e h1 with
  | bad => rw [e2] at q; exact q
  | exc z h' => rw [e2] at q; exact fun cls dd w' H' z1 z2 z3 z4 => q cls dd w' σ H' z1.s z2 z3 z4
  | ok d2 h2 =>
    rw [e2, R.bind_ok] at q
    rintro u w2 H2 z1 z2 z3 ⟨l, xs, ds, rfl, rfl, h0, y1, y2, y3⟩
    dsimp only at q
    split at q
    · rename_i hk
      rw [Bool.and_eq_true] at hk
      have r0 : RR X.K px w1 (e.put i (.v d)) h1 (σ.set i (some v)) H1 := ⟨p1.rr.hr, p1.rr.er.put i (.of (VT.keep v1 hk.1)), p1.rr.tb⟩
      have r := r0.own z1 z2 z3 j h0 y1 y2 y3 hk.2
      exact ⟨v, .ref l, rfl, q _ _ _ (ext_own z1 p1.rr.hr.prd h0 y1) r⟩
    · exact q.elim
/-! ### both new lists, from a tuple that is made -/
theorem Ext.own {K : PySem.W.Frag} {w1 w2 : Wd} {H1 H2 : Hp} {i : Nat} {a : Addr} (x : Ext w1 H1 w2 H2) : Ext (w1.own i a) H1 (w2.own i a) H2 where
  pre := x.pre
  ow := by
    show w2.ow.set i (some a) = w1.ow.set i (some a)
    rw [x.ow]
  pr := fun b z => ⟨x.pr b z.1, z.2⟩
  prf := fun b z => by
    rcases x.prf b z.1 with q | q
    · exact .inl ⟨q, z.2⟩
    · exact .inr q
  keep := x.keep
  tups := x.tups
  dom := x.dom
def fOwn2 (i j : Nat) (fa fb : Ev → Hs → R D) : Ev → Hs → R Fl := fun e h => (fa e h).bind fun x h => (fb e h).bind fun y h => (match x, y with
    | .lst xs, .lst ys => if xs.all D.keep && ys.all D.keep then .ok (.nx ((e.put i (.o xs)).put j (.o ys))) h else .bad
    | _, _ => .bad)
theorem ss_own2 {kt k2 : Nat} {px' py' pt pt2 : Pos} (hcal : X.calm = true) (hN : X.N.Nodup) (hn : NmOk X x i) (hm : NmOk X y j) (hij : i ≠ j) (ha : SEF X px W a fa) (hb : SEL X px W b fb) (sa : nst a = true) (sb : nst b = true)
    (hws : swapsWithSole [.Tuple [.Name x px', .Name y py'] kt pt] (.Tuple [a, b] k2 pt2) pos.line X.env = pure false) (hw : swappedStores [.Tuple [.Name x px', .Name y py'] kt pt] (.Tuple [a, b] k2 pt2) X.env = pure none) : SS X px W (.Assign [.Tuple [.Name x px', .Name y py'] kt pt] (.Tuple [a, b] k2 pt2) pos) (fOwn2 i j fa fb) := by
  refine PS.of (ps_asg (pe_tup (pa_cons ha (pa_cons hb pa_nil (star_ok sb)) (star_ok sa))) (pg_tup (n := 2) hcal (pgs_cons (pg_name hN hn.1 hn.2.1 hn.2.2) (pgs_cons (pg_name hN hm.1 hm.2.1 hm.2.2) pgs_nil))) hws hw) fun En σ H ⟨w, e, h, p⟩ => ?_
  refine ⟨w, e, h, p.rr, ?_⟩
  have q := p.po
  unfold fOwn2 at q
  cases e1 : fa e h with
  | bad => rw [e1] at q; exact q
  | exc z h' => rw [e1] at q; exact fun cls dd w' H' x1 x2 x3 x4 => q cls dd w' σ H' x1.s x2 x3 x4
  | ok d h1 =>
    rw [e1, R.bind_ok] at q
    · rintro v w1 H1 x1 x2 x3 ⟨l, xs, as, rfl, rfl, h0, y1, y2, y3⟩
      refine ⟨w1, e, h1, p.rr.ext x1 x2 x3, ?_⟩
      cases e2 : fb e h1 with
      | bad => rw [e2] at q; exact q
      | exc z h' => rw [e2] at q; exact fun cls dd w' H' z1 z2 z3 z4 => q cls dd w' σ H' (x1.trans z1).s z2 z3 z4
      | ok d2 h2 =>
        rw [e2, R.bind_ok] at q
        rw [R.bind_ok]
        by_cases hd2 : ∃ xs, d2 = .lst xs
        · obtain ⟨bs, rfl⟩ := hd2
          rintro u w2 H2 z1 z2 z3 ⟨l2, ys, ds2, ed2, rfl, g0, u1, u2, u3⟩
          cases ed2
          dsimp only at q
          split at q
          · rename_i hk
            rw [Bool.and_eq_true] at hk
            refine ⟨by rw [sizeLine_eq]; show (2 : Nat) ≤ 16777216; decide, fun q0 hq0 => ⟨q0, _, rfl, sqt upd_same, rfl, _, _, rfl, _, _, rfl, rfl, ?_⟩⟩
            have nh : l ∉ w1.hp := fun z => (x2.sep l z).2 y1
            have nh2 : l2 ∉ w2.hp := fun z => (z2.sep l2 z).2 u1
            have k1 : H2 l = some (.lst xs) := z1.keep l _ y2 nh fun ps z => by cases z
            have rr2 := (p.rr.ext (x1.trans z1) z2 z3).new (o := .tup [.ref l, .ref l2]) hq0
            have X3 : Ext w H w2 (upd H2 q0 (.tup [.ref l, .ref l2])) := (x1.trans z1).trans (Ext.new hq0 z2)
            have X4 : Ext w1 H1 w2 (upd H2 q0 (.tup [.ref l, .ref l2])) := z1.trans (Ext.new hq0 z2)
            have k3 : (upd H2 q0 (.tup [.ref l, .ref l2])) l = some (.lst xs) := by rw [upd_ne (ne_of_none k1 hq0)]; exact k1
            have k4 : (upd H2 q0 (.tup [.ref l, .ref l2])) l2 = some (.lst ys) := by rw [upd_ne (ne_of_none u2 hq0)]; exact u2
            have ne : l2 ≠ l := fun z => by rw [z] at g0; rw [y2] at g0; cases g0
            have ra := p.rr.own X3 rr2.hr rr2.tb i h0 (z1.pr l y1) k3 (y3.ext X4) hk.1
            have r1 := p.rr.own x1 x2 x3 i h0 y1 y2 y3 hk.1
            have e3 : (w2.own i l).hp = w2.hp := rfl
            have rb := r1.own (Ext.own (K := X.K) (i := i) (a := l) X4) ra.hr ra.tb j g0 ⟨u1, ne⟩ k4 (VRs.weak e3 (fun b => Wd.own_forb (z1.pr l y1)) (u3.ext (Ext.new hq0 z2))) hk.2
            exact q _ _ _ ((ext_own x1 p.rr.hr.prd h0 y1).trans (ext_own (Ext.own (K := X.K) (i := i) (a := l) X4) r1.hr.prd g0 ⟨u1, ne⟩)) rb
          · exact q.elim
        · cases d2 <;> first | exact absurd ⟨_, rfl⟩ hd2 | exact q.elim
/-- a list and a dict, both new -/
def fPard (i j : Nat) (t : Bool) (fa : Ev → Hs → R D) : Ev → Hs → R Fl := fun e h => (fa e h).bind fun x h => (match x with
    | .lst xs => if xs.all D.keep then .ok (.nx ((e.put i (.o xs)).put j (.k t []))) h else .bad
    | _ => .bad)
theorem pard_rd {K : PySem.W.Frag} {En : Ends} {σ : L2.St} {H : Hp} {o : HO} {t : Bool} (ho : ∀ w H, KvR K w H [] t o) (q : rdS K px W (fPard i j t fa) En σ H) : rdF K px W fa σ H fun v H1 => ∀ p, H1 p = none → En.nx ((σ.set i (some v)).set j (some (.ref p))) (upd H1 p o) := by
  obtain ⟨w, e, h, p⟩ := q
  refine ⟨w, e, h, p.rr, ?_⟩
  have q := p.po
  unfold fPard at q
  cases e1 : fa e h with
  | bad => rw [e1] at q; exact q
  | exc z h' => rw [e1] at q; exact fun cls dd w' H' x1 x2 x3 x4 => q cls dd w' σ H' x1.s x2 x3 x4
  | ok d h1 =>
    rw [e1, R.bind_ok] at q
    rintro v w1 H1 x1 x2 x3 ⟨l, xs, ds, rfl, rfl, h0, y1, y2, y3⟩
    dsimp only at q
    split at q
    · rename_i hk
      intro a ha
      have r1 := p.rr.own x1 x2 x3 i h0 y1 y2 y3 hk
      have r2 := r1.ownK (Ext.guard ha) (r1.hr.guard ha) (r1.new ha).tb j ha (.inr rfl) upd_same (ho _ _)
      exact q _ _ _ ((ext_own x1 p.rr.hr.prd h0 y1).trans (ext_own (Ext.guard ha) r1.hr.prd ha (.inr rfl))) r2
    · exact q.elim
theorem ss_pard {kt k2 : Nat} {px' py' pt pt2 pd : Pos} {t : Bool} (hcal : X.calm = true) (hN : X.N.Nodup) (hn : NmOk X x i) (hm : NmOk X y j) (hij : i ≠ j) (hx : X.env.scope.names.lookup x = some .local) (hy : X.env.scope.names.lookup y = some .local) (ha : SEF X px W a fa) (sa : nst a = true)
    (hw : swappedStores [.Tuple [.Name x px', .Name y py'] kt pt] (.Tuple [a, .Dict [] [] pd] k2 pt2) X.env = pure (some [x, y])) : SS X px W (.Assign [.Tuple [.Name x px', .Name y py'] kt pt] (.Tuple [a, .Dict [] [] pd] k2 pt2) pos) (fPard i j t fa) := by
  cases t with
  | false =>
    refine PS.of (ps_par hcal hN hn.1 hm.1 hij hx hy (pa_cons ha (pa_cons pe_dnewK pa_nil rfl) (star_ok sa)) hw) fun En σ H q => ?_
    obtain ⟨w, e, h, p⟩ := pard_rd (t := false) (o := .dK []) (fun _ _ => ⟨[], rfl, .nil⟩) q
    exact ⟨w, e, h, p.imp fun v H1 z a ha => ⟨_, _, rfl, z a ha⟩⟩
  | true =>
    refine PS.of (ps_par hcal hN hn.1 hm.1 hij hx hy (pa_cons ha (pa_cons pe_dnewT pa_nil rfl) (star_ok sa)) hw) fun En σ H q => ?_
    obtain ⟨w, e, h, p⟩ := pard_rd (t := true) (o := .dT []) (fun _ _ => ⟨[], rfl, .nil⟩) q
    exact ⟨w, e, h, p.imp fun v H1 z a ha => ⟨_, _, rfl, z a ha⟩⟩
/-! ### two new lists and a thing -/
def parB3 (c : Ck) (x y z : Str) (p q r : Pos) (a : Expr) : Bool := lcB c x && lcB c y && lcB c z && kindFn c && (q.line == p.line) && (r.line == p.line) && decide (x ≠ y) && decide (x ≠ z) && decide (y ≠ z) && nst a && !foldedForSure 8 a && !constantsAlone 8 a
theorem lc_of {c : Ck} {x : Str} (hs : X.env.scope = c.sc) (h : lcB c x = true) : X.env.kindOf x = some .local := by
  show X.env.scope.names.lookup x = _
  rw [hs]; unfold lcB at h
  split at h
  · assumption
  · cases h
theorem par3_sw {c : Ck} (hs : X.env.scope = c.sc) {x y z : Str} {p q r pt pt2 pa pb : Pos} {kt k2 : Nat} {a : Expr} (h : parB3 c x y z p q r a = true) : swappedStores [.Tuple [.Name x p, .Name y q, .Name z r] kt pt] (.Tuple [.List [] pa, .List [] pb, a] k2 pt2) X.env = pure (some [x, y, z]) := by
  unfold parB3 at h
  simp only [Bool.and_eq_true, Bool.not_eq_true', decide_eq_true_eq] at h
  obtain ⟨⟨⟨⟨⟨⟨⟨⟨⟨⟨⟨h1, h2⟩, h3⟩, h4⟩, h5⟩, h6⟩, h7⟩, h8⟩, h9⟩, h10⟩, h11⟩, h12⟩ := h
  have kx := lc_of hs h1
  have ky := lc_of hs h2
  have kz := lc_of hs h3
  have hb : X.env.blockKind = .function := by
    unfold Env.blockKind
    rw [hs]
    unfold kindFn at h4
    split at h4
    · rename_i z; rw [z]; rfl
    · cases h4
  have st : ∀ e, nst e = true → (match e with | .Starred .. => true | _ => false) = false := by
    intro e h
    cases e <;> first | rfl | cases h
  have xy : (y == x) = false := by simpa using fun e => h7 e.symm
  have xz : (z == x) = false := by simpa using fun e => h8 e.symm
  have yz : (z == y) = false := by simpa using fun e => h9 e.symm
  have hfo : (foldedForSure 8 (.List [] pa) && (foldedForSure 8 (.List [] pb) && (foldedForSure 8 a && true))) = false := by rw [h11]; simp
  have hco : (constantsAlone 8 (.List [] pa) && (constantsAlone 8 (.List [] pb) && (constantsAlone 8 a && true))) = false := by rw [h12]; simp
  unfold swappedStores
  simp only [hb, List.any_cons, List.any_nil, st a h10, List.all_cons, List.all_nil, hfo, hco, List.filterMap_cons, List.filterMap_nil, kx, ky, kz, List.head?_cons, Option.map_some, Option.getD_some, Expr.pos, h5, h6, beq_self_eq_true, Bool.and_self, if_true, List.length_cons, List.length_nil, Bool.or_false, Bool.false_eq_true, if_false, List.eraseDups_cons, List.filter_cons, List.filter_nil, xy, xz, yz]
  refine (if_neg (by decide)).trans ?_
  refine (if_neg ?_).trans ?_
  · intro z
    exact Bool.noConfusion (z.symm.trans (st a h10))
  · refine if_neg ?_
    rw [if_pos (by rfl), if_pos (by rfl)]
    have e1 : [y, z].eraseDups = [y, z] := by rw [List.eraseDups_cons]; simp only [List.filter_cons, List.filter_nil, yz]; rw [if_pos (by rfl), List.eraseDups_cons]; rfl
    rw [e1]
    intro z
    cases z
def parB3g (c : Ck) (x y z : Str) (p q r : Pos) (u v a : Expr) : Bool := lcB c x && lcB c y && lcB c z && kindFn c && (q.line == p.line) && (r.line == p.line) && decide (x ≠ y) && decide (x ≠ z) && decide (y ≠ z) && nst a && !foldedForSure 8 a && !constantsAlone 8 a && (nst u && nst v)
theorem par3g_sw {c : Ck} (hs : X.env.scope = c.sc) {x y z : Str} {p q r pt pt2 : Pos} {kt k2 : Nat} {u v a : Expr} (h : parB3g c x y z p q r u v a = true) : swappedStores [.Tuple [.Name x p, .Name y q, .Name z r] kt pt] (.Tuple [u, v, a] k2 pt2) X.env = pure (some [x, y, z]) := by
  unfold parB3g at h
  simp only [Bool.and_eq_true, Bool.not_eq_true', decide_eq_true_eq] at h
  obtain ⟨⟨⟨⟨⟨⟨⟨⟨⟨⟨⟨⟨h1, h2⟩, h3⟩, h4⟩, h5⟩, h6⟩, h7⟩, h8⟩, h9⟩, h10⟩, h11⟩, h12⟩, hu, hv⟩ := h
  have kx := lc_of hs h1
  have ky := lc_of hs h2
  have kz := lc_of hs h3
  have hb : X.env.blockKind = .function := by
    unfold Env.blockKind
    rw [hs]
    unfold kindFn at h4
    split at h4
    · rename_i z; rw [z]; rfl
    · cases h4
  have st : ∀ e, nst e = true → (match e with | .Starred .. => true | _ => false) = false := by
    intro e h
    cases e <;> first | rfl | cases h
  have xy : (y == x) = false := by simpa using fun e => h7 e.symm
  have xz : (z == x) = false := by simpa using fun e => h8 e.symm
  have yz : (z == y) = false := by simpa using fun e => h9 e.symm
  have hfo : (foldedForSure 8 u && (foldedForSure 8 v && (foldedForSure 8 a && true))) = false := by rw [h11]; simp
  have hco : (constantsAlone 8 u && (constantsAlone 8 v && (constantsAlone 8 a && true))) = false := by rw [h12]; simp
  unfold swappedStores
  simp only [hb, List.any_cons, List.any_nil, st a h10, st u hu, st v hv, List.all_cons, List.all_nil, hfo, hco, List.filterMap_cons, List.filterMap_nil, kx, ky, kz, List.head?_cons, Option.map_some, Option.getD_some, Expr.pos, h5, h6, beq_self_eq_true, Bool.and_self, if_true, List.length_cons, List.length_nil, Bool.or_false, Bool.false_eq_true, if_false, List.eraseDups_cons, List.filter_cons, List.filter_nil, xy, xz, yz]
  refine (if_neg (by decide)).trans ?_
  refine (if_neg ?_).trans ?_
  · intro z
    rw [Bool.or_eq_true, Bool.or_eq_true] at z
    rcases z with z | z | z
    · exact Bool.noConfusion (z.symm.trans (st u hu))
    · exact Bool.noConfusion (z.symm.trans (st v hv))
    · exact Bool.noConfusion (z.symm.trans (st a h10))
  · refine if_neg ?_
    rw [if_pos (by rfl), if_pos (by rfl)]
    have e1 : [y, z].eraseDups = [y, z] := by rw [List.eraseDups_cons]; simp only [List.filter_cons, List.filter_nil, yz]; rw [if_pos (by rfl), List.eraseDups_cons]; rfl
    rw [e1]
    intro z
    cases z
def fSet3 (i j l : Nat) (fa fb fc : Ev → Hs → R D) : Ev → Hs → R Fl := fun e h => (fa e h).bind fun x h => (fb e h).bind fun y h => (fc e h).bind fun z h => if x.keep && (y.keep && z.keep) then .ok (.nx (((e.put i (.v x)).put j (.v y)).put l (.v z))) h else .bad
theorem ss_set3 {z : Str} {a b c : Expr} {fa fb fc : Ev → Hs → R D} {i j m kt k2 : Nat} {px' py' pz' pt pt2 : Pos} (hcal : X.calm = true) (hN : X.N.Nodup) (hn : NmOk X x i) (hm : NmOk X y j) (hl : NmOk X z m) (hij : i ≠ j) (hil : i ≠ m) (hjl : j ≠ m) (hx : X.env.scope.names.lookup x = some .local) (hy : X.env.scope.names.lookup y = some .local) (hz : X.env.scope.names.lookup z = some .local)
    (ha : SE X px W a fa) (hb : SE X px W b fb) (hc : SE X px W c fc) (sa : nst a = true) (sb : nst b = true) (sc : nst c = true)
    (hw : swappedStores [.Tuple [.Name x px', .Name y py', .Name z pz'] kt pt] (.Tuple [a, b, c] k2 pt2) X.env = pure (some [x, y, z])) : SS X px W (.Assign [.Tuple [.Name x px', .Name y py', .Name z pz'] kt pt] (.Tuple [a, b, c] k2 pt2) pos) (fSet3 i j m fa fb fc) := by
  refine PS.of (ps_par3 hcal hN hn.1 hm.1 hl.1 hij hil hjl hx hy hz (pa_cons ha (pa_cons hb (pa_cons hc pa_nil (star_ok sc)) (star_ok sb)) (star_ok sa)) hw) fun En σ H ⟨w, e, h, p⟩ => ?_
  refine ⟨w, e, h, p.bind.imp fun v H1 ⟨d, h1, w1, _, x1, v1, p1⟩ => ⟨w1, e, h1, p1.bind.imp fun u H2 ⟨d2, h2, w2, _, x2, v2, p2⟩ => ⟨w2, e, h2, p2.bind.imp fun t H3 ⟨d3, h3, w3, _, x3, v3, p3⟩ => ?_⟩⟩⟩
  split at p3
  · rename_i hk
    rw [Bool.and_eq_true, Bool.and_eq_true] at hk
    exact ⟨v, u, t, rfl, p3.done (ExtS.refl _ _) ⟨p3.rr.hr, ((p3.rr.er.put i (.of (((VT.keep v1 hk.1).ext x2).ext x3))).put j (.of ((VT.keep v2 hk.2.1).ext x3))).put m (.of (VT.keep v3 hk.2.2)), p3.rr.tb⟩⟩
  · exact p3.po.elim
def fPar3 (i j l : Nat) (fa : Ev → Hs → R D) : Ev → Hs → R Fl := fun e h => (fa e h).bind fun x h => if x.keep then .ok (.nx (((e.put i (.o [])).put j (.o [])).put l (.v x))) h else .bad
theorem ss_par3 {z : Str} {a b c : Expr} {fa fb fc : Ev → Hs → R D} {i j m kt k2 : Nat} {px' py' pz' pt pt2 : Pos} (hcal : X.calm = true) (hN : X.N.Nodup) (hn : NmOk X x i) (hm : NmOk X y j) (hl : NmOk X z m) (hij : i ≠ j) (hil : i ≠ m) (hjl : j ≠ m) (hx : X.env.scope.names.lookup x = some .local) (hy : X.env.scope.names.lookup y = some .local) (hz : X.env.scope.names.lookup z = some .local)
    (ha : SEF X px W a fa) (hb : SEF X px W b fb) (hc : SE X px W c fc) (ea : ∀ e h, fa e h = .ok (.lst []) h) (eb : ∀ e h, fb e h = .ok (.lst []) h) (sa : nst a = true) (sb : nst b = true) (sc : nst c = true)
    (hw : swappedStores [.Tuple [.Name x px', .Name y py', .Name z pz'] kt pt] (.Tuple [a, b, c] k2 pt2) X.env = pure (some [x, y, z])) : SS X px W (.Assign [.Tuple [.Name x px', .Name y py', .Name z pz'] kt pt] (.Tuple [a, b, c] k2 pt2) pos) (fPar3 i j m fc) := by
  refine PS.of (ps_par3 hcal hN hn.1 hm.1 hl.1 hij hil hjl hx hy hz (pa_cons ha (pa_cons hb (pa_cons hc pa_nil (star_ok sc)) (star_ok sb)) (star_ok sa)) hw) fun En σ H ⟨w, e, h, p⟩ => ?_
  refine ⟨w, e, h, p.rr, ?_⟩
  have q := p.po
  unfold fPar3 at q
  rw [ea]
  rintro v w1 H1 x1 x2 x3 ⟨l, xs, as, e1, rfl, h0, y1, y2, y3⟩
  cases e1
  refine ⟨w1, e, h, p.rr.ext x1 x2 x3, ?_⟩
  rw [eb]
  rintro u w2 H2 z1 z2 z3 ⟨l2, ys, ds2, e2, rfl, g0, u1, u2, u3⟩
  cases e2
  refine ⟨w2, e, h, p.rr.ext (x1.trans z1) z2 z3, ?_⟩
  cases e3 : fc e h with
  | bad => rw [e3] at q; exact q
  | exc z h' => rw [e3] at q; exact fun cls dd w' H' c1 c2 c3 c4 => q cls dd w' σ H' ((x1.trans z1).trans c1).s c2 c3 c4
  | ok d3 h3 =>
    rw [e3, R.bind_ok] at q
    rintro t w3 H3 c1 c2 c3 c4
    split at q
    · rename_i hk
      have nh : l ∉ w1.hp := fun z => (x2.sep l z).2 y1
      have nh1 : l ∉ w2.hp := fun z => (z2.sep l z).2 (z1.pr l y1)
      have nh2 : l2 ∉ w2.hp := fun z => (z2.sep l2 z).2 u1
      have k1 : H3 l = some (.lst xs) := c1.keep l _ (z1.keep l _ y2 nh fun ps z => by cases z) nh1 fun ps z => by cases z
      have k2 : H3 l2 = some (.lst ys) := c1.keep l2 _ u2 nh2 fun ps z => by cases z
      have X4 : Ext w1 H1 w3 H3 := z1.trans c1
      have ne : l2 ≠ l := fun z => by rw [z] at g0; rw [y2] at g0; cases g0
      have pl : w3.pr l := c1.pr l (z1.pr l y1)
      have pl2 : w3.pr l2 := c1.pr l2 u1
      have ra := p.rr.own (x1.trans X4) c2 c3 i h0 pl k1 (y3.ext X4) rfl
      have r1 := p.rr.own x1 x2 x3 i h0 y1 y2 y3 rfl
      have e5 : (w3.own i l).hp = w3.hp := rfl
      have e6 : ((w3.own i l).own j l2).hp = (w3.own i l).hp := rfl
      have rb := r1.own (Ext.own (K := X.K) (i := i) (a := l) X4) ra.hr ra.tb j g0 ⟨pl2, ne⟩ k2 (VRs.weak e5 (fun b => Wd.own_forb pl) (u3.ext c1)) rfl
      exact ⟨.ref l, .ref l2, t, rfl, q _ _ _ ((ext_own x1 p.rr.hr.prd h0 y1).trans (ext_own (Ext.own (K := X.K) (i := i) (a := l) X4) r1.hr.prd g0 ⟨pl2, ne⟩)) ⟨rb.hr, rb.er.put m (.of (VR.weak e6 (fun b => Wd.own_forb ⟨pl2, ne⟩) (VR.weak e5 (fun b => Wd.own_forb pl) (VT.keep c4 hk)))), rb.tb⟩⟩
    · exact q.elim
end
end Tv
end

section
set_option autoImplicit false
set_option maxHeartbeats 1000000
/-! Statements held against the code. -/
namespace Tv
open PySem PySem.Spec PyProof.Rows L2
section
variable {X : Cx} {px : Px} {W : WX} {cl : Nat → List D → Hs → R D} {c : Ck} {a b : Expr} {fa fb fc : Ev → Hs → R D} {pos pos' p : Pos} {i j : Nat} {x y : Str}
def noTup : Expr → Bool
  | .Tuple .. => false
  | _ => true
theorem swp_noTup {es : List Expr} {k : Nat} {q : Pos} {v : Expr} {env : Env} (h : noTup v = true) : swappedStores [.Tuple es k q] v env = pure none := by
  cases v <;> first | rfl | cases h
theorem swp_sub {o k v : Expr} {q : Pos} {env : Env} : swappedStores [.Subscript o k q] v env = pure none := by
  cases v <;> rfl
theorem swp_four {es : List Expr} {k : Nat} {v : Expr} {q : Pos} {env : Env} (h : 4 ≤ es.length) : swappedStores [.Tuple es k q] v env = pure none := by
  cases v <;> first | rfl | skip
  unfold swappedStores
  have h2 : (es.length == 2) = false := by rw [beq_eq_false_iff_ne]; omega
  have h3 : (es.length == 3) = false := by rw [beq_eq_false_iff_ne]; omega
  simp only [h2, h3, Bool.or_self, Bool.not_false, Bool.true_or, if_true]
theorem swp_sub2 {a b c d v : Expr} {k : Nat} {p p' q : Pos} {env : Env} : swappedStores [.Tuple [.Subscript a b p, .Subscript c d p'] k q] v env = pure none := by
  cases v <;> first | rfl | skip
  rename_i vs k2 q2
  unfold swappedStores
  simp only [List.filterMap_cons, List.filterMap_nil, List.length_cons, List.length_nil]
  split
  · rfl
  · split
    · rfl
    · rfl
theorem sws_attr {a v : Expr} {f : Str} {p : Pos} {l : Nat} {env : Env} : swapsWith v (some (.Attribute a f p)) l env = pure false := by
  unfold swapsWith
  cases v <;> rfl
theorem sws_sub {o k v : Expr} {q : Pos} {l : Nat} {env : Env} : swapsWithSole [.Subscript o k q] v l env = pure false := by
  cases v <;> rfl
theorem sws_tup {es : List Expr} {k : Nat} {v : Expr} {q : Pos} {l : Nat} {env : Env} : swapsWithSole [.Tuple es k q] v l env = pure false := by
  cases v <;> rfl
theorem fm_lt {α β : Type} {f : α → Option β} : ∀ {l : List α}, (∃ a ∈ l, f a = none) → (l.filterMap f).length < l.length
  | [], ⟨_, h, _⟩ => by cases h
  | a :: l, ⟨b, hb, hf⟩ => by
    rw [List.filterMap_cons]
    cases e : f a with
    | none =>
      have := List.length_filterMap_le f l
      simp only [List.length_cons]
      omega
    | some z =>
      rcases List.mem_cons.mp hb with q | q
      · rw [q, e] at hf; cases hf
      · have := fm_lt ⟨b, q, hf⟩
        simp only [List.length_cons]
        omega
/-- a name of the target is a cell -/
def hasCell (c : Ck) (es : List Expr) : Bool := es.any fun e => match e with
  | .Name x _ => ceB c x
  | _ => false
theorem swp_cell (hs : X.env.scope = c.sc) {es : List Expr} {k : Nat} {v : Expr} {q : Pos} (h : hasCell c es = true) : swappedStores [.Tuple es k q] v X.env = pure none := by
  by_cases hv : noTup v = true
  · exact swp_noTup hv
  · cases v <;> first | (exact absurd rfl hv) | skip
    rename_i vs k2 q2
    have key : (es.filterMap fun
      | .Name id pos => if X.env.kindOf id == some .local && pos.line == ((es.head?.map (·.pos.line)).getD 0) then some id else none
      | _ => none).length < es.length := by
      refine fm_lt ?_
      unfold hasCell at h
      rw [List.any_eq_true] at h
      obtain ⟨e, he, hc⟩ := h
      refine ⟨e, he, ?_⟩
      split at hc
      · rename_i x p
        have kx : X.env.kindOf x = some .cell := by
          show X.env.scope.names.lookup x = _
          rw [hs]; unfold ceB at hc
          split at hc
          · assumption
          · cases hc
        rw [kx]
        exact if_neg (fun z => by cases z)
      · cases hc
    unfold swappedStores
    dsimp only
    split
    · rfl
    · split
      · rfl
      · refine if_pos ?_
        rw [Bool.or_eq_true]
        refine .inl ?_
        simp only [bne_iff_ne]
        exact Nat.ne_of_lt key
theorem ss_unp {es : List Expr} {is : List Nat} {k : Nat} {q : Pos} (hN : X.N.Nodup) (hc : X.calm = true) (ha : SE X px W a fa) (hn : NmsOk X es is) (hw : swappedStores [.Tuple es k q] a X.env = pure none) : SS X px W (.Assign [.Tuple es k q] a pos) (fun e h => (fa e h).bind fun x h => match putT (.t is) x e with
    | some e' => .ok (.nx e') h
    | none => .bad) := by
  refine PS.of (ps_asg ha (sg_tup hc hN hn) sws_tup hw) fun En σ H ⟨w, e, h, p⟩ => ⟨w, e, h, p.bind.imp fun x H1 ⟨d, h1, w1, _, x1, v1, p1⟩ => ?_⟩
  cases e1 : putT (.t is) d e with
  | none => rw [e1] at p1; exact p1.po.elim
  | some e' =>
    rw [e1] at p1
    have hk : d.keep = true := by
      obtain ⟨ds, rfl, _⟩ := putT_t e1
      rfl
    exact ⟨w1, e, d, e', VT.keep v1 hk, p1.rr.er, e1, fun σ' l hl hm he => p1.done (ExtS.refl _ _) ⟨p1.rr.hr, he, p1.rr.tb⟩⟩
end
def setB (c : Ck) (x : Str) (e : Expr) (l l2 : Nat) : Bool := noComp e || ceB c x || lcSwap c x e l l2
mutual
def ckS (c : Ck) : S → Stmt → Bool
  | .set i a, s => (match s with
    | .Assign [.Name x p] e q => nmB c x i && setB c x e p.line q.line && ckE c a e
    | _ => false)
  | .own i a, s => (match s with
    | .Assign [.Name x p] e q => nmB c x i && setB c x e p.line q.line && frB a && ckE c a e
    | _ => false)
  | .unp is a, s => (match s with
    | .Assign [.Tuple es _ _] e _ => nmsB c es is && (noTup e || hasCell c es || decide (4 ≤ es.length)) && ckE c a e
    | _ => false)
  | .par i oi j oj a b, s => (match s with
    | .Assign [.Tuple [.Name x p, .Name y q] _ _] (.Tuple [e, f] _ _) _ => nmB c x i && nmB c y j && decide (i ≠ j) && (ckE c a e && ckE c b f) && (!oi || frF a) && (if oi && oj then hasCell c [.Name x p, .Name y q] && frB b && nst e && nst f else parB c x y p q e f && (!oj || frF b))
    | _ => false)
  | .pard i j tk a, s => (match s with
    | .Assign [.Tuple [.Name x p, .Name y q] _ _] (.Tuple [e, .Dict [] [] pd] _ _) _ => nmB c x i && nmB c y j && decide (i ≠ j) && parB c x y p q e (.Dict [] [] pd) && ckE c a e && frF a
    | _ => false)
  | .set3 i j l a b d, s => (match s with
    | .Assign [.Tuple [.Name x p, .Name y q, .Name z r] _ _] (.Tuple [u, v, e] _ _) _ => nmB c x i && nmB c y j && nmB c z l && decide (i ≠ j) && decide (i ≠ l) && decide (j ≠ l) && parB3g c x y z p q r u v e && (ckE c a u && (ckE c b v && ckE c d e))
    | _ => false)
  | .par3 i j l a, s => (match s with
    | .Assign [.Tuple [.Name x p, .Name y q, .Name z r] _ _] (.Tuple [.List [] _, .List [] _, e] _ _) _ => nmB c x i && nmB c y j && nmB c z l && decide (i ≠ j) && decide (i ≠ l) && decide (j ≠ l) && parB3 c x y z p q r e && ckE c a e
    | _ => false)
  | .retP a, s => (match s with
    | .Return (some e) _ => ckE c a e
    | _ => false)
  | .popu i is, s => (match s with
    | .Assign [.Tuple es _ _] (.Call (.Attribute (.Name x _) m apos) [a0] [] cpos) _ => decide (m = "pop") && rdB c x i && nmsB c es is && ckE c (.c (.int 0)) a0 && nst a0 && (apos.endLine == cpos.line)
    | _ => false)
  | .sd2 a b i d, s => (match s with
    | .Assign [.Tuple [.Subscript a' b' _, .Name x _] _ _] d' _ => nmB c x i && nsl b' && noTup d' && (ckE c a a' && (ckE c b b' && ckE c d d'))
    | _ => false)
  | .sr a b d, s => (match s with
    | .Assign [.Subscript a' b' _] d' _ => nsl b' && (ckE c a a' && (ckE c b b' && ckE c d d'))
    | _ => false)
  | .si i b d, s => (match s with
    | .Assign [.Subscript (.Name x _) b' _] d' _ => rdB c x i && nsl b' && (ckE c b b' && ckE c d d')
    | _ => false)
  | .ownd i _, s => (match s with
    | .Assign [.Name x _] (.Dict [] [] _) _ => nmB c x i
    | _ => false)
  | .sk i b d, s => (match s with
    | .Assign [.Subscript (.Name x _) b' _] d' _ => rdB c x i && nsl b' && (ckE c b b' && ckE c d d')
    | _ => false)
  | .app i a, s => (match s with
    | .Expr (.Call (.Attribute (.Name x _) m apos) [a'] [] cpos) _ => decide (m = "append") && rdB c x i && nst a' && (apos.endLine == cpos.line) && ckE c a a'
    | _ => false)
  | .ext i a, s => (match s with
    | .Expr (.Call (.Attribute (.Name x _) m apos) [a'] [] cpos) _ => decide (m = "extend") && rdB c x i && nst a' && (apos.endLine == cpos.line) && ckE c a a'
    | _ => false)
  | .pop i, s => (match s with
    | .Expr (.Call (.Attribute (.Name x _) m apos) [] [] cpos) _ => decide (m = "pop") && rdB c x i && (apos.endLine == cpos.line)
    | _ => false)
  | .ex a, s => (match s with
    | .Expr e _ => noComp e && ckE c a e
    | _ => false)
  | .ite t a b, s => (match s with
    | .If t' a' b' _ => tstB t && ckE c t t' && (ckB c a a' && ckB c b b')
    | _ => false)
  | .for it t b, s => (match s with
    | .For tg iter body [] _ => ckI c it tg iter && noSet iter && ckT c t tg && ckB c b body
    | _ => false)
  | .whl t b, s => (match s with
    | .While t' body [] _ => tstB t && ckE c t t' && ckB c b body
    | _ => false)
  | .ret a, s => (match s with
    | .Return (some e) _ => ckE c a e
    | _ => false)
  | .retN, s => (match s with
    | .Return none _ => true
    | _ => false)
  | .rai k a, s => (match s, a with
    | .Raise (some (.Call (.Name x _) [.Constant (.str m) _ _] [] _)) none _, .c (.str n) => decide (m = n) && decide (c.excs.lookup x = some k) && decide (k ≠ 16) && glB c x && plainN x
    | _, _ => false)
  | .raiB a, s => (match s with
    | .Raise (some (.Call (.Name x _) [a'] [] _)) none _ => decide (x = "Broken") && c.brk && glB c x && nst a' && ckE c a a'
    | _ => false)
  | .ownf i f es, s => (match s with
    | .Assign [.Name x p] (.Call (.Name g _) (a :: as) [] q0) q => nmB c x i && ((mtab.lookup g).isNone && decide (c.defs.lookup g = some (f, as.length + 1)) && glB c g && plainN g && (a :: as).all nst && ckEs c es (a :: as))
    | _ => false)
  | .mv i j, s => (match s with
    | .Assign [.Name x _] (.Name y _) _ => nmB c x i && rdB c y j && decide (i ≠ j)
    | _ => false)
  | .sdp a k b, s => (match s with
    | .Assign [.Subscript a' k' _] b' _ => nsl k' && (ckE c a a' && (ckE c k k' && ckE c b b'))
    | _ => false)
  | .un2 a b d k e, s => (match s with
    | .Assign [.Tuple [.Subscript a' b' _, .Subscript d' k' _] _ _] e' _ => nsl b' && (nsl k' && (ckE c a a' && (ckE c b b' && (ckE c d d' && (ckE c k k' && ckE c e e')))))
    | _ => false)
  | .sfl ci a f b, s => (match s with
    | .Assign [.Attribute a' f' _] b' _ => decide (f' = f) && (c.ins.contains ci && ((clF ci).contains f && (ckE c a a' && ckE c b b')))
    | _ => false)
  | .apr a b, s => (match s with
    | .Expr (.Call (.Attribute a' m apos) [b'] [] cpos) _ => decide (m = "append") && (rcv a' && (nst b' && ((apos.endLine == cpos.line) && (ckE c a a' && ckE c b b'))))
    | _ => false)
  | .rmr a b, s => (match s with
    | .Expr (.Call (.Attribute a' m apos) [b'] [] cpos) _ => decide (m = "remove") && (rcv a' && (nst b' && ((apos.endLine == cpos.line) && (ckE c a a' && ckE c b b'))))
    | _ => false)
  | .unf ci a f b g d, s => (match s with
    | .Assign [.Tuple [.Attribute a' f' _, .Attribute b' g' _] _ _] d' _ => decide (f' = f) && (decide (g' = g) && (c.ins.contains ci && ((clF ci).contains f && ((clF ci).contains g && (noTup d' && (ckE c a a' && (ckE c b b' && ckE c d d')))))))
    | _ => false)
  | .nv, _ => true
  | _, _ => false
def ckB (c : Ck) : Ss → List Stmt → Bool
  | .nil, ss => ss.isEmpty
  | .cons s r, ss => (match s with
    | .frz _ => ckB c r ss
    | s => (match ss with
      | s' :: r' => ckS c s s' && ckB c r r'
      | [] => false))
end
section
variable {X : Cx} {px : Px} {W : WX} {cl : Nat → List D → Hs → R D} {c : Ck}
theorem ss_setF (ok : Ok X px W cl c) {x : Str} {i : Nat} {a : Expr} {t : E} {pos pos' : Pos} (hn : NmOk X x i) (h : ckE c t a = true) (hc : setB c x a pos'.line pos.line = true) : SS X px W (.Assign [.Name x pos'] a pos) (exS cl (.set i t)) :=
  ss_setW ok hn h hc fun En σ H ⟨w, e, h, p⟩ => ⟨w, e, h, p.bind.imp fun x H1 ⟨d, h1, w1, _, x1, v1, p1⟩ => by
    split at p1
    · rename_i hk
      exact p1.done (ExtS.refl _ _) ⟨p1.rr.hr, p1.rr.er.put i (.of (VT.keep v1 hk)), p1.rr.tb⟩
    · exact p1.po.elim⟩
end
theorem sb_skip {X : Cx} {px : Px} {W : WX} {f g : Ev → Hs → R Fl} {ss : List Stmt} (h : SB X px W ss f) (e : ∀ e h, f e h = g e h) : SB X px W ss g := by
  have : f = g := by funext a b; exact e a b
  rw [← this]; exact h
theorem exS_whl {cl : Nat → List D → Hs → R D} {t : E} {b : Ss} : exS cl (.whl t b) = whlL (fun e h => (evE cl t e h).bind fun x h => R.of x.tru h) (exB cl b) turns := by
  funext e h
  rw [exS]
mutual
theorem sndS {px : Px} {cl : Nat → List D → Hs → R D} {W : WX} {X : Cx} {c : Ck} (ok : Ok X px W cl c) (hp : PassesOwn (model X.prog X.w) X.A X.env X.xe) : ∀ (t : S) {s : Stmt}, ckS c t s = true → SS X px W s (exS cl t)
  | .set i a, s, h => by
    unfold ckS at h; try dsimp only at h
    split at h
    · rw [Bool.and_eq_true, Bool.and_eq_true] at h
      exact ss_setF ok (ok.nm h.1.1) h.2 h.1.2
    · cases h
  | .own i a, s, h => by
    unfold ckS at h; try dsimp only at h
    split at h
    · rw [Bool.and_eq_true, Bool.and_eq_true, Bool.and_eq_true] at h
      exact ss_ownW ok (ok.nm h.1.1.1) h.2 h.1.2 h.1.1.2
    · cases h
  | .ownd i b, s, h => by
    unfold ckS at h; try dsimp only at h
    split at h
    · exact ss_ownd ok.nd (ok.nm h) (noComp_sw rfl _ _ _)
    · cases h
  | .unp is a, s, h => by
    unfold ckS at h; try dsimp only at h
    split at h
    · rw [Bool.and_eq_true, Bool.and_eq_true, Bool.or_eq_true, Bool.or_eq_true, decide_eq_true_eq] at h
      obtain ⟨⟨h1, h2⟩, h3⟩ := h
      refine ss_unp ok.nd ok.calm (sndE a ok h3).se (ok.nms h1) ?_
      rcases h2 with (h2 | h2) | h2
      · exact swp_noTup h2
      · exact swp_cell ok.sc h2
      · exact swp_four h2
    · cases h
  | .par i oi j oj a b, s, h => by
    unfold ckS at h; try dsimp only at h
    split at h
    · rename_i x p y q kt pt e f k2 pt2 pos
      rw [Bool.and_eq_true, Bool.and_eq_true, Bool.and_eq_true, Bool.and_eq_true, Bool.and_eq_true, Bool.and_eq_true, decide_eq_true_eq] at h
      obtain ⟨⟨⟨⟨⟨h1, h2⟩, h3⟩, h5, h6⟩, h7⟩, h8⟩ := h
      have oth : ∀ (z : parB c x y p q e f = true) (y2 : (!oj || frF b) = true), (oi && oj) = false → SS X px W (.Assign [.Tuple [.Name x p, .Name y q] kt pt] (.Tuple [e, f] k2 pt2) pos) (exS cl (.par i oi j oj a b)) := fun h4 g8 h9 => by
        have hw := par_sw ok.sc (kt := kt) (k2 := k2) (pt := pt) (pt2 := pt2) h4
        unfold parB at h4
        simp only [Bool.and_eq_true, Bool.not_eq_true', decide_eq_true_eq] at h4
        obtain ⟨⟨⟨⟨⟨⟨⟨⟨k1, k2⟩, k3⟩, k4⟩, k5⟩, k6⟩, k7⟩, k8⟩, k9⟩ := h4
        cases oi <;> cases oj
        · exact ss_par ok.calm ok.nd (ok.nm h1) (ok.nm h2) h3 (ok.lc k1) (ok.lc k2) (sndE a ok h5).se (sndE b ok h6).se k6 k7 hw
        · exact ss_parU ok.calm ok.nd (ok.nm h1) (ok.nm h2) h3 (ok.lc k1) (ok.lc k2) (sndE a ok h5).se (sndF ok h6 (by simpa using g8)) k6 k7 hw
        · exact ss_parT ok.calm ok.nd (ok.nm h1) (ok.nm h2) h3 (ok.lc k1) (ok.lc k2) (sndF ok h5 (by simpa using h7)) (sndE b ok h6).se k6 k7 hw
        · cases h9
      cases z : (oi && oj) with
      | false =>
        rw [z, if_neg (by simp), Bool.and_eq_true] at h8
        exact oth h8.1 h8.2 z
      | true =>
        rw [Bool.and_eq_true] at z
        obtain ⟨rfl, rfl⟩ := z
        rw [Bool.and_self, if_pos rfl, Bool.and_eq_true, Bool.and_eq_true, Bool.and_eq_true] at h8
        obtain ⟨⟨⟨c1, c2⟩, c3⟩, c4⟩ := h8
        exact ss_own2 ok.calm ok.nd (ok.nm h1) (ok.nm h2) h3 (sndF ok h5 (by simpa using h7)) (sndL ok h6 c2) c3 c4 sws_tup (swp_cell ok.sc c1)
    · cases h
  | .pard i j tk a, s, h => by
    unfold ckS at h; try dsimp only at h
    split at h
    · simp only [Bool.and_eq_true, decide_eq_true_eq] at h
      obtain ⟨⟨⟨⟨⟨h1, h2⟩, h3⟩, h4⟩, h5⟩, h6⟩ := h
      have hw := par_sw ok.sc (kt := by assumption) (k2 := by assumption) (pt := by assumption) (pt2 := by assumption) h4
      unfold parB at h4
      simp only [Bool.and_eq_true, Bool.not_eq_true', decide_eq_true_eq] at h4
      obtain ⟨⟨⟨⟨⟨⟨⟨⟨k1, k2⟩, k3⟩, k4⟩, k5⟩, k6⟩, k7⟩, k8⟩, k9⟩ := h4
      exact ss_pard ok.calm ok.nd (ok.nm h1) (ok.nm h2) h3 (ok.lc k1) (ok.lc k2) (sndF ok h5 h6) k6 hw
    · cases h
  | .set3 i j l a b d, s, h => by
    unfold ckS at h; try dsimp only at h
    split at h
    · simp only [Bool.and_eq_true, decide_eq_true_eq] at h
      obtain ⟨⟨⟨⟨⟨⟨⟨h1, h2⟩, h3⟩, h4⟩, h5⟩, h6⟩, h7⟩, h8, h9, h10⟩ := h
      have hw := par3g_sw ok.sc (kt := by assumption) (k2 := by assumption) (pt := by assumption) (pt2 := by assumption) h7
      unfold parB3g at h7
      simp only [Bool.and_eq_true, Bool.not_eq_true', decide_eq_true_eq] at h7
      obtain ⟨⟨⟨⟨⟨⟨⟨⟨⟨⟨⟨⟨k1, k2⟩, k3⟩, k4⟩, k5⟩, k6⟩, k7⟩, k8⟩, k9⟩, k10⟩, k11⟩, k12⟩, k13, k14⟩ := h7
      exact ss_set3 ok.calm ok.nd (ok.nm h1) (ok.nm h2) (ok.nm h3) h4 h5 h6 (ok.lc k1) (ok.lc k2) (ok.lc k3) (sndE a ok h8).se (sndE b ok h9).se (sndE d ok h10).se k13 k14 k10 hw
    · cases h
  | .par3 i j l a, s, h => by
    unfold ckS at h; try dsimp only at h
    split at h
    · simp only [Bool.and_eq_true, decide_eq_true_eq] at h
      obtain ⟨⟨⟨⟨⟨⟨⟨h1, h2⟩, h3⟩, h4⟩, h5⟩, h6⟩, h7⟩, h8⟩ := h
      have hw := par3_sw ok.sc (kt := by assumption) (k2 := by assumption) (pt := by assumption) (pt2 := by assumption) (pa := by assumption) (pb := by assumption) h7
      unfold parB3 at h7
      simp only [Bool.and_eq_true, Bool.not_eq_true', decide_eq_true_eq] at h7
      obtain ⟨⟨⟨⟨⟨⟨⟨⟨⟨⟨⟨k1, k2⟩, k3⟩, k4⟩, k5⟩, k6⟩, k7⟩, k8⟩, k9⟩, k10⟩, k11⟩, k12⟩ := h7
      exact ss_par3 ok.calm ok.nd (ok.nm h1) (ok.nm h2) (ok.nm h3) h4 h5 h6 (ok.lc k1) (ok.lc k2) (ok.lc k3) (sndF (t := .lst .nil) ok (by unfold ckE; unfold ckEs; rfl) rfl) (sndF (t := .lst .nil) ok (by unfold ckE; unfold ckEs; rfl) rfl) (sndE a ok h8).se (fun _ _ => rfl) (fun _ _ => rfl) rfl rfl k10 hw
    · cases h
  | .retP a, s, h => by
    unfold ckS at h; try dsimp only at h
    split at h
    · exact ss_retP (sndE a ok h).se
    · cases h
  | .sd2 a b i d, s, h => by
    unfold ckS at h; try dsimp only at h
    split at h
    · simp only [Bool.and_eq_true] at h
      obtain ⟨⟨⟨h1, h2⟩, h3⟩, h4, h5, h6⟩ := h
      exact ss_sd2 ok.calm ok.nd (ok.nm h1) (sndE a ok h4).se (sndE b ok h5).se (sndE d ok h6).se h2 sws_tup (swp_noTup h3)
    · cases h
  | .sr a b d, s, h => by
    unfold ckS at h; try dsimp only at h
    split at h
    · simp only [Bool.and_eq_true] at h
      obtain ⟨h2, h4, h5, h6⟩ := h
      exact ss_sr (sndE a ok h4).se (sndE b ok h5).se (sndE d ok h6).se sws_sub swp_sub rfl (asg_sub h2)
    · cases h
  | .si i b d, s, h => by
    unfold ckS at h; try dsimp only at h
    split at h
    · simp only [Bool.and_eq_true] at h
      obtain ⟨⟨h1, h2⟩, h5, h6⟩ := h
      exact ss_si (ok.rd h1) (sndE b ok h5).se (sndE d ok h6).se sws_sub swp_sub rfl (asg_sub h2)
    · cases h
  | .sk i b d, s, h => by
    unfold ckS at h; try dsimp only at h
    split at h
    · simp only [Bool.and_eq_true] at h
      obtain ⟨⟨h1, h2⟩, h5, h6⟩ := h
      exact ss_sk (by have := ok.cz.un; omega) (ok.rd h1) (sndE b ok h5).se (sndE d ok h6).se sws_sub swp_sub rfl (asg_sub h2)
    · cases h
  | .app i a, s, h => by
    unfold ckS at h; try dsimp only at h
    split at h
    · simp only [Bool.and_eq_true, decide_eq_true_eq] at h
      obtain ⟨⟨⟨⟨rfl, h2⟩, h3⟩, h4⟩, h5⟩ := h
      exact ss_app (ok.rd h2) (sndE a ok h5).se h4 h3
    · cases h
  | .ext i a, s, h => by
    unfold ckS at h; try dsimp only at h
    split at h
    · simp only [Bool.and_eq_true, decide_eq_true_eq] at h
      obtain ⟨⟨⟨⟨rfl, h2⟩, h3⟩, h4⟩, h5⟩ := h
      exact ss_ext (ok.rd h2) (sndE a ok h5).se h4 h3
    · cases h
  | .pop i, s, h => by
    unfold ckS at h; try dsimp only at h
    split at h
    · simp only [Bool.and_eq_true, decide_eq_true_eq] at h
      obtain ⟨⟨rfl, h2⟩, h4⟩ := h
      exact ss_pop (ok.rd h2) h4
    · cases h
  | .popu i is, s, h => by
    unfold ckS at h; try dsimp only at h
    split at h
    · simp only [Bool.and_eq_true, decide_eq_true_eq] at h
      obtain ⟨⟨⟨⟨⟨rfl, h2⟩, h3⟩, h4⟩, h5⟩, h6⟩ := h
      exact ss_popu ok.nd ok.calm (ok.rd h2) (ok.nms h3) (sndE (.c (.int 0)) ok h4).se h6 h5 sws_tup (swp_noTup rfl)
    · cases h
  | .ex a, s, h => by
    unfold ckS at h; try dsimp only at h
    split at h
    · rw [Bool.and_eq_true] at h
      exact ss_ex (sndE a ok h.2).se (noComp_sw h.1 _ _ _)
    · cases h
  | .ite t a b, s, h => by
    unfold ckS at h; try dsimp only at h
    split at h
    · simp only [Bool.and_eq_true] at h
      obtain ⟨⟨h1, h2⟩, h3, h4⟩ := h
      exact ss_if ((sndE t ok h2).st h1) (sndB ok hp a h3) (sndB ok hp b h4)
    · cases h
  | .for it t b, s, h => by
    unfold ckS at h; try dsimp only at h
    split at h
    · simp only [Bool.and_eq_true] at h
      obtain ⟨⟨⟨h1, h2⟩, h3⟩, h4⟩ := h
      exact ss_for hp ok.calm (sndI it ok h1) (ok.tg h3) (sndB ok hp b h4) (noSet_fold h2 X.env)
    · cases h
  | .whl t b, s, h => by
    unfold ckS at h; try dsimp only at h
    split at h
    · simp only [Bool.and_eq_true] at h
      obtain ⟨⟨h1, h2⟩, h3⟩ := h
      rw [exS_whl]
      exact ss_while turns hp ((sndE t ok h2).st h1) (sndB ok hp b h3)
    · cases h
  | .ret a, s, h => by
    unfold ckS at h; try dsimp only at h
    split at h
    · exact ss_ret (sndE a ok h).se
    · cases h
  | .retN, s, h => by
    unfold ckS at h; try dsimp only at h
    split at h
    · exact ss_retN
    · cases h
  | .rai k a, s, h => by
    unfold ckS at h; try dsimp only at h
    split at h
    · simp only [Bool.and_eq_true, decide_eq_true_eq] at h
      obtain ⟨⟨⟨⟨rfl, h1⟩, h2⟩, h3⟩, h4⟩ := h
      obtain ⟨C, bmB, B, n1, n2, F, q1, q2, q3, q4, q5⟩ := ok.exc _ _ h1
      exact ss_raise ok.calm ok.tk F q1 q2 q3 q4 (ok.gl h3) (plain_of h4).1 q5 h2
    · cases h
  | .raiB a, s, h => by
    unfold ckS at h; try dsimp only at h
    split at h
    · simp only [Bool.and_eq_true, decide_eq_true_eq] at h
      obtain ⟨⟨⟨⟨rfl, h1⟩, h2⟩, h3⟩, h4⟩ := h
      obtain ⟨C, fI, fd, B, iC, tI, F1, hr, hb, hm, hC⟩ := ok.brk h1
      exact ss_raiB ok.calm ok.tk B iC tI F1 hr hb (ok.gl h2) hm (by decide) hC (sndE a ok h4).se h3
    · cases h
  | .ownf i f es, s, h => by
    unfold ckS at h; try dsimp only at h
    split at h
    · simp only [Bool.and_eq_true, decide_eq_true_eq] at h
      obtain ⟨h0, ⟨⟨⟨⟨hz, h1⟩, h2⟩, h3⟩, h4⟩, h5⟩ := h
      obtain ⟨k, fa, fd, ps, G, hr, rx, hb, hl⟩ := ok.defs _ _ _ h1
      obtain ⟨hm, hk⟩ := rx.fn hz
      exact ss_ownL ok.nd (ok.nm h0) (sel_clf G (hr.mono (by omega)) ok.cz.gd ok.tk (ok.gl h2) hm hk hb.full (sndEs es ok h5 h4) h4 (fun e h ds h' q => by rw [hl]; exact evEs_len es h5 e h ds h' q) (plain_of h3).1) (noComp_sw rfl _ _ _)
    · cases h
  | .frz i, s, h => by
    unfold ckS at h; cases h
  | .mv i j, s, h => by
    unfold ckS at h; try dsimp only at h
    split at h
    · simp only [Bool.and_eq_true, decide_eq_true_eq] at h
      obtain ⟨⟨h1, h2⟩, h3⟩ := h
      exact ss_mv ok.nd (ok.nm h1) (ok.rd h2) h3 (noComp_sw rfl _ _ _)
    · cases h
  | .sdp a k b, s, h => by
    unfold ckS at h; try dsimp only at h
    split at h
    · simp only [Bool.and_eq_true] at h
      obtain ⟨h2, h4, h5, h6⟩ := h
      exact ss_sdp ok.cz (sndE a ok h4).se (sndE k ok h5).se (sndE b ok h6).se sws_sub swp_sub rfl (asg_sub h2)
    · cases h
  | .un2 a b d k e, s, h => by
    unfold ckS at h; try dsimp only at h
    split at h
    · simp only [Bool.and_eq_true] at h
      obtain ⟨h1, h2, h3, h4, h5, h6, h7⟩ := h
      exact ss_un2 ok.calm ok.cz (sndE a ok h3).se (sndE b ok h4).se (sndE d ok h5).se (sndE k ok h6).se (sndE e ok h7).se sws_tup swp_sub2 (asg_sub h1) (asg_sub h2)
    · cases h
  | .sfl ci a f b, s, h => by
    unfold ckS at h; try dsimp only at h
    split at h
    · simp only [Bool.and_eq_true, decide_eq_true_eq] at h
      obtain ⟨rfl, h1, h2, h4, h5⟩ := h
      exact ss_sfl (ok.ins ci h1) h2 (sndE a ok h4).se (sndE b ok h5).se sws_attr
    · cases h
  | .apr a b, s, h => by
    unfold ckS at h; try dsimp only at h
    split at h
    · simp only [Bool.and_eq_true, decide_eq_true_eq] at h
      obtain ⟨rfl, h1, h2, h3, h4, h5⟩ := h
      exact ss_apr h1 (sndE a ok h4).se (sndE b ok h5).se h3 h2
    · cases h
  | .rmr a b, s, h => by
    unfold ckS at h; try dsimp only at h
    split at h
    · simp only [Bool.and_eq_true, decide_eq_true_eq] at h
      obtain ⟨rfl, h1, h2, h3, h4, h5⟩ := h
      exact ss_rmr ok.cz h1 (sndE a ok h4).se (sndE b ok h5).se h3 h2
    · cases h
  | .unf ci a f b g d, s, h => by
    unfold ckS at h; try dsimp only at h
    split at h
    · simp only [Bool.and_eq_true, decide_eq_true_eq] at h
      obtain ⟨rfl, rfl, h1, h2, h3, h4, h5, h6, h7⟩ := h
      exact ss_unf ok.calm (ok.ins ci h1) h2 h3 (sndE a ok h5).se (sndE b ok h6).se (sndE d ok h7).se sws_tup (swp_noTup h4)
    · cases h
  | .nv, s, h => ⟨fun _ _ _ _ _ _ ⟨_, _, _, p⟩ => p.po.elim⟩
theorem sndB {px : Px} {cl : Nat → List D → Hs → R D} {W : WX} {X : Cx} {c : Ck} (ok : Ok X px W cl c) (hp : PassesOwn (model X.prog X.w) X.A X.env X.xe) : ∀ (t : Ss) {ss : List Stmt}, ckB c t ss = true → SB X px W ss (exB cl t)
  | .nil, ss, h => by
    unfold ckB at h; try dsimp only at h
    have : ss = [] := List.isEmpty_iff.mp h
    subst this
    exact sb_nil
  | .cons s r, ss, h => by
    by_cases hf : ∃ i, s = .frz i
    · obtain ⟨i, rfl⟩ := hf
      unfold ckB at h; try dsimp only at h
      exact sb_frz i (sndB ok hp r h)
    · have key : ∃ s' r', ss = s' :: r' ∧ ckS c s s' = true ∧ ckB c r r' = true := by
        unfold ckB at h; try dsimp only at h
        split at h
        · exact absurd ⟨_, rfl⟩ hf
        · split at h
          · rw [Bool.and_eq_true] at h
            exact ⟨_, _, rfl, h.1, h.2⟩
          · cases h
      obtain ⟨s', r', rfl, h1, h2⟩ := key
      exact sb_cons (sndS ok hp s h1) (sndB ok hp r h2)
end
end Tv
end

section
set_option autoImplicit false
set_option maxHeartbeats 1000000
/-! The whole program: each def keeps its promise. -/
namespace Tv
open PySem PySem.Spec PyProof.Rows L2
/-- one def: its row, its names, its tree -/
structure Ent where
  d : He.DefD
  N : List Str
  ps : List Str
  num : Nat
  fn : Fn
  sd : Bool
  brk : Bool
def scopeB (N P : List Str) (sc : Scope) : Bool := (match sc.kind with
  | .function => true
  | _ => false) && !sc.isCoroutine && !sc.isGenerator && decide N.Nodup && decide (N.take P.length = P) && (P.all fun x => match sc.names.lookup x with
    | some .local => true
    | some .cell => true
    | _ => false) && sc.names.all fun y => match y.2 with
    | .free => false
    | _ => true
theorem scope_of {N P : List Str} {sc : Scope} (h : scopeB N P sc = true) : FnScope N P sc := by
  unfold scopeB at h
  simp only [Bool.and_eq_true, Bool.not_eq_true', decide_eq_true_eq, List.all_eq_true] at h
  obtain ⟨⟨⟨⟨⟨⟨h1, h2⟩, h3⟩, h4⟩, h5⟩, h6⟩, h7⟩ := h
  refine ⟨?_, h2, h3, h4, h5, fun x hx => ?_, fun y hy e => ?_⟩
  · split at h1
    · assumption
    · cases h1
  · have q := h6 x hx
    split at q
    · exact .inl (by assumption)
    · exact .inr (by assumption)
    · cases q
  · have q := h7 y hy
    rw [e] at q
    cases q
def entB (defs : List (Str × Nat × Nat)) (glob : List (Str × GV)) (excs : List (Str × Nat)) (dfl : Str → Option Int) (ins : List Nat) (e : Ent) : Bool := scopeB e.N e.ps e.d.scope && decide (e.N.length = e.fn.nn) && decide (e.ps.length = e.fn.np) && ckB ⟨e.N, e.d.scope, fun _ => true, defs, glob, excs, e.sd, dfl, e.brk, ins⟩ e.fn.body e.d.body
/-- a lambda's name in the def x -/
def lamName (x : Str) : Str := (x ++ ".<locals>.") ++ "<lambda>"
/-- the entry of a name -/
def entOf (es : List Ent) (x : Str) : Option Ent := es.find? fun e => e.d.qual == x
/-- the error with its year, as the world has it -/
def BrkG (K : PySem.W.Frag) (mg : Str → Option Value) (px : Px) : Prop := ∃ (C fI : Addr) (fd : FuncData), BrkC K mg C ∧ PySem.W.findIn K (.ref C) "__init__" = some (some (.ref fI)) ∧ PySem.W.typeIn K (.ref fI) = some (.type "function") ∧ (∀ P wo base, FnOk P wo K mg base CX0 1 fI fd [bSelf, bAt] (spBr C)) ∧ Binds K fd [bSelf, bAt] [] ∧ mg "Broken" = some (.ref C) ∧ px.ex 16 = C
/-- what the world gives -/
structure GlW (Pg : Nat → Option Fn) (wo : World) (K : PySem.W.Frag) (mg : Str → Option Value) (base : Heap) (px : Px) (es : List Ent) (defs : List (Str × Nat × Nat)) (glob : List (Str × GV)) (excs : List (Str × Nat)) (dfl : Str → Option Int) (ins : List Nat) : Prop where
  ents : ∀ x i n, defs.lookup x = some (i, n) → ∃ e f fd, entOf es x = some e ∧ Pg i = some e.fn ∧ entB defs glob excs dfl ins e = true ∧ n = e.ps.length ∧ (∃ dvs, FunD K e.d.name e.d.qual e.d.params e.d.body e.d.scope dvs [] f fd) ∧ RefX K mg x f ∧ BindX K fd e.ps (dfl x) ∧ (e.sd = true → (∀ P wo, SaidG P wo K mg base px) ∧ ∃ c T, LamX.TabB base mg c T ∧ fd.code = .ref c ∧ (T, lamName e.d.qual) ∈ px.T ∧ ∀ p ∈ px.T, p.1 = T → p.2 = lamName e.d.qual) ∧ (e.brk = true → BrkG K mg px)
  glob : ∀ x i, glob.lookup x = some i → GlR wo K mg x i
  ins : ∀ ci, ins.contains ci = true → InsG K mg ci
  blt : ∀ x, bltNames.contains x = true → mg x = none
  xv : (defs.lookup ("_law_word" : Str)).isSome = true → XvG K mg
  exc : ∀ x i, excs.lookup x = some i → ∃ (C : Addr) (bmB : List Value) (B newId initId : String), ExcBaseFacts B newId initId bmB ∧ PySem.W.excIn K C bmB newId = true ∧ mg x = some (.ref C) ∧ PySem.W.keepIn K (.ref C) = true ∧ (∀ X : Cx, X.K = K → Raises X (.ref C)) ∧ px.ex i = C
  sm : ∃ o, base.get? sysModules = some o ∧ o.cls ≠ .type "list"
theorem CallG.imp {P : Program} {wo : World} {K : PySem.W.Frag} {mg : Str → Option Value} {base : Heap} {px : Px} {k : Nat} {f : Addr} {fd : FuncData} {ps : List Str} {F G : List D → Hs → R D} (h : CallG P wo K mg base px k f fd ps G) (e : ∀ ds h, F ds h = .bad ∨ F ds h = G ds h) : CallG P wo K mg base px k f fd ps F := by
  intro A outer s H ar us vs Q E hr gd e0 hb r hl sp
  refine h A outer s H ar us vs Q E hr gd e0 hb r hl ?_
  obtain ⟨w, hs, ds, h1, h2, h3, h4, h5⟩ := sp
  refine ⟨w, hs, ds, h1, h2, h3, h4, ?_⟩
  rcases e ds hs with q | q
  · rw [q] at h5; exact h5.elim
  · rw [← q]; exact h5
theorem callG_all {Pg : Nat → Option Fn} {P : Program} {wo : World} {K : PySem.W.Frag} {mg : Str → Option Value} {base : Heap} {px : Px} {es : List Ent} {defs : List (Str × Nat × Nat)} {glob : List (Str × GV)} {excs : List (Str × Nat)} {dfl : Str → Option Int} {ins : List Nat} (G : GlW Pg wo K mg base px es defs glob excs dfl ins) :
    ∀ (k : Nat) (x : Str) (i n : Nat), defs.lookup x = some (i, n) → ∃ f fd ps, CallG P wo K mg base px k f fd ps (runF Pg k i) ∧ RefX K mg x f ∧ BindX K fd ps (dfl x) ∧ ps.length = n ∧ ∃ e, entOf es x = some e ∧ ps = e.ps ∧ ∃ dvs, FunD K e.d.name e.d.qual e.d.params e.d.body e.d.scope dvs [] f fd
  | 0, x, i, n, hx => by
    obtain ⟨e, f, fd, h1, hp, h2, h3, ⟨dvs, F⟩, h4, h5, h6, h7⟩ := G.ents x i n hx
    refine ⟨f, fd, e.ps, ?_, h4, h5, h3.symm, e, h1, rfl, dvs, F⟩
    intro A outer s H ar us vs Q E hr gd e0 hb r hl sp
    obtain ⟨w, hs, ds, _, _, _, _, q⟩ := sp
    exact q.elim
  | k + 1, x, i, n, hx => by
    obtain ⟨e, f, fd, h1, hp, h2, h3, ⟨dvs, F⟩, h4, h5, h6, h7⟩ := G.ents x i n hx
    refine ⟨f, fd, e.ps, ?_, h4, h5, h3.symm, e, h1, rfl, dvs, F⟩
    unfold entB at h2
    simp only [Bool.and_eq_true, decide_eq_true_eq] at h2
    obtain ⟨⟨⟨k1, k2⟩, k3⟩, k4⟩ := h2
    have S := scope_of k1
    have hpl : e.ps.length ≤ e.N.length := by
      have q := congrArg List.length S.pre
      rw [List.length_take] at q
      omega
    obtain ⟨oc, od, dV, kV, doc, pm, an, cdv, ct, osl, efd, lk, hcd, _, _⟩ := F.ex
    subst efd
    refine CallG.imp (G := fun ds h => (exB (runF Pg k) e.fn.body (startE e.N.length (ds.map D.hand)) h).out) ?_ fun ds h => ?_
    · refine callG_of lk hcd S hpl fun A outer s H E hr gd => ?_
      have ok : Ok (cxOf (L2.CX P wo) P wo K mg base e.N e.d.qual e.d.scope f cdv A outer s H E) px (fun cls d _ H => E cls d H) (runF Pg k) ⟨e.N, e.d.scope, fun _ => true, defs, glob, excs, e.sd, dfl, e.brk, ins⟩ := by
        have hr' : Room (2 * k + 5) (A.deeper (envOfC e.d.qual e.d.scope s.heap.objs.size f cdv)) := hr.deeper _
        refine ⟨rfl, S.nd, rfl, fun _ _ => rfl, rfl, ⟨?_, gd, G.sm⟩, takes_of rfl rfl rfl rfl, fun y j m hy => ?_, G.glob, G.blt, fun y j hy => ?_, fun hs => ?_, fun hs => ?_, G.ins, G.xv⟩
        · have := hr'.un
          show (A.deeper _).units + 200 < cLine
          omega
        · obtain ⟨f', fd', ps', c1, c2, c4, c5, _⟩ := callG_all G k y j m hy
          exact ⟨k, f', fd', ps', c1, hr', c2, c4, c5⟩
        · obtain ⟨C, bmB, B, n1, n2, q1, q2, q3, q4, q5, q6⟩ := G.exc y j hy
          exact ⟨C, bmB, B, n1, n2, q1, q2, q3, q4, q5 _ rfl, q6⟩
        · obtain ⟨G1, c, T, t1, t2, t3, t4⟩ := h6 hs
          refine ⟨k, G1 _ _, ⟨⟨c, T, t1, t2, t3, t4⟩, hr'.mono (by omega), fun e1 e2 => ⟨hr.hd, ?_, ?_⟩⟩, fun y j m hy => ?_⟩
          · have := hr.dp; show A.depth + 1 + 1 + 1 + 3 * (2 * k + 5) + 5 < recursionLimit; omega
          · have := hr.un; show A.units + 3 + 3 + 3 + 16 * (2 * k + 5) + 200 < cLine; omega
          · obtain ⟨f', fd', ps', c1, c2, c4, c5, _⟩ := callG_all G k y j m hy
            exact ⟨f', fd', ps', c1, c2, c4, c5⟩
        · obtain ⟨C, fI, fdI, b1, b2, b3, b4, b5, b6, b7⟩ := h7 hs
          exact ⟨C, fI, fdI, b1, b2, b3, b4 _ _ _, hr'.mono (by omega), b5, b6, b7⟩
      exact sndB ok (passes_of rfl) e.fn.body k4
    · show runF Pg (k + 1) i ds h = .bad ∨ _
      have e1 : runF Pg (k + 1) i ds h = if ds.length = e.fn.np then (exB (runF Pg k) e.fn.body (startE e.fn.nn (ds.map D.hand)) h).out else .bad := by
        rw [runF, hp]
      rw [e1, k2]
      split
      · exact .inr rfl
      · exact .inl rfl
end Tv
end

section
set_option autoImplicit false
set_option maxHeartbeats 1000000
/-! The law's own call. -/
namespace Tv
open PySem PySem.Spec PyProof.Rows L2
section
variable {P : Program} {wo : World} {K : PySem.W.Frag} {mg mb : Str → Option Value} {px : Px} {k : Nat} {fa a : Addr} {cs : List (Addr × Addr)} {fd : FuncData} {x : Str} {F : List D → Hs → R D} {s : Shared} {us : List Value} {is : List Int}
/-- what is tracked at the law's call: the script, the tables -/
def hpEnd (K : PySem.W.Frag) (T : List Addr) (a : Addr) (us : List Value) (is : List Int) : Hp := fun b =>
  if b ∈ T then some (.tbl #[]) else if b = a ∧ K.lookup a = none then some (.frz ⟨.type "list", none, .seq us.toArray 0, #[]⟩ (.lst (is.map V.int))) else none
/-- the state ahead of the law's call -/
structure EndAt (K : PySem.W.Frag) (mg mb : Str → Option Value) (cs : List (Addr × Addr)) (a : Addr) (us : List Value) (is : List Int) (h : Heap) : Prop where
  kin : K.In h
  glo : h.Ns mainGlobals mg
  blt : h.Ns builtinsNs mb
  boot : ∀ x : Str, x ≠ "__name__" → mb x = bootBuiltins x
  lim : h.NoLimit
  tab : ∀ p ∈ cs, h.get? p.2 = some { cls := .none, data := .fields #[] }
  out : ∀ p ∈ cs, K.lookup p.2 = none
  hd : ∀ p ∈ cs, PySem.W.CodeHd h p.1 p.2
  bm : ∃ (m : Addr) (o : Obj), mg "__builtins__" = some (.ref m) ∧ m ≠ builtinsNs ∧ h.get? m = some o ∧ o.cls = .type "module" ∧ o.dict = some builtinsNs ∧ o.data = .plain
  scr : h.get? a = some { cls := .type "list", data := .seq us.toArray }
  iar : IntsAre us is
  len : is.length ≤ sizeLine
  sys : ∃ o, h.get? sysModules = some o ∧ solid o = true ∧ o.cls ≠ .type "list"
variable {h : Heap}
theorem EndAt.at_ (e : EndAt K mg mb cs a us is h) {b : Addr} {u : HO} (hb : hpEnd K (cs.map (·.2)) a us is b = some u) :
    (b ∈ cs.map (·.2) ∧ u = .tbl #[]) ∨ (b ∉ cs.map (·.2) ∧ b = a ∧ K.lookup a = none ∧ u = .frz ⟨.type "list", none, .seq us.toArray 0, #[]⟩ (.lst (is.map V.int))) := by
  unfold hpEnd at hb
  split at hb
  · rename_i h1
    exact .inl ⟨h1, (Option.some.inj hb).symm⟩
  · rename_i h1
    split at hb
    · rename_i h2
      exact .inr ⟨h1, h2.1, h2.2, (Option.some.inj hb).symm⟩
    · cases hb
theorem EndAt.tabs (e : EndAt K mg mb cs a us is h) {b : Addr} (hb : b ∈ cs.map (·.2)) : h.get? b = some { cls := .none, data := .fields #[] } := by
  obtain ⟨p, hp, rfl⟩ := List.mem_map.mp hb
  exact e.tab p hp
theorem EndAt.free (e : EndAt K mg mb cs a us is h) {b : Addr} {o : Obj} (hb : h.get? b = some o) (hs : solid o = true) : hpEnd K (cs.map (·.2)) a us is b = none := by
  cases q : hpEnd K (cs.map (·.2)) a us is b with
  | none => rfl
  | some u =>
    rcases e.at_ q with ⟨h1, _⟩ | ⟨_, rfl, _, _⟩
    · rw [e.tabs h1] at hb
      cases hb
      cases hs
    · rw [e.scr] at hb
      cases hb
      cases hs
theorem EndAt.stay (e : EndAt K mg mb cs a us is h) {b : Addr} {o : Obj} (hb : h.get? b = some o) (hs : solid o = true) : (hidT h (hpEnd K (cs.map (·.2)) a us is)).get? b = some o := hidT_get hb (e.free hb hs)
theorem EndAt.ns (e : EndAt K mg mb cs a us is h) {b : Addr} {m : Str → Option Value} (q : h.Ns b m) : (hidT h (hpEnd K (cs.map (·.2)) a us is)).Ns b m := by
  obtain ⟨o, es, ep, h1, h2, r⟩ := q
  exact ⟨o, es, ep, e.stay h1 (by unfold solid; rw [h2]), h2, r⟩
theorem EndAt.keep (e : EndAt K mg mb cs a us is h) : K.In (hidT h (hpEnd K (cs.map (·.2)) a us is)) := by
  intro b o hb
  refine hidT_get (e.kin b o hb) ?_
  cases q : hpEnd K (cs.map (·.2)) a us is b with
  | none => rfl
  | some u =>
    rcases e.at_ q with ⟨h1, _⟩ | ⟨_, rfl, h2, _⟩
    · obtain ⟨p, hp, rfl⟩ := List.mem_map.mp h1
      rw [e.out p hp] at hb
      cases hb
    · rw [h2] at hb
      cases hb
theorem EndAt.mod (e : EndAt K mg mb cs a us is h) : L2.Mod K mg (hidT h (hpEnd K (cs.map (·.2)) a us is)) := by
  obtain ⟨mc, h1, h2⟩ := e.lim
  exact ⟨e.keep, e.ns e.glo, ⟨mb, e.ns e.blt, e.boot⟩, mc, e.ns h1, h2⟩
theorem EndAt.hok (e : EndAt K mg mb cs a us is h) : HOk P wo (hpEnd K (cs.map (·.2)) a us is) h := by
  intro b u hb
  rcases e.at_ hb with ⟨h1, rfl⟩ | ⟨_, rfl, _, rfl⟩
  · exact e.tabs h1
  · exact ⟨e.scr, by rw [List.length_map]; exact e.len, us, 0, vals_ints e.iar, e.scr⟩
theorem EndAt.nota (e : EndAt K mg mb cs a us is h) : a ∉ cs.map (·.2) := fun z => by
  have q := e.tabs z
  rw [e.scr] at q
  cases q
/-- the law's call: the tables' names are in px, F is true of the script -/
theorem law_end (e : EndAt K mg mb cs a us is s.heap) (hg : s.gens = #[]) (hr : Room (2 * k + 4) callerA) (hpx : ∀ p ∈ px.T, p.1 ∈ cs.map (·.2)) (hb : ∀ (s : Shared) (u : Value), BindsTo s fd ⟨[u], []⟩ [(x, u)])
    (G : ∀ base : Heap, K.In base → base.Ns mainGlobals mg → (∃ o, base.get? sysModules = some o ∧ o.cls ≠ .type "list") → (∀ p ∈ cs, LamX.TabB base mg p.1 p.2) → CallG P wo K mg base px k fa fd [x] F)
    (hF : ∃ h', F [.scr (is.map .int)] [] = .ok (.bl true) h') :
    codeAny (model P wo) callerA (.call (.ref fa) ⟨[.ref a], []⟩) (fun r s' => r = .ok (.ret (.bool true)) ∧ OldK s.heap s'.heap ∧ s'.os = s.os ∧ AllBare s'.gens) s := by
  have hT : ∀ p ∈ cs, hpEnd K (cs.map (·.2)) a us is p.2 = some (.tbl #[]) := fun p hp => if_pos (List.mem_map.mpr ⟨p, hp, rfl⟩)
  have hS : SqL K (hpEnd K (cs.map (·.2)) a us is) a (is.map V.int) := by
    cases hk : K.lookup a with
    | none => exact .inl (.inr ⟨_, (if_neg e.nota).trans (if_pos ⟨rfl, hk⟩)⟩)
    | some o =>
      have q := e.kin a o hk
      rw [e.scr] at q
      cases q
      exact .inr ⟨_, us.toArray, 0, hk, rfl, rfl, rfl, by rw [List.size_toArray, e.iar.length]; exact e.len, by simpa using vals_ints e.iar⟩
  have env : Env0 P wo K mg (hidT s.heap (hpEnd K (cs.map (·.2)) a us is)) callerA [] s (hpEnd K (cs.map (·.2)) a us is) :=
    ⟨rfl, e.mod, fun b o q => of_hidT q, Nat.le_of_eq (hidT_size _ _), trivial, (fun b q => by cases q), e.hok, .of_eq hg⟩
  have hd : ∀ p ∈ cs, PySem.W.CodeHd (hidT s.heap (hpEnd K (cs.map (·.2)) a us is)) p.1 p.2 := fun p hp => by
    obtain ⟨o, vs, file, tf, flags, tg, inF, text, tt, q1, q2, q3, q4, r⟩ := e.hd p hp
    refine ⟨o, vs, file, tf, flags, tg, inF, text, tt, e.stay q1 ?_, q2, q3, q4, r⟩
    unfold solid
    rw [q3]
    cases hv : vs.isEmpty with
    | false =>
      show (!vs.isEmpty) = true
      rw [hv]; rfl
    | true =>
      rw [Array.isEmpty_iff.mp hv] at q4
      simp at q4
  have sys : ∃ o, (hidT s.heap (hpEnd K (cs.map (·.2)) a us is)).get? sysModules = some o ∧ o.cls ≠ .type "list" := by
    obtain ⟨o, q1, q2, q3⟩ := e.sys
    exact ⟨o, e.stay q1 q2, q3⟩
  have vs : ∀ {is : List Int} {w : Wd} {H : Hp}, VRs K w H (is.map D.int) (is.map V.int) := fun {is w H} => by
    induction is with
    | nil => exact .nil
    | cons i is ih => exact .cons (.int i) ih
  obtain ⟨hs, hF⟩ := hF
  have tb : ∀ p ∈ cs, LamX.TabB (hidT s.heap (hpEnd K (cs.map (·.2)) a us is)) mg p.1 p.2 := fun p hp => by
    obtain ⟨m, o, b1, b2, b3, b4, b5, b6⟩ := e.bm
    refine ⟨hd p hp, ⟨m, o, b1, b2, fun z => ?_, fun z => ?_, e.stay b3 (by unfold solid; rw [b6]), b4, b5, b6⟩, fun z => ?_⟩
    · obtain ⟨o2, es, ep, q1, q2, _⟩ := e.glo
      rw [z, q1] at b3; cases b3
      rw [q2] at b6; cases b6
    · rw [z, e.tab p hp] at b3; cases b3; cases b6
    · obtain ⟨o2, es, ep, q1, q2, _⟩ := e.glo
      rw [z, e.tab p hp] at q1; cases q1; cases q2
  have run := G _ e.keep (e.ns e.glo) sys tb callerA [] s (hpEnd K (cs.map (·.2)) a us is) ⟨[.ref a], []⟩ [.ref a] [.ref a] (fun v _ => v = .bl true) (fun _ _ _ => False) hr rfl env (hb s (.ref a)) (.cons rfl .nil) rfl
    ⟨⟨[], [], fun _ => False⟩, [], [.scr (is.map .int)], rfl, ⟨rfl, .nil, (fun i b o q => by simp at q), (fun b q => by cases q), fun b q => False.elim q⟩, fun p hp => ?_, .cons ?_ .nil, ?_⟩
  · refine codeAny_mono run fun r s' hq => ?_
    cases r with
    | error u =>
      obtain ⟨_, _, _, _, _, _, _, _, _, _, _, _, z⟩ := hq
      exact False.elim z
    | ok fl =>
      cases fl with
      | next => exact False.elim hq
      | brk => exact False.elim hq
      | cont => exact False.elim hq
      | ret u =>
        obtain ⟨v, H', os, bare, un, hok', rv, rfl⟩ := hq
        cases rv
        have same : ∀ b o, b ∉ cs.map (·.2) → s.heap.get? b = some o → s'.heap.get? b = some o := fun b o nb q => by
          cases z : hpEnd K (cs.map (·.2)) a us is b with
          | none => exact un.keep b o q z (by intro y; cases y) (by intro y; cases y)
          | some u =>
            rcases e.at_ z with ⟨h1, _⟩ | ⟨_, rfl, _, rfl⟩
            · exact absurd h1 nb
            · obtain ⟨k1, _⟩ := e.hok (P := P) (wo := wo) _ _ z
              obtain ⟨k2, _⟩ := hok' _ _ (un.frzs _ _ _ z)
              rw [q] at k1
              cases k1
              exact k2
        have more : ∀ p ∈ cs, ∃ m : Array Value, s'.heap.get? p.2 = some { cls := .none, data := .fields m } := fun p hp => by
          obtain ⟨m, z⟩ := un.tbls p.2 #[] (hT p hp)
          exact ⟨_, hok' _ _ z⟩
        refine ⟨rfl, ⟨fun b o q => ?_, fun b o q => ?_⟩, os, bare⟩
        · by_cases hb : b ∈ cs.map (·.2)
          · obtain ⟨p, hp, rfl⟩ := List.mem_map.mp hb
            obtain ⟨m, hm⟩ := more p hp
            rw [e.tab p hp] at q
            cases q
            exact .inr (.inl ⟨((e.hd p hp).tab (e.tab p hp)).isCodeTable, rfl, #[], m, rfl, by rw [Array.empty_append]; exact hm⟩)
          · exact .inl (same b o hb q)
        · by_cases hb : b ∈ cs.map (·.2)
          · obtain ⟨p, hp, rfl⟩ := List.mem_map.mp hb
            obtain ⟨m, hm⟩ := more p hp
            exact ⟨_, hm⟩
          · exact ⟨o, same b o hb q⟩
  · refine LamX.TabS.nil ?_
    obtain ⟨p', hp', eq⟩ := List.mem_map.mp (hpx p hp)
    rw [← eq]
    exact hT p' hp'
  · rcases hS with hS | hS
    · exact .scr (by simp) (by simp) hS vs
    · exact .scrK hS vs
  · show PostF K px _ _ _ _ (F [.scr (is.map .int)] [])
    rw [hF]
    intro v w' H' _ _ _ y
    cases y
    rfl
end
end Tv
end

section
set_option autoImplicit false
set_option maxHeartbeats 1000000
/-! From the program's top to the law. -/
namespace Tv
open PySem PySem.Spec PyProof.Rows L2
theorem sysB_ok {h : Heap} (q : sysB h.get? = true) : ∃ o, h.get? sysModules = some o ∧ solid o = true ∧ o.cls ≠ .type "list" := by
  unfold sysB at q
  split at q
  · rename_i o ho
    rw [Bool.and_eq_true, Bool.not_eq_true'] at q
    refine ⟨o, ho, q.1, fun z => ?_⟩
    rw [z] at q
    cases q.2
  · cases q
/-- what the top left -/
structure SaysV (fa : List He.Fa) (fn : List He.DefD) (tf : List He.Defn) (ex : ExV) (w : World) (h : Heap) (K : PySem.W.Frag) : Prop where
  kin : K.In h
  d : He.SaysD fa fn K
  hd : ∀ p ∈ tf, PySem.W.codeHdIn K (He.cT K p).1 (He.cT K p).2 = true
  out : ∀ p ∈ tf, K.lookup (He.cT K p).2 = none
  tab : ∀ p ∈ tf, h.get? (He.cT K p).2 = some { cls := .none, data := .fields #[] }
  sys : ∃ o, h.get? sysModules = some o ∧ solid o = true ∧ o.cls ≠ .type "list"
  hh : ex.hs K = ex.vh w
  ex : ex.ex K = true
theorem saysV_of {ex : ExV} {n : Nat} {fa : List He.Fa} {fn : List He.DefD} {tf : List He.Defn} {h : Heap} {w : World} (e : obsV n fa fn tf ex h.get? = ((He.valD fn, true), ex.vh w)) : SaysV fa fn tf ex w h (He.frT h.get? (asV h.get? n)) := by
  have e0 := congrArg Prod.snd e
  have e := congrArg Prod.fst e
  have e1 := congrArg Prod.fst e
  have e2 : (He.tabsB h.get? tf (He.frT h.get? (asV h.get? n)) && sysB h.get? && ex.ex (He.frT h.get? (asV h.get? n))) = true := congrArg Prod.snd e
  rw [Bool.and_eq_true] at e2
  obtain ⟨e2, e3⟩ := e2
  rw [Bool.and_eq_true] at e2
  have t : ∀ p ∈ tf, PySem.W.codeHdIn (He.frT h.get? (asV h.get? n)) (He.cT (He.frT h.get? (asV h.get? n)) p).1 (He.cT (He.frT h.get? (asV h.get? n)) p).2 = true ∧
      ∃ o, h.get? (He.cT (He.frT h.get? (asV h.get? n)) p).2 = some o ∧ He.emptyTab o = true := by
    intro p hp
    have q := e2.1
    unfold He.tabsB at q
    rw [List.all_eq_true] at q
    have r := q p hp
    rw [Bool.and_eq_true] at r
    refine ⟨r.1, ?_⟩
    have r2 := r.2
    split at r2
    · rename_i o ho
      exact ⟨o, ho, r2⟩
    · cases r2
  refine ⟨He.frT_in, e1, fun p hp => (t p hp).1, fun p hp => ?_, fun p hp => ?_, sysB_ok e2.2, e0, e3⟩
  · obtain ⟨_, o, q, z⟩ := t p hp
    exact He.frT_none q z
  · obtain ⟨_, o, q, z⟩ := t p hp
    rw [q]
    exact congrArg some (He.emptyTab_eq z)
def hookV (n : Nat) (fa : List He.Fa) (fn : List He.DefD) (tf : List He.Defn) (ex : ExV) : PySem.W.Hook where
  α := AlV
  obs := fun s => obsV n fa fn tf ex s.heap.get?
  val := fun w => ((He.valD fn, true), ex.vh w)
  says := fun w h => ∃ K : PySem.W.Frag, SaysV fa fn tf ex w h K
  of := fun _ _ e => ⟨_, saysV_of e⟩
  keeps := fun _ _ _ ⟨K, c⟩ k => ⟨K, PySem.W.Frag.In.keeps c.kin k, c.d, c.hd, c.out, fun p hp => k _ _ (c.tab p hp), let ⟨o, h1, h2⟩ := c.sys; ⟨o, k _ _ h1, h2⟩, c.hh, c.ex⟩
theorem obV_eq {ex : ExV} {n : Nat} {fa : List He.Fa} {fn : List He.DefD} {tf : List He.Defn} (s : PySem.W.SharedT) : obV n fa fn tf ex s = (hookV n fa fn tf ex).obs s.abs := by
  have e : HandSHeadRun.getT s = s.abs.heap.get? := funext (HandSHeadRun.getT_eq s)
  unfold obV
  rw [e]
  rfl
/-- the law holds when its tree says so of every script -/
theorem walk_V {ex : ExV} {l : PySem.W.OpenLaw} {n k : Nat} {q : Program} {loose : List Str} {XP : (Str → Option Value) → Heap → Prop} {d : DefRec} {x : Str} {m : Nat} {fa : List He.Fa} {fn : List He.DefD} {tf : List He.Defn} {F : List D → Hs → R D}
    (hn : l.most = some n) (hn2 : n ≤ sizeLine) (hdf : d.params.defaults = []) (hr : Room (2 * k + 4) callerA)
    (G : ∀ (w : World) (mg : Str → Option Value) (f : Addr) (h : Heap) (K : PySem.W.Frag), SaysV fa fn tf ex w h K → h.Ns mainGlobals mg → mg d.name = some (.ref f) → ∃ (px : Px) (fd : FuncData), (∀ p ∈ px.T, ∃ t ∈ tf, p.1 = (He.cT K t).2) ∧ (∀ (s : Shared) (u : Value), BindsTo s fd ⟨[u], []⟩ [(x, u)]) ∧
      ∀ base : Heap, K.In base → base.Ns mainGlobals mg → (∃ o, base.get? sysModules = some o ∧ o.cls ≠ .type "list") → (∀ p ∈ tf, LamX.TabB base mg (He.cT K p).1 (He.cT K p).2) → CallG l.prog w K mg base px k f fd [x] F)
    (hF : ∀ is : List Int, is.length ≤ n → (∀ z ∈ is, Builtin.Int.intBits z ≤ 1048576) → ∃ h', F [.scr (is.map .int)] [] = .ok (.bl true) h') :
    PySem.W.WalkO q loose XP (hookV m fa fn tf ex).says l.row.toRowW d [] (fun f vs => PySem.call f vs) := by
  refine Att.attach_callB hn hdf fun w s₀ s mg mb f o pm cd doc a vs is gr Y ho hd hcd hmg hobj hin hlen hbits hg => ?_
  obtain ⟨K, c⟩ := Y
  obtain ⟨px, fd, h1, h2, h3⟩ := G w mg f _ K c gr.T.g hmg
  have memc : ∀ {p : Addr × Addr}, p ∈ tf.map (He.cT K) → ∃ t ∈ tf, p = He.cT K t := fun {p} hp => by
    obtain ⟨t, ht, e⟩ := List.mem_map.mp hp
    exact ⟨t, ht, e.symm⟩
  have e : EndAt K mg mb (tf.map (He.cT K)) a vs is s.heap := by
    refine ⟨c.kin, gr.T.g, gr.T.b, gr.T.builtins, gr.T.nolimit, fun p hp => ?_, fun p hp => ?_, fun p hp => ?_, gr.T.bmain, hobj, hin, Nat.le_trans hlen hn2, c.sys⟩
    · obtain ⟨t, ht, rfl⟩ := memc hp
      exact c.tab t ht
    · obtain ⟨t, ht, rfl⟩ := memc hp
      exact c.out t ht
    · obtain ⟨t, ht, rfl⟩ := memc hp
      exact PySem.W.codeHd_of_K c.kin (c.hd t ht)
  refine law_end e hg hr (fun p hp => ?_) h2 (fun base b1 b2 b3 b4 => h3 base b1 b2 b3 fun p hp => b4 _ (List.mem_map.mpr ⟨p, hp, rfl⟩)) (hF is hlen hbits)
  obtain ⟨t, ht, z⟩ := h1 p hp
  rw [z]
  exact List.mem_map.mpr ⟨He.cT K t, List.mem_map.mpr ⟨t, ht, rfl⟩, rfl⟩
/-! ### the program's facts, as the walk wants them -/
def faG (p : Str × GV) : He.Fa := match p.2 with
  | .i n => .int p.1 n
  | .s z => .str p.1 z
  | .t _ => .glo p.1
  | .d _ => .glo p.1
/-- a def of the top, a method -/
def factE (e : Ent) : He.Fa := match e.d.at_.2 with
  | none => .glo e.d.qual
  | some m => .meth e.d.at_.1 m
/-- the classes that have methods among the entries -/
def insOf (es : List Ent) : List Nat := [0, 1, 2].filter fun ci => es.any fun e => e.d.at_.1 == clN ci && e.d.at_.2.isSome
def insFa (ci : Nat) : List He.Fa := [.glo (clN ci), .cls (clN ci), .mkr (clN ci)] ++ (clF ci).map (.noat (clN ci))
/-- what is looked at behind the top -/
def faOf (es : List Ent) (glob : List (Str × GV)) (excs : List (Str × Nat)) : List He.Fa :=
  (es.map factE ++ (insOf es).flatMap insFa) ++ (glob.map faG) ++ (bltNames.map .free) ++ (excs.flatMap fun p => [.glo p.1, .exc p.1])
def defsOf (es : List Ent) : List (Str × Nat × Nat) := es.map fun e => (e.d.qual, e.num, e.ps.length)
theorem defsOf_at : ∀ {es : List Ent} {x : Str} {i n : Nat}, (defsOf es).lookup x = some (i, n) → ∃ e, entOf es x = some e ∧ e ∈ es ∧ e.num = i ∧ e.ps.length = n ∧ e.d.qual = x
  | [], _, _, _, h => by cases h
  | e :: es, x, i, n, h => by
    unfold defsOf at h
    rw [List.map_cons, List.lookup_cons] at h
    unfold entOf
    rw [List.find?_cons]
    by_cases q : e.d.qual = x
    · have q1 : (x == e.d.qual) = true := by rw [beq_iff_eq]; exact q.symm
      have q2 : (e.d.qual == x) = true := by rw [beq_iff_eq]; exact q
      rw [q1] at h
      rw [q2]
      cases h
      exact ⟨e, rfl, List.mem_cons_self, rfl, rfl, q⟩
    · have q1 : (x == e.d.qual) = false := by rw [beq_eq_false_iff_ne]; exact fun z => q z.symm
      have q2 : (e.d.qual == x) = false := by rw [beq_eq_false_iff_ne]; exact q
      rw [q1] at h
      rw [q2]
      obtain ⟨e', a, b, c, d, f⟩ := defsOf_at (es := es) h
      exact ⟨e', a, List.mem_cons_of_mem _ b, c, d, f⟩
def pxOf (K : PySem.W.Frag) (excs : List (Str × Nat)) (T : List (Addr × Str)) : Px := ⟨T, fun i => match excs.find? fun p => p.2 == i with
  | some p => He.ga K p.1
  | none => He.ga K "Broken"⟩
theorem nodup_map_inj {α β : Type} {f : α → β} : ∀ {l : List α}, (l.map f).Nodup → ∀ {a b : α}, a ∈ l → b ∈ l → f a = f b → a = b
  | [], _, _, _, h, _, _ => by cases h
  | x :: l, nd, a, b, ha, hb, e => by
    rw [List.map_cons, List.nodup_cons] at nd
    rcases List.mem_cons.mp ha with rfl | ha
    · rcases List.mem_cons.mp hb with rfl | hb
      · rfl
      · exact absurd (List.mem_map.mpr ⟨b, hb, e.symm⟩) nd.1
    · rcases List.mem_cons.mp hb with hb | hb
      · exact absurd (List.mem_map.mpr ⟨a, ha, by rw [e, hb]⟩) nd.1
      · exact nodup_map_inj nd.2 ha hb e
theorem lookup_mem' {α : Type} {x : Str} {v : α} : ∀ {l : List (Str × α)}, l.lookup x = some v → (x, v) ∈ l := fun {l} h => PySem.mem_of_lookup h
/-- a def's names bind -/
def BindN (e : Ent) : Prop := ∀ (kV doc pm : Value) (an : Option Addr) (cdv ct : Value) (us : List Value), us.length = e.ps.length → bindArgs (PySem.W.fnOf e.d.name e.d.qual e.d.params e.d.body e.d.scope .none kV doc pm an cdv ct) ⟨us, []⟩ = pure (e.ps.zip us)
def BindF (e : Ent) : Prop := ∀ (T : Addr) (kV doc pm : Value) (an : Option Addr) (cdv ct : Value) (us its : List Value), us.length = e.ps.length → its.length = 1 → ∃ k, bindArgs (PySem.W.fnOf e.d.name e.d.qual e.d.params e.d.body e.d.scope (.ref T) kV doc pm an cdv ct) ⟨us, []⟩ = seqItems? (.ref T) >>= k ∧ k (some its.toArray) = pure (e.ps.zip (us ++ its.drop 1))
def BindS (e : Ent) : Prop := ∀ (T : Addr) (kV doc pm : Value) (an : Option Addr) (cdv ct : Value) (us its : List Value), us.length = e.ps.length - 1 → its.length = 1 → ∃ k, bindArgs (PySem.W.fnOf e.d.name e.d.qual e.d.params e.d.body e.d.scope (.ref T) kV doc pm an cdv ct) ⟨us, []⟩ = seqItems? (.ref T) >>= k ∧ k (some its.toArray) = pure (e.ps.zip (us ++ its.drop 0))
/-- what stands for the last name where it is left out -/
def dlE (e : Ent) : Option Int := match e.d.dfl with
  | [.int i] => some i
  | _ => none
def BindE (e : Ent) : Prop := (dlE e = none → BindN e) ∧ (dlE e ≠ none → BindF e ∧ BindS e ∧ 1 ≤ e.ps.length)
def dflOf (es : List Ent) (x : Str) : Option Int := (entOf es x).bind dlE
def fnE (e : Ent) : Bool := decide (e.d.at_ = (e.d.qual, none)) && decide (e.d.name = e.d.qual) && (mtab.lookup e.d.qual).isNone
def methE (e : Ent) : Bool := match mtab.lookup e.d.qual with
  | some q => decide (e.d.at_ = (clN q.1, some q.2)) && decide (e.d.name = q.2)
  | none => false
/-- a plain def of the top, or a method -/
def plainE (e : Ent) : Bool := (fnE e || methE e) && (e.d.dfl.isEmpty || (dlE e).isSome) && e.d.kwd.isEmpty
/-! ### what is caught and told -/
def SdI.ds (x : SdI) : List He.DefD := if x.on then [x.dS, x.dW, x.dB] else []
def SdI.fa (x : SdI) : List He.Fa := if x.on then [.glo "TurnError", .glo "_law_said", .glo "_law_word", .glo "Broken", .free "ValueError"] else []
theorem isxB_ok {K : PySem.W.Frag} {D : Addr} (h : isxB K D = true) : ExcC K D := by
  unfold isxB at h
  simp only [Bool.and_eq_true, decide_eq_true_eq] at h
  obtain ⟨⟨⟨⟨⟨⟨⟨h1, h2⟩, h3⟩, h4⟩, h5⟩, h6⟩, h7⟩, h8⟩ := h
  exact ⟨h1, h2, h3, h4, h5, h6, h7, h8⟩
theorem oexC_ok {K : PySem.W.Frag} {C : Addr} (h : oexB K C = true) : OexC K C := by
  unfold oexB at h
  simp only [Bool.and_eq_true, decide_eq_true_eq] at h
  obtain ⟨⟨⟨⟨h1, h2⟩, h3⟩, h4⟩, h5⟩ := h
  refine ⟨?_, h2, h3, h4, h5⟩
  split at h1
  · rename_i dd cd sl ho
    split at h1
    · rename_i C' bm k0 k1 k2 k3 n k5 hm hs
      simp only [Bool.and_eq_true, beq_iff_eq, Bool.not_eq_true'] at h1
      obtain ⟨⟨⟨⟨rfl, rfl⟩, hdel⟩, hdc⟩, hbm⟩ := h1
      obtain ⟨nm, bs, mro, ns, qn, hd, sn, sub, ab, col, del⟩ := cd
      dsimp only at hm hdel hdc
      subst hm hdel hdc
      have hsl : sl = #[k0, k1, k2, k3, some (.builtin "ValueError.__new__"), k5] := by
        obtain ⟨l⟩ := sl
        simp only at hs
        rw [hs]
      subst hsl
      exact ⟨nm, qn, ns, bs, bm, sn, sub, ab, col, dd, k0, k1, k2, k3, k5, ho, hbm⟩
    · cases h1
  · cases h1
def plainD (d : He.DefD) (nm : Str) : Bool := decide (d.at_ = (nm, none)) && decide (d.name = nm) && decide (d.qual = nm) && d.dfl.isEmpty && d.kwd.isEmpty
/-- the making of the error with its year -/
def brkDB (x : SdI) (es : List Ent) (excs : List (Str × Nat)) : Bool := (!x.on || (decide (x.dB.at_ = (("Broken" : Str), some ("__init__" : Str))) && decide (x.dB.name = "__init__") && x.dB.dfl.isEmpty && x.dB.kwd.isEmpty && scopeB [bSelf, bAt] [bSelf, bAt] x.dB.scope && brkB x.dB.body && brkSB x.dB.scope &&
  wordYB x.dW.body && decide (x.dW.scope.names.lookup ("repr" : Str) = some NameKind.globalImplicit) && !(excs.any fun p => p.2 == 16))) && (es.all fun e => !e.brk || x.on) && (!((defsOf es).lookup ("_law_word" : Str)).isSome || x.xv)
/-- the two defs, the entries that hand a lambda over -/
def sdQa (x : SdI) (es : List Ent) (excs : List (Str × Nat)) (tf : List He.Defn) : Bool := (!x.on || (plainD x.dS "_law_said" && plainD x.dW "_law_word" && scopeB [wC, wE] [wC] x.dS.scope && saidB x.dS.body && saidSB x.dS.scope && scopeB [wE, wK, wW] [wE] x.dW.scope && wordB (nsOf excs) x.dW.body && wordSB (nsOf excs) x.dW.scope &&
  (List.range 15).all fun i => excs.any fun p => p.2 == i + 1)) && es.all fun e => !e.sd || (x.on && decide (e.d.at_ = (e.d.name, none)) && decide (e.d.qual = e.d.name) && tf.any fun t => decide (t = (e.d.name, none)))
def sdB (x : SdI) (es : List Ent) (excs : List (Str × Nat)) (tf : List He.Defn) : Bool := sdQa x es excs tf && brkDB x es excs
def BindD (d : He.DefD) (ps : List Str) : Prop := ∀ (kV doc pm : Value) (an : Option Addr) (cdv ct : Value) (us : List Value), us.length = ps.length → bindArgs (PySem.W.fnOf d.name d.qual d.params d.body d.scope .none kV doc pm an cdv ct) ⟨us, []⟩ = pure (ps.zip us)
theorem plainD_fun {K : PySem.W.Frag} {fa : List He.Fa} {fn : List He.DefD} {d : He.DefD} {nm : Str} (c : He.SaysD fa fn K) (hm : d ∈ fn) (hp : plainD d nm = true) : d.name = nm ∧ d.qual = nm ∧ ∃ fd, FunD K d.name d.qual d.params d.body d.scope [] [] (He.ga K nm) fd := by
  unfold plainD at hp
  simp only [Bool.and_eq_true, decide_eq_true_eq] at hp
  obtain ⟨⟨⟨⟨h1, h2⟩, h3⟩, h4⟩, h5⟩ := hp
  obtain ⟨fd, Fd⟩ := c.defs (d := d) hm
  have d1 : d.dvs K = [] := by unfold He.DefD.dvs; rw [List.isEmpty_iff.mp h4]; rfl
  have d2 : d.kws K = [] := by unfold He.DefD.kws; rw [List.isEmpty_iff.mp h5]; rfl
  rw [d1, d2, h1] at Fd
  exact ⟨h2, h3, fd, Fd⟩
theorem ex16 {K : PySem.W.Frag} {excs : List (Str × Nat)} {T : List (Addr × Str)} (h : (!(excs.any fun p => p.2 == 16)) = true) : (pxOf K excs T).ex 16 = He.ga K "Broken" := by
  show (match excs.find? fun p => p.2 == 16 with
    | some p => He.ga K p.1
    | none => He.ga K "Broken") = _
  have e : (excs.find? fun p => p.2 == 16) = none := by
    rw [List.find?_eq_none]
    rw [Bool.not_eq_true', List.any_eq_false] at h
    exact fun p hp => by simpa using h p hp
  rw [e]
theorem brkG_of {K : PySem.W.Frag} {mg : Str → Option Value} {base : Heap} {es : List Ent} {glob : List (Str × GV)} {excs : List (Str × Nat)} {T : List (Addr × Str)} {tf : List He.Defn} {x : SdI} (kin : K.In base) (g : base.Ns mainGlobals mg) (c : He.SaysD (faOf es glob excs ++ x.fa) (es.map (·.d) ++ x.ds) K) (hx : exC_ x excs tf K = true)
    (sd : brkDB x es excs = true) (on : x.on = true) (bB : x.on = true → BindD x.dB [bSelf, bAt]) : BrkG K mg (pxOf K excs T) := by
  unfold brkDB at sd
  have sd := (Bool.and_eq_true_iff.mp sd).1
  rw [on] at sd
  simp only [Bool.not_true, Bool.false_or, Bool.and_eq_true, decide_eq_true_eq] at sd
  obtain ⟨⟨⟨⟨⟨⟨⟨⟨⟨⟨k1, k2⟩, k3⟩, k4⟩, k5⟩, k6⟩, k7⟩, k8⟩, k9⟩, k10⟩, _⟩ := sd
  unfold exC_ at hx
  rw [on, Bool.and_eq_true] at hx
  obtain ⟨_, hxk⟩ := hx
  have hxk : brkKB excs K = true := hxk
  unfold brkKB at hxk
  simp only [Bool.and_eq_true, decide_eq_true_eq, List.all_eq_true] at hxk
  obtain ⟨⟨⟨⟨⟨⟨⟨⟨⟨⟨⟨⟨c1, c2⟩, c3⟩, c4⟩, c5⟩, c6⟩, c7⟩, c8⟩, c9⟩, c10⟩, c11⟩, c12⟩, c13⟩ := hxk
  have hds : x.ds = [x.dS, x.dW, x.dB] := by unfold SdI.ds; rw [on]; rfl
  have hfa : x.fa = [.glo "TurnError", .glo "_law_said", .glo "_law_word", .glo "Broken", .free "ValueError"] := by unfold SdI.fa; rw [on]; rfl
  have glo : ∀ y, He.Fa.glo y ∈ x.fa → mg y = some (.ref (He.ga K y)) := fun y hy => He.glo_ok kin g (c.facts (List.mem_append_right _ hy))
  obtain ⟨fd, Fd⟩ := c.defs (d := x.dB) (List.mem_append_right _ (by rw [hds]; simp))
  have d1 : x.dB.dvs K = [] := by unfold He.DefD.dvs; rw [List.isEmpty_iff.mp k3]; rfl
  have d2 : x.dB.kws K = [] := by unfold He.DefD.kws; rw [List.isEmpty_iff.mp k4]; rfl
  have b := bB on
  unfold BindD at b
  rw [d1, d2, k1, k2] at Fd
  rw [k2] at b
  have B : BrkC K mg (He.ga K "Broken") := by
    refine ⟨oexC_ok c1, c2, xfB_ok c3, He.ga K "TurnError", glo _ (by rw [hfa]; simp), c4, c5, c6, ?_⟩
    split at c7
    · rename_i b0 q
      rw [decide_eq_true_eq] at c7
      rw [q, c7]
    · cases c7
  exact ⟨He.ga K "Broken", _, fd, B, c8, c9, fun P wo base => brk_ok Fd (scope_of k5) k6 k7 B, Fd.bindsN b, glo _ (by rw [hfa]; simp), ex16 k10⟩
theorem saidG_of {K : PySem.W.Frag} {mg : Str → Option Value} {base : Heap} {es : List Ent} {glob : List (Str × GV)} {excs : List (Str × Nat)} {T : List (Addr × Str)} {tf : List He.Defn} {x : SdI} (kin : K.In base) (g : base.Ns mainGlobals mg) (c : He.SaysD (faOf es glob excs ++ x.fa) (es.map (·.d) ++ x.ds) K) (hx : exC_ x excs tf K = true)
    (sys : ∃ o, base.get? sysModules = some o ∧ o.cls ≠ .type "list") (sd : sdB x es excs tf = true) (on : x.on = true) (bS : x.on = true → BindD x.dS [wC]) (bW : x.on = true → BindD x.dW [wE]) (bB : x.on = true → BindD x.dB [bSelf, bAt]) (one : ∀ p ∈ excs, (excs.find? fun q => q.2 == p.2) = some p) (P : Program) (wo : World) : SaidG P wo K mg base (pxOf K excs T) := by
  unfold sdB at sd
  rw [Bool.and_eq_true] at sd
  obtain ⟨sd, sdk⟩ := sd
  unfold sdQa at sd
  rw [on] at sd
  simp only [Bool.not_true, Bool.false_or, Bool.and_eq_true, List.all_eq_true, List.any_eq_true] at sd
  obtain ⟨⟨⟨⟨⟨⟨⟨⟨⟨a1, a2⟩, a3⟩, a4⟩, a5⟩, a6⟩, a7⟩, a8⟩, a9⟩, _⟩ := sd
  have BG := brkG_of (T := T) kin g c hx sdk on bB
  unfold brkDB at sdk
  have sdk := (Bool.and_eq_true_iff.mp sdk).1
  rw [on] at sdk
  simp only [Bool.not_true, Bool.false_or, Bool.and_eq_true, decide_eq_true_eq] at sdk
  obtain ⟨⟨⟨⟨_, k8⟩, k9⟩, k10⟩, _⟩ := sdk
  unfold exC_ at hx
  rw [on, Bool.and_eq_true] at hx
  obtain ⟨hx, hxk⟩ := hx
  have hxk : brkKB excs K = true := hxk
  simp only [Bool.not_true, Bool.false_or, Bool.and_eq_true, List.all_eq_true, decide_eq_true_eq] at hx
  obtain ⟨_, hx⟩ := hx
  have hds : x.ds = [x.dS, x.dW, x.dB] := by unfold SdI.ds; rw [on]; rfl
  have hfa : x.fa = [.glo "TurnError", .glo "_law_said", .glo "_law_word", .glo "Broken", .free "ValueError"] := by unfold SdI.fa; rw [on]; rfl
  have glo : ∀ y, He.Fa.glo y ∈ x.fa → mg y = some (.ref (He.ga K y)) := fun y hy => He.glo_ok kin g (c.facts (List.mem_append_right _ hy))
  have free : ∀ y, bltNames.contains y = true → mg y = none := fun y hy => He.free_ok kin g (c.facts (List.mem_append_left _ (List.mem_append_left _ (List.mem_append_right _ (List.mem_map.mpr ⟨y, by simpa using hy, rfl⟩)))))
  have ofc : ∀ cc, 1 ≤ cc → cc ≤ 15 → ∃ p ∈ excs, p.2 = cc ∧ (pxOf K excs T).ex cc = He.ga K p.1 := fun cc c1 c2 => by
    obtain ⟨p, hp, e⟩ := a9 (cc - 1) (List.mem_range.mpr (by omega))
    rw [beq_iff_eq] at e
    have e : p.2 = cc := by omega
    refine ⟨p, hp, e, ?_⟩
    show (match excs.find? fun p => p.2 == cc with
      | some p => He.ga K p.1
      | none => He.ga K "Broken") = _
    rw [← e, one p hp]
  obtain ⟨n1, n2, fdS, FS⟩ := plainD_fun c (List.mem_append_right _ (by rw [hds]; simp)) a1
  obtain ⟨m1, m2, fdW, FW⟩ := plainD_fun c (List.mem_append_right _ (by rw [hds]; simp)) a2
  have exw : ∀ cc, 1 ≤ cc → cc ≤ 15 → IsW K (.ref ((pxOf K excs T).ex cc)) cc (nsOf excs) mg := fun cc c1 c2 => by
    obtain ⟨p, hp, e, ep⟩ := ofc cc c1 c2
    obtain ⟨⟨⟨h1, h2⟩, h3⟩, h4⟩ := hx p hp
    rw [ep]
    refine ⟨He.ga K p.1, rfl, isxB_ok h1, fun y j hy => ?_, h3⟩
    have hm := lookup_mem' hy
    refine ⟨He.ga K y, ?_, by rw [← e]; exact h2 _ hm⟩
    unfold nsOf at hm
    rcases List.mem_append.mp hm with q | q
    · exact He.glo_ok kin g (c.facts (List.mem_append_left _ (List.mem_append_right _ (List.mem_flatMap.mpr ⟨_, q, by simp⟩))))
    · cases List.mem_singleton.mp q
      exact glo "Broken" (by rw [hfa]; simp)
  unfold brkKB at hxk
  simp only [Bool.and_eq_true, decide_eq_true_eq, List.all_eq_true] at hxk
  obtain ⟨⟨⟨⟨⟨⟨⟨⟨⟨⟨⟨⟨c1, c2⟩, c3⟩, c4⟩, c5⟩, c6⟩, c7⟩, c8⟩, c9⟩, c10⟩, c11⟩, c12⟩, c13⟩ := hxk
  have e16 : (pxOf K excs T).ex 16 = He.ga K "Broken" := ex16 k10
  have exB : IsW K (.ref ((pxOf K excs T).ex 16)) 16 (nsOf excs) mg := by
    rw [e16]
    refine ⟨He.ga K "Broken", rfl, isxB_ok c10, fun y j hy => ?_, c12⟩
    have hm := lookup_mem' hy
    refine ⟨He.ga K y, ?_, c11 _ hm⟩
    unfold nsOf at hm
    rcases List.mem_append.mp hm with q | q
    · exact He.glo_ok kin g (c.facts (List.mem_append_left _ (List.mem_append_right _ (List.mem_flatMap.mpr ⟨_, q, by simp⟩))))
    · cases List.mem_singleton.mp q
      exact glo "Broken" (by rw [hfa]; simp)
  constructor
  · obtain ⟨oc, od, dV, kV, doc, pm, an, cdv, ct, osl, z1, z2, z3, _, _⟩ := FS.ex
    have bN := FS.bindsN (bS on)
    rw [n1, n2] at z1
    rw [n2] at z3
    subst z1
    exact ⟨_, oc, od, osl, _, _, _, dV, kV, doc, pm, cdv, ct, an, z2, z3, glo "_law_said" (by rw [hfa]; simp), FS.kp, bN, scope_of a3, a4, a5⟩
  · obtain ⟨oc, od, dV, kV, doc, pm, an, cdv, ct, osl, z1, z2, z3, _, _⟩ := FW.ex
    have bN := FW.bindsN (bW on)
    subst z1
    refine ⟨_, _, nsOf excs, glo "_law_word" (by rw [hfa]; simp), FW.kp, bN, wordF_of (k := 0) z2 z3 (scope_of a6) a7 a8 (free _ (by decide)) (He.free_ok kin g (c.facts (List.mem_append_right _ (by rw [hfa]; simp)))) sys, exw, wordFB_of (k := 0) z2 z3 (scope_of a6) a7 k8 a8 k9 (free _ (by decide)) (He.free_ok kin g (c.facts (List.mem_append_right _ (by rw [hfa]; simp)))) (free _ (by decide)) sys, exB⟩
  · rw [e16]; exact ⟨xfB_ok c3, c2⟩
  · exact ⟨_, glo "TurnError" (by rw [hfa]; simp), fun cc d1 d2 => by
      by_cases h16 : cc = 16
      · rw [h16, e16]; exact c13
      · obtain ⟨p, hp, e, ep⟩ := ofc cc d1 (by omega)
        rw [ep]
        exact (hx p hp).2⟩
  · exact free _ (by decide)
theorem xvG_of {K : PySem.W.Frag} {mg : Str → Option Value} {base : Heap} {es : List Ent} {glob : List (Str × GV)} {excs : List (Str × Nat)} {tf : List He.Defn} {x : SdI} (kin : K.In base) (g : base.Ns mainGlobals mg) (c : He.SaysD (faOf es glob excs ++ x.fa) (es.map (·.d) ++ x.ds) K) (hx : exC_ x excs tf K = true)
    (q : xvKB excs K = true) (sd : sdQa x es excs tf = true) (on : x.on = true) (F : ExcBaseFacts "ValueError" "ValueError.__new__" "ValueError.__init__" He.veBase) : XvG K mg := by
  unfold xvKB at q
  simp only [Bool.and_eq_true, List.all_eq_true, decide_eq_true_eq] at q
  obtain ⟨t1, t2, t3, t4, t5, t6, t7⟩ := q
  unfold sdQa at sd
  rw [on] at sd
  simp only [Bool.not_true, Bool.false_or, Bool.and_eq_true, List.all_eq_true, List.any_eq_true] at sd
  have a9 := sd.1.2
  unfold exC_ at hx
  rw [on] at hx
  simp only [Bool.not_true, Bool.false_or, Bool.and_eq_true, List.all_eq_true, decide_eq_true_eq] at hx
  obtain ⟨⟨_, hx⟩, hxk⟩ := hx
  unfold brkKB at hxk
  simp only [Bool.and_eq_true, decide_eq_true_eq, List.all_eq_true] at hxk
  obtain ⟨⟨⟨⟨⟨⟨⟨⟨⟨⟨⟨⟨c1, c2⟩, c3⟩, c4⟩, c5⟩, c6⟩, c7⟩, c8⟩, c9⟩, c10⟩, c11⟩, c12⟩, c13⟩ := hxk
  have hfa : x.fa = [.glo "TurnError", .glo "_law_said", .glo "_law_word", .glo "Broken", .free "ValueError"] := by unfold SdI.fa; rw [on]; rfl
  have glo : ∀ y, He.Fa.glo y ∈ x.fa → mg y = some (.ref (He.ga K y)) := fun y hy => He.glo_ok kin g (c.facts (List.mem_append_right _ hy))
  have cs : ∀ cc, cc ≤ 16 → cc = 0 ∨ ∃ q ∈ nsOf excs, q.2 = cc ∧ q.1 = exN cc ∧ cc ≠ 0 := fun cc hc => by
    by_cases z : cc = 0
    · exact .inl z
    · refine .inr ?_
      by_cases z2 : cc = 16
      · subst z2
        exact ⟨("Broken", 16), List.mem_append_right _ (by simp), rfl, rfl, z⟩
      · obtain ⟨p, hp, e⟩ := a9 (cc - 1) (List.mem_range.mpr (by omega))
        rw [beq_iff_eq] at e
        have e : p.2 = cc := by omega
        exact ⟨p, List.mem_append_left _ hp, e, by rw [← e]; exact t1 p hp, z⟩
  have Fq : ∀ q ∈ nsOf excs, isxB K (He.ga K q.1) = true ∧ (∀ r ∈ nsOf excs, PySem.W.kitOne K (.ref (He.ga K q.1)) (.ref (He.ga K r.1)) = some (q.2 == r.2)) ∧ PySem.W.kitOne K (.ref (He.ga K q.1)) (.type "ValueError") = some true := fun q hq => by
    rcases List.mem_append.mp hq with m | m
    · obtain ⟨⟨⟨h1, h2⟩, h3⟩, h4⟩ := hx q m
      exact ⟨h1, h2, h3⟩
    · cases List.mem_singleton.mp m
      exact ⟨c10, c11, c12⟩
  have Fm : ∀ q ∈ nsOf excs, mg q.1 = some (.ref (He.ga K q.1)) := fun q hq => by
    rcases List.mem_append.mp hq with m | m
    · exact He.glo_ok kin g (c.facts (List.mem_append_left _ (List.mem_append_right _ (List.mem_flatMap.mpr ⟨_, m, by simp⟩))))
    · cases List.mem_singleton.mp m
      exact glo "Broken" (by rw [hfa]; simp)
  have e0 : exN 0 = "TurnError" := rfl
  refine ⟨fun cc hc => ?_, fun cc hc => ?_, fun cc j hc hj => ?_, fun cc hc => ?_, fun cc hc => ?_, He.free_ok kin g (c.facts (List.mem_append_right _ (by rw [hfa]; simp))), xfB_ok c3, c2⟩
  · rcases cs cc hc with rfl | ⟨q, hq, e1, e2, _⟩
    · exact glo "TurnError" (by rw [hfa]; simp)
    · unfold exA
      rw [← e2]; exact Fm q hq
  · rcases cs cc hc with rfl | ⟨q, hq, e1, e2, _⟩
    · exact isxB_ok t2
    · unfold exA
      rw [← e2]; exact isxB_ok (Fq q hq).1
  · rcases cs cc hc with rfl | ⟨q, hq, e1, e2, n1⟩
    · rcases cs j hj with rfl | ⟨r, hr, f1, f2, n2⟩
      · exact t3
      · unfold exA
        rw [← f2, e0, (t4 r hr).2]
        have : (j == 0) = false := by rw [beq_eq_false_iff_ne]; exact n2
        rw [this]; rfl
    · rcases cs j hj with rfl | ⟨r, hr, f1, f2, n2⟩
      · unfold exA
        rw [← e2, e0, (t4 q hq).1]
        simp
      · unfold exA
        rw [← e2, ← f2, (Fq q hq).2.1 r hr, e1, f1]
        have : (j == 0) = false := by rw [beq_eq_false_iff_ne]; exact n2
        rw [this, Bool.or_false, Bool.beq_comm]
  · rcases cs cc hc with rfl | ⟨q, hq, e1, e2, _⟩
    · exact t5
    · unfold exA
      rw [← e2]; exact (Fq q hq).2.2
  · rcases cs cc (by omega) with rfl | ⟨q, hq, e1, e2, _⟩
    · exact ⟨_, _, _, _, F, t6, t7⟩
    · rcases List.mem_append.mp hq with m | m
      · obtain ⟨q1, q2, _, _⟩ := He.exc_ok (c.facts (f := .exc q.1) (List.mem_append_left _ (List.mem_append_right _ (List.mem_flatMap.mpr ⟨q, m, by simp⟩))))
        unfold exA
        rw [← e2]
        exact ⟨_, _, _, _, F, q1, q2⟩
      · cases List.mem_singleton.mp m
        have e1 : 16 = cc := e1
        omega
theorem bindX_of {K : PySem.W.Frag} {es : List Ent} {e : Ent} {x : Str} {f : Addr} {fd : FuncData} (b : BindE e) (k2 : (e.d.dfl.isEmpty || (dlE e).isSome) = true) (he : entOf es x = some e) (F : FunD K e.d.name e.d.qual e.d.params e.d.body e.d.scope (e.d.dvs K) [] f fd) : BindX K fd e.ps (dflOf es x) := by
  have ed : dflOf es x = dlE e := by unfold dflOf; rw [he]; rfl
  rw [ed]
  cases q : dlE e with
  | none =>
    rw [q, Option.isSome_none, Bool.or_false] at k2
    have d1 : e.d.dvs K = [] := by unfold He.DefD.dvs; rw [List.isEmpty_iff.mp k2]; rfl
    rw [d1] at F
    exact ⟨F.bindsN (b.1 q), fun i h => by cases h⟩
  | some i =>
    obtain ⟨b1, b2, b3⟩ := b.2 (by rw [q]; intro z; cases z)
    have d0 : e.d.dfl = [.int i] := by
      unfold dlE at q
      split at q
      · rename_i j hj
        cases q
        exact hj
      · cases q
    have d1 : e.d.dvs K = [.int i] := by unfold He.DefD.dvs; rw [d0]; rfl
    rw [d1] at F
    refine ⟨?_, fun j h => ?_⟩
    · obtain ⟨ds, r, h⟩ := F.binds1 e.ps.length 1 (by simp) (by simp) fun T kV doc pm an cdv ct us its h1 h2 => b1 T kV doc pm an cdv ct us its h1 h2
      cases r
      exact h
    · cases h
      obtain ⟨ds, r, h⟩ := F.binds1 (e.ps.length - 1) 0 (by simp) (by simp; omega) fun T kV doc pm an cdv ct us its h1 h2 => b2 T kV doc pm an cdv ct us its h1 h2
      cases r with
      | cons a r =>
        cases r
        obtain ⟨t, rfl⟩ := a
        exact ⟨t, h⟩
theorem refX_of {K : PySem.W.Frag} {mg : Str → Option Value} {base : Heap} {e : Ent} (kin : K.In base) (g : base.Ns mainGlobals mg) (hp : (fnE e || methE e) = true) (f : (factE e).ok K = true) (kp : PySem.W.keepIn K (.ref (He.fAd K e.d.at_)) = true) : RefX K mg e.d.qual (He.fAd K e.d.at_) := by
  rw [Bool.or_eq_true] at hp
  unfold RefX
  rcases hp with hp | hp
  · unfold fnE at hp
    simp only [Bool.and_eq_true, decide_eq_true_eq] at hp
    obtain ⟨⟨h1, h2⟩, h3⟩ := hp
    rw [Option.isNone_iff_eq_none.mp h3]
    unfold factE at f
    rw [h1] at f kp ⊢
    exact ⟨He.glo_ok kin g f, kp⟩
  · unfold methE at hp
    split at hp
    · rename_i q h3
      obtain ⟨ci, m⟩ := q
      simp only [Bool.and_eq_true, decide_eq_true_eq] at hp
      obtain ⟨h1, h2⟩ := hp
      rw [h3]
      unfold factE at f
      rw [h1] at f ⊢
      exact He.meth_ok f
    · cases hp
theorem glW_of {Pg : Nat → Option Fn} {wo : World} {K : PySem.W.Frag} {mg : Str → Option Value} {base : Heap} {es : List Ent} {glob : List (Str × GV)} {excs : List (Str × Nat)} {tf : List He.Defn} {x : SdI} (kin : K.In base) (g : base.Ns mainGlobals mg) (c : He.SaysD (faOf es glob excs ++ x.fa) (es.map (·.d) ++ x.ds) K) (hx0 : exB_ x glob excs tf K = true) (hh0 : hsL glob K = vhL glob wo)
    (sys : ∃ o, base.get? sysModules = some o ∧ o.cls ≠ .type "list") (TB : ∀ p ∈ tf, LamX.TabB base mg (He.cT K p).1 (He.cT K p).2) (sd : sdB x es excs tf = true) (bS : x.on = true → BindD x.dS [wC]) (bW : x.on = true → BindD x.dW [wE]) (bB : x.on = true → BindD x.dB [bSelf, bAt]) (bnd : ∀ e ∈ es, BindE e) (hPg : ∀ e ∈ es, Pg e.num = some e.fn) (ck : (es.all fun e => plainE e && entB (defsOf es) glob excs (dflOf es) (insOf es) e) = true)
    (F : ExcBaseFacts "ValueError" "ValueError.__new__" "ValueError.__init__" He.veBase) (one : ∀ p ∈ excs, (excs.find? fun q => q.2 == p.2) = some p) : GlW Pg wo K mg base (pxOf K excs (tf.map fun t => ((He.cT K t).2, lamName t.1))) es (defsOf es) glob excs (dflOf es) (insOf es) where
  sm := sys
  ents := fun y i n hy => by
    obtain ⟨e, he, hm, rfl, rfl, rfl⟩ := defsOf_at hy
    rw [List.all_eq_true] at ck
    have k := ck e hm
    unfold plainE at k
    simp only [Bool.and_eq_true, decide_eq_true_eq] at k
    obtain ⟨⟨⟨k1, k2⟩, k3⟩, k4⟩ := k
    obtain ⟨fd, Fd⟩ := c.defs (d := e.d) (List.mem_append_left _ (List.mem_map.mpr ⟨e, hm, rfl⟩))
    have d2 : e.d.kws K = [] := by unfold He.DefD.kws; rw [List.isEmpty_iff.mp k3]; rfl
    have hx : exC_ x excs tf K = true := by
      unfold exB_ at hx0
      rw [Bool.and_eq_true] at hx0
      exact hx0.1
    rw [d2] at Fd
    refine ⟨e, _, fd, he, hPg e hm, k4, rfl, ⟨_, Fd⟩, ?_, bindX_of (bnd e hm) k2 he Fd, fun hs => ?_, fun hb => ?_⟩
    · exact refX_of kin g k1 (c.facts (List.mem_append_left _ (List.mem_append_left _ (List.mem_append_left _ (List.mem_append_left _ (List.mem_append_left _ (List.mem_map.mpr ⟨e, hm, rfl⟩))))))) Fd.kp
    · have sd0 := sd
      unfold sdB at sd0
      rw [Bool.and_eq_true] at sd0
      have sd0 := sd0.1
      unfold sdQa at sd0
      rw [Bool.and_eq_true, List.all_eq_true] at sd0
      have q := sd0.2 e hm
      rw [hs] at q
      simp only [Bool.not_true, Bool.false_or, Bool.and_eq_true, decide_eq_true_eq, List.any_eq_true] at q
      obtain ⟨⟨⟨on, k1⟩, eq⟩, t, ht, et⟩ := q
      subst et
      rw [k1] at Fd
      refine ⟨fun P wo => saidG_of kin g c hx sys sd on bS bW bB one P wo, (He.cT K (e.d.name, none)).1, (He.cT K (e.d.name, none)).2, TB _ ht, ?_, ?_, fun p hp ep => ?_⟩
      · obtain ⟨oc, od, dV, kV, doc, pm, an, cdv, ct, osl, z1, z2, z3, _, _⟩ := Fd.ex
        obtain ⟨cc, e1⟩ := He.codeIn_ref z3
        have z2 : K.lookup (He.fAd K (e.d.name, none)) = some ⟨oc, od, .func fd, osl⟩ := z2
        have e2 := He.codeOf_eq z2 (by rw [z1]; exact e1)
        rw [z1]
        show cdv = .ref (He.codeOf K (e.d.name, none))
        rw [e2]; exact e1
      · rw [eq]
        exact List.mem_map.mpr ⟨_, ht, rfl⟩
      · obtain ⟨t2, ht2, rfl⟩ := List.mem_map.mp hp
        unfold exC_ at hx
        rw [on] at hx
        simp only [Bool.not_true, Bool.false_or, Bool.and_eq_true, decide_eq_true_eq] at hx
        have e3 : t2 = (e.d.name, none) := by
          have nd := hx.1.1
          exact nodup_map_inj nd ht2 ht ep
        rw [e3, eq]
    · have sd0 := sd
      unfold sdB at sd0
      rw [Bool.and_eq_true] at sd0
      have sdk := sd0.2
      have on : x.on = true := by
        unfold brkDB at sdk
        rw [Bool.and_eq_true, Bool.and_eq_true, List.all_eq_true] at sdk
        have q := sdk.1.2 e hm
        rw [hb] at q
        simpa using q
      exact brkG_of kin g c hx sdk on bB
  glob := fun x i hx => by
    have f := c.facts (f := faG (x, i)) (List.mem_append_left _ (List.mem_append_left _ (List.mem_append_left _ (List.mem_append_right _ (List.mem_map.mpr ⟨(x, i), lookup_mem' hx, rfl⟩)))))
    cases i with
    | i n => exact He.int_ok kin g f
    | s z => exact He.str_ok kin g f
    | t zs =>
      refine ⟨_, He.glo_ok kin g f, ?_⟩
      unfold exB_ at hx0
      rw [Bool.and_eq_true] at hx0
      have q := hx0.2
      rw [Bool.and_eq_true] at q
      have q := q.1
      unfold gtB at q
      rw [List.all_eq_true] at q
      have q := q (x, .t zs) (lookup_mem' hx)
      dsimp only at q
      split at q
      · rename_i o ho
        rw [Bool.and_eq_true, decide_eq_true_eq] at q
        obtain ⟨q1, q2⟩ := q
        split at q2
        · rename_i its n hd
          rw [decide_eq_true_eq] at q2
          exact ⟨o, its, n, ho, q1, hd, q2⟩
        · cases q2
      · cases q
    | d zs =>
      refine ⟨_, He.glo_ok kin g f, ?_⟩
      unfold exB_ at hx0
      rw [Bool.and_eq_true] at hx0
      have q := hx0.2
      rw [Bool.and_eq_true] at q
      have q := q.1
      unfold gtB at q
      rw [List.all_eq_true] at q
      have q := q (x, .d zs) (lookup_mem' hx)
      have hq : (match K.lookup (He.ga K x) with
          | some o => (match o.data with
            | .dict es _ => es.toList.map (·.hash)
            | _ => [])
          | none => []) = zs.map fun z => L2.keyH wo (.inr z.1) := List.map_inj_left.mp hh0 (x, .d zs) (lookup_mem' hx)
      dsimp only at q
      rw [Bool.and_eq_true, Bool.and_eq_true, Bool.not_eq_true', decide_eq_true_eq] at q
      obtain ⟨q0, q1, q2⟩ := q
      split at q0
      · rename_i o ho
        rw [Bool.and_eq_true, Bool.and_eq_true, Bool.and_eq_true, decide_eq_true_eq, decide_eq_true_eq] at q0
        obtain ⟨a1, a2, a3, a4⟩ := q0
        rw [ho] at hq
        split at a4
        · rename_i es ep hd
          rw [decide_eq_true_eq] at a4
          dsimp only at hq
          rw [hd] at hq
          refine ⟨o, es, ep, ho, ⟨a1, a2, ?_⟩, hd, a4, hq, q2, q1⟩
          obtain ⟨_, _, _, ⟨l⟩⟩ := o
          cases l with
          | nil => rfl
          | cons a r => cases a3
        · cases a4
      · cases q0
  ins := fun ci h => by
    have h : ci ∈ insOf es := by simpa using h
    have fa : ∀ f ∈ insFa ci, f.ok K = true := fun f hf => c.facts (List.mem_append_left _ (List.mem_append_left _ (List.mem_append_left _ (List.mem_append_left _ (List.mem_append_right _ (List.mem_flatMap.mpr ⟨ci, h, hf⟩))))))
    refine ⟨He.cls_ok (fa (.cls (clN ci)) (by simp [insFa])), fun f hf => He.noat_ok (fa (.noat (clN ci) f) ?_), He.glo_ok kin g (fa (.glo (clN ci)) (by simp [insFa])), ⟨_, He.mkr_ok (fa (.mkr (clN ci)) (by simp [insFa]))⟩, ?_⟩
    · exact List.mem_append_right _ (List.mem_map.mpr ⟨f, by simpa using hf, rfl⟩)
    · have q0 := hx0
      unfold exB_ at q0
      rw [Bool.and_eq_true, Bool.and_eq_true] at q0
      have q1 := (Bool.and_eq_true_iff.mp q0.2.2).1
      unfold spcA at q1
      rw [List.all_eq_true] at q1
      have hc : clN ci ∈ clNames := by
        unfold clN
        split <;> decide
      have q2 := q1 _ hc
      have q3 : PySem.W.nsIn K mainGlobals (clN ci) = some (some (.ref (clsA K ci))) := He.eqO_ok (fa (.glo (clN ci)) (by simp [insFa]))
      rw [q3] at q2
      exact spcB_ok q2
  xv := fun hl => by
    have sd0 := sd
    unfold sdB brkDB at sd0
    simp only [Bool.and_eq_true] at sd0
    have sdq := sd0.1
    have sdx := sd0.2.2
    have hxv : x.xv = true := by
      rw [hl] at sdx
      simpa using sdx
    have q0 := hx0
    unfold exB_ at q0
    rw [Bool.and_eq_true, Bool.and_eq_true, Bool.and_eq_true] at q0
    have q1 := q0.2.2.2
    rw [hxv] at q1
    simp only [Bool.not_true, Bool.false_or, Bool.and_eq_true] at q1
    obtain ⟨on, q1⟩ := q1
    exact xvG_of kin g c q0.1 q1 sdq on F
  blt := fun x hx => by
    have hx' : x ∈ bltNames := by simpa using hx
    exact He.free_ok kin g (c.facts (List.mem_append_left _ (List.mem_append_left _ (List.mem_append_right _ (List.mem_map.mpr ⟨x, hx', rfl⟩)))))
  exc := fun x i hx => by
    have m := lookup_mem' hx
    have f1 := c.facts (f := .glo x) (List.mem_append_left _ (List.mem_append_right _ (List.mem_flatMap.mpr ⟨(x, i), m, by simp⟩)))
    have f2 := c.facts (f := .exc x) (List.mem_append_left _ (List.mem_append_right _ (List.mem_flatMap.mpr ⟨(x, i), m, by simp⟩)))
    obtain ⟨q1, q2, q3, q4⟩ := He.exc_ok f2
    refine ⟨He.ga K x, He.veBase, "ValueError", _, _, F, q1, He.glo_ok kin g f1, q2, fun X hX => raises_own (by rw [hX]; exact q3) (by rw [hX]; exact q4), ?_⟩
    show (match excs.find? fun p => p.2 == i with
      | some p => He.ga K p.1
      | none => He.ga K "Broken") = _
    rw [one _ m]
/-- the law's def keeps its tree's promise, wherever it is called -/
theorem law_G {Pg : Nat → Option Fn} {P : Program} {k i : Nat} {x nm : Str} {es : List Ent} {glob : List (Str × GV)} {excs : List (Str × Nat)} {tf : List He.Defn} {e : Ent} {sx : SdI} (bnd : ∀ e ∈ es, BindE e) (hPg : ∀ e ∈ es, Pg e.num = some e.fn) (ck : (es.all fun e => plainE e && entB (defsOf es) glob excs (dflOf es) (insOf es) e) = true) (one : ∀ p ∈ excs, (excs.find? fun q => q.2 == p.2) = some p) (sd : sdB sx es excs tf = true) (bS : sx.on = true → BindD sx.dS [wC]) (bW : sx.on = true → BindD sx.dW [wE]) (bB : sx.on = true → BindD sx.dB [bSelf, bAt])
    (he : entOf es nm = some e) (hd0 : e.d.dfl = []) (hn : e.d.at_ = (nm, none)) (hp : e.ps = [x]) (hl : (defsOf es).lookup nm = some (i, 1)) (w : World) (mg : Str → Option Value) (f : Addr) (h : Heap) (K : PySem.W.Frag) (c : SaysV (faOf es glob excs ++ sx.fa) (es.map (·.d) ++ sx.ds) tf (exV_ sx glob excs tf) w h K) (g : h.Ns mainGlobals mg) (hf : mg nm = some (.ref f)) :
    ∃ (px : Px) (fd : FuncData), (∀ p ∈ px.T, ∃ t ∈ tf, p.1 = (He.cT K t).2) ∧ (∀ (s : Shared) (u : Value), BindsTo s fd ⟨[u], []⟩ [(x, u)]) ∧
      ∀ base : Heap, K.In base → base.Ns mainGlobals mg → (∃ o, base.get? sysModules = some o ∧ o.cls ≠ .type "list") → (∀ p ∈ tf, LamX.TabB base mg (He.cT K p).1 (He.cT K p).2) → CallG P w K mg base px k f fd [x] (runF Pg k i) := by
  have hm : e ∈ es := List.mem_of_find?_eq_some he
  have k0 := ck
  rw [List.all_eq_true] at k0
  have q := k0 e hm
  unfold plainE at q
  simp only [Bool.and_eq_true, decide_eq_true_eq] at q
  obtain ⟨⟨⟨k1, k2⟩, k3⟩, k4⟩ := q
  obtain ⟨fd, Fd⟩ := c.d.defs (d := e.d) (List.mem_append_left _ (List.mem_map.mpr ⟨e, hm, rfl⟩))
  have d1 : e.d.dvs K = [] := by unfold He.DefD.dvs; rw [hd0]; rfl
  have d2 : e.d.kws K = [] := by unfold He.DefD.kws; rw [List.isEmpty_iff.mp k3]; rfl
  rw [d1, d2] at Fd
  have hmn : (mtab.lookup nm).isNone = true ∧ e.d.qual = nm := by
    rw [Bool.or_eq_true] at k1
    rcases k1 with k1 | k1
    · unfold fnE at k1
      simp only [Bool.and_eq_true, decide_eq_true_eq] at k1
      obtain ⟨⟨h1, h2⟩, h3⟩ := k1
      rw [hn] at h1
      have e1 : nm = e.d.qual := congrArg Prod.fst h1
      rw [e1]
      exact ⟨h3, rfl⟩
    · unfold methE at k1
      split at k1
      · simp only [Bool.and_eq_true, decide_eq_true_eq] at k1
        rw [hn] at k1
        have e1 := congrArg Prod.snd k1.1
        cases e1
      · cases k1
  have ef : f = He.fAd K e.d.at_ := by
    have z := (refX_of c.kin g k1 (c.d.facts (List.mem_append_left _ (List.mem_append_left _ (List.mem_append_left _ (List.mem_append_left _ (List.mem_append_left _ (List.mem_map.mpr ⟨e, hm, rfl⟩))))))) Fd.kp).fn (by rw [hmn.2]; exact hmn.1)
    have z := z.1
    rw [hmn.2, hf] at z
    cases z
    rfl
  refine ⟨pxOf K excs (tf.map fun t => ((He.cT K t).2, lamName t.1)), fd, fun p hp => ?_, fun s u => ?_, fun base kin gb sys TB => ?_⟩
  · obtain ⟨t, ht, rfl⟩ := List.mem_map.mp hp
    exact ⟨t, ht, rfl⟩
  · have z := Fd.bindsA ((bnd e hm).1 (by unfold dlE; rw [hd0])) s [u] (by rw [hp]; rfl)
    rw [hp] at z
    exact z
  · have W := glW_of (Pg := Pg) (wo := w) kin gb c.d c.ex c.hh sys TB sd bS bW bB bnd hPg ck PySem.F.excBase_ValueError one
    obtain ⟨f3, fd3, ps3, G, b0, b3, b4, e3, b5, b6, dvs3, F3⟩ := callG_all (P := P) (wo := w) W k nm i 1 hl
    rw [he] at b5
    cases b5
    have e4 : f3 = f := by
      have b1 := (b0.fn hmn.1).1
      rw [hf] at b1
      cases b1
      rfl
    subst e4
    rw [b6, hp] at G
    obtain ⟨oc, od, dV, kV, doc, pm, an, cdv, ct, osl, z1, z2, _⟩ := F3.ex
    obtain ⟨oc', od', dV', kV', doc', pm', an', cdv', ct', osl', y1, y2, _⟩ := Fd.ex
    rw [← ef] at y2
    rw [z2] at y2
    have e5 : fd3 = fd := by
      have q := congrArg Obj.data (Option.some.inj y2)
      exact Data.func.inj q
    rw [← e5]
    exact G
/-! ### the top is run in parts, each with some of the facts -/
section
open PySem.W PySem.Calls HandSHeadRun
theorem run_of {r : PySem.W.OpenRow} {q : Program} {M n : Nat} {loose : List PySem.Str} {w : World} {fa : List He.Fa} {fn : List He.DefD} {tf : List He.Defn} {ex : ExV}
    (h0 : ∀ os : OsState, (endF (stepQ (denQ tabQ) r.prog w) M r.prog w os).map (fun s => (looksF r.prog (boot_heap w.params) s.abs, seenQ q loose (importedModules r.prog.main.body) (fun s => xlAt q [] s && recOk r.toRowW.records s) s.abs)) = some (true, openGood q loose))
    (h1 : RunO r AlV (obV n fa [] [] exT) ((He.valD [], true), []) M w) (h2 : RunO r AlV (obV n [] fn [] exT) ((He.valD fn, true), []) M w) (h3 : RunO r AlV (obV n [] [] tf ex) ((He.valD [], true), ex.vh w) M w) :
    RunEq r q (hookV n fa fn tf ex) (obV n fa fn tf ex) M loose w := by
  intro os
  obtain ⟨s, e1, e2⟩ := Option.map_eq_some_iff.mp (h0 os)
  obtain ⟨s1, f1, f2⟩ := Option.map_eq_some_iff.mp (h1 os)
  obtain ⟨s2, g1, g2⟩ := Option.map_eq_some_iff.mp (h2 os)
  obtain ⟨s3, k1, k2⟩ := Option.map_eq_some_iff.mp (h3 os)
  rw [e1] at f1 g1 k1
  cases f1
  cases g1
  cases k1
  rw [e1]
  obtain ⟨a1, a2⟩ := Prod.mk.inj e2
  refine congrArg some (Prod.ext a1 (Prod.ext a2 ?_))
  have c1 := Prod.mk.inj (show ((_ : He.AlD), (_ : Bool)) = (He.valD [], true) from congrArg (fun z : AlV => z.1) f2)
  have c2 := Prod.mk.inj (show ((_ : He.AlD), (_ : Bool)) = (He.valD fn, true) from congrArg (fun z : AlV => z.1) g2)
  have c3 := Prod.mk.inj (show ((_ : He.AlD), (_ : Bool)) = (He.valD [], true) from congrArg (fun z : AlV => z.1) k2)
  have k3 : ex.hs _ = ex.vh w := congrArg (fun z : AlV => z.2) k2
  refine Prod.ext (Prod.ext ?_ c3.2) (by exact k3)
  have x1 := congrArg (fun z : He.AlD => z.1) c1.1
  have x2 := congrArg (fun z : He.AlD => z.1) c2.1
  have x3 := congrArg (fun z : He.AlD => z.2) c2.1
  have x1 : ((_ : Bool) && true) = true := x1
  have x2 : (true && (_ : Bool)) = true := x2
  refine Prod.ext ?_ x3
  show ((_ : Bool) && (_ : Bool)) = true
  rw [Bool.and_eq_true]
  rw [Bool.and_true] at x1
  rw [Bool.true_and] at x2
  exact ⟨x1, x2⟩
end
end Tv
end

section

/-! The program and the laws as trees. -/
namespace Tv
open PySem
abbrev n_is_whole : Nat := 0
abbrev n_is_from_to : Nat := 1
abbrev n_is_bed : Nat := 2
abbrev n_most_of : Nat := 3
abbrev n_many_in : Nat := 4
abbrev n_is_grounds : Nat := 5
abbrev n_need_grounds : Nat := 6
abbrev n_standings_in : Nat := 7
abbrev n_all_standings : Nat := 8
abbrev n_l_box : Nat := 9
abbrev n_l_take : Nat := 10
abbrev n_law_k10 : Nat := 11
abbrev n_are_rising : Nat := 12
abbrev n_is_standing_of : Nat := 13
abbrev n_is_standing : Nat := 14
abbrev n_is_catch_of : Nat := 15
abbrev n_is_catch : Nat := 16
abbrev n_many_standings : Nat := 17
abbrev n_l_is_from_to : Nat := 18
abbrev n_l_spoil : Nat := 19
abbrev n_l_odd : Nat := 20
abbrev n_l_rising : Nat := 21
abbrev n_l_most : Nat := 22
abbrev n_l_many : Nat := 23
abbrev n_l_grounds : Nat := 24
abbrev n_l_is_grounds : Nat := 25
abbrev n_l_is_standing : Nat := 26
abbrev n_l_is_catch : Nat := 27
abbrev n_l_standing : Nat := 28
abbrev n_l_catches : Nat := 29
abbrev n_l_all : Nat := 30
abbrev n_l_of_right : Nat := 31
abbrev n_law_k11 : Nat := 32
abbrev n_need_standing : Nat := 33
abbrev n_may_go : Nat := 34
abbrev n_baskets_in : Nat := 35
abbrev n_next_of : Nat := 36
abbrev n_need_catch : Nat := 37
abbrev n_may_be : Nat := 38
abbrev n_need_going : Nat := 39
abbrev n_sold_by : Nat := 40
abbrev n_behind : Nat := 41
abbrev n_l_can : Nat := 42
abbrev n_l_sold : Nat := 43
abbrev n_l_next : Nat := 44
abbrev n_l_due : Nat := 45
abbrev n_law_k12 : Nat := 46
abbrev n_is_course : Nat := 47
abbrev n_need_course : Nat := 48
abbrev n_gone_through : Nat := 49
abbrev n_first_break : Nat := 50
abbrev n_whole_way : Nat := 51
abbrev n_sales : Nat := 52
abbrev n_end_of : Nat := 53
abbrev n_l_is_course : Nat := 54
abbrev n_l_let : Nat := 55
abbrev n_l_course : Nat := 56
abbrev n_l_gone : Nat := 57
abbrev n_l_due_2 : Nat := 58
abbrev n_law_k21 : Nat := 59
abbrev n_whole_way_2 : Nat := 60
abbrev n_sales_2 : Nat := 61
abbrev n_end_of_2 : Nat := 62
abbrev n_l_rested : Nat := 63
abbrev n_law_k22 : Nat := 64
abbrev n_need_number : Nat := 65
abbrev n_number_of : Nat := 66
abbrev n_catches_of : Nat := 67
abbrev n_moves_of : Nat := 68
abbrev n_least_sheet : Nat := 69
abbrev n_most_sold : Nat := 70
abbrev n_best_course : Nat := 71
abbrev n_l_moves : Nat := 72
abbrev n_l_sheet : Nat := 73
abbrev n_l_right : Nat := 74
abbrev n_law_k31 : Nat := 75
abbrev n_are_numbers : Nat := 76
abbrev n_bears : Nat := 77
abbrev n_is_sheet : Nat := 78
abbrev n_sheet_of : Nat := 79
abbrev n_l_are_numbers : Nat := 80
abbrev n_l_is_sheet : Nat := 81
abbrev n_law_k32 : Nat := 82
abbrev n_law_k33 : Nat := 83
abbrev n_common : Nat := 84
abbrev n_amount : Nat := 85
abbrev n_is_less : Nat := 86
abbrev n_is_round : Nat := 87
abbrev n_walks : Nat := 88
abbrev n_mean_in : Nat := 89
abbrev n_heights_of : Nat := 90
abbrev n_tight_moves : Nat := 91
abbrev n_way_round : Nat := 92
abbrev n_best_round : Nat := 93
abbrev n_l_is_round : Nat := 94
abbrev n_l_round : Nat := 95
abbrev n_law_k41 : Nat := 96
abbrev n_is_scale : Nat := 97
abbrev n_scale_of : Nat := 98
abbrev n_l_is_scale : Nat := 99
abbrev n_law_k42 : Nat := 100
abbrev n_best_mean : Nat := 101
abbrev n_l_common : Nat := 102
abbrev n_law_k43 : Nat := 103
abbrev n_l_wandered : Nat := 104
abbrev n_l_no_more : Nat := 105
abbrev n_l_others_right : Nat := 106
abbrev n_law_k44 : Nat := 107
abbrev n_let_moves : Nat := 108
abbrev n_ranks_of : Nat := 109
abbrev n_need_all : Nat := 110
abbrev n_are_enough : Nat := 111
abbrev n_is_plan : Nat := 112
abbrev n_plan_of : Nat := 113
abbrev n_l_is_plan : Nat := 114
abbrev n_l_tried : Nat := 115
abbrev n_law_k51 : Nat := 116
abbrev n_lasting : Nat := 117
abbrev n_l_ranks : Nat := 118
abbrev n_l_right_2 : Nat := 119
abbrev n_law_k52 : Nat := 120
abbrev n_need_grounds_and_need : Nat := 121
abbrev n_is_clock : Nat := 122
abbrev n_clock_of : Nat := 123
abbrev n_l_is_clock : Nat := 124
abbrev n_law_k53 : Nat := 125
abbrev n_l_least : Nat := 126
abbrev n_l_ends_right : Nat := 127
abbrev n_l_more_right : Nat := 128
abbrev n_law_k54 : Nat := 129
abbrev n__wall : Nat := 130
abbrev n_is_bed_number : Nat := 131
abbrev n_is_deed : Nat := 132
abbrev n_is_book : Nat := 133
abbrev n_gone_by : Nat := 134
abbrev n_lacks_at : Nat := 135
abbrev n_need_book : Nat := 136
abbrev n_first_lacking : Nat := 137
abbrev n_l_is_deed : Nat := 138
abbrev n_l_is_book : Nat := 139
abbrev n_l_deed : Nat := 140
abbrev n_l_beds : Nat := 141
abbrev n_l_book : Nat := 142
abbrev n_law_k61 : Nat := 143
abbrev n_need_done : Nat := 144
abbrev n_stock_by : Nat := 145
abbrev n_sums_by : Nat := 146
abbrev n_lots_in : Nat := 147
abbrev n_l_stock : Nat := 148
abbrev n_l_sums : Nat := 149
abbrev n_law_k62 : Nat := 150
abbrev n_l_alone_right : Nat := 151
abbrev n_law_k63 : Nat := 152
abbrev n_with_deed : Nat := 153
abbrev n_without_deed : Nat := 154
abbrev n_l_refused : Nat := 155
abbrev n_l_turned : Nat := 156
abbrev n_l_is_at : Nat := 157
abbrev n_law_k71 : Nat := 158
abbrev n_l_told : Nat := 159
abbrev n_law_k72 : Nat := 160
abbrev n_l_mixed : Nat := 161
abbrev n_l_all_told : Nat := 162
abbrev n_law_k73 : Nat := 163
abbrev n_number_in : Nat := 164
abbrev n_numbers_in : Nat := 165
abbrev n_bed_text : Nat := 166
abbrev n_grounds_text : Nat := 167
abbrev n_bed_by : Nat := 168
abbrev n_grounds_by : Nat := 169
abbrev n_need_text : Nat := 170
abbrev n_need_found : Nat := 171
abbrev n_grounds_read : Nat := 172
abbrev n_catch_text : Nat := 173
abbrev n_course_words : Nat := 174
abbrev n_course_text : Nat := 175
abbrev n_catch_by : Nat := 176
abbrev n_course_by : Nat := 177
abbrev n_course_read : Nat := 178
abbrev n_l_number : Nat := 179
abbrev n_l_bent : Nat := 180
abbrev n_l_grounds_text : Nat := 181
abbrev n_l_course_text : Nat := 182
abbrev n_l_grounds_due : Nat := 183
abbrev n_l_course_due : Nat := 184
abbrev n_law_k81 : Nat := 185
abbrev n_need_figure : Nat := 186
abbrev n_form_of : Nat := 187
abbrev n_l_first : Nat := 188
abbrev n_l_asked : Nat := 189
abbrev n_l_wrong : Nat := 190
abbrev n_law_k82 : Nat := 191
abbrev n_l_step : Nat := 192
abbrev n_law_k83 : Nat := 193
abbrev n_l_sums_right : Nat := 194
abbrev n_law_k84 : Nat := 195
abbrev n_l_beds_2 : Nat := 196
abbrev n_l_book_2 : Nat := 197
abbrev n_l_stock_2 : Nat := 198
abbrev n_l_turns_right : Nat := 199
abbrev n_l_papers_right : Nat := 200
abbrev n_l_rest_right : Nat := 201
abbrev n_law_k90 : Nat := 202
abbrev n_Beds___init__ : Nat := 203
abbrev n_Beds_die : Nat := 204
abbrev n_Beds_put : Nat := 205
abbrev n_Beds_do : Nat := 206
abbrev n_Beds_can : Nat := 207
abbrev n_Beds_stock : Nat := 208
abbrev n_Beds_stock_2 : Nat := 209
abbrev n_Tally_stock : Nat := 210
abbrev n_Tally_book : Nat := 211
abbrev n_Tally___init__ : Nat := 212
abbrev n_Tally_turn : Nat := 213
abbrev n_Tally_tell : Nat := 214
abbrev n_Tally_strike : Nat := 215
abbrev n_Tally_turned_by : Nat := 216
abbrev n_Tally_undo : Nat := 217
abbrev n_Tally_twin : Nat := 218
abbrev n_Tally___len__ : Nat := 219
abbrev n_Tally___eq__ : Nat := 220
abbrev n_Tally___repr__ : Nat := 221
abbrev n_Tally_twin_2 : Nat := 222
abbrev n_Tally_stock_2 : Nat := 223
abbrev n_Tally_turned_by_2 : Nat := 224
abbrev n_Desk_turn : Nat := 225
abbrev n_Desk_here : Nat := 226
abbrev n_Desk_year : Nat := 227
abbrev n_Desk_answer : Nat := 228
abbrev n_Desk_say : Nat := 229
abbrev n_Desk___init__ : Nat := 230
abbrev n_l_word : Nat := 231
abbrev n_law_k10_2 : Nat := 232
/-- is_whole(thing): 0 thing -/
def f_is_whole : Fn := ⟨1, 1, (.cons (.ret (.and (.isi (.v 0) .int) (.not (.isi (.v 0) .bool)))) .nil)⟩
/-- is_from_to(thing, least, most): 0 thing 1 least 2 most -/
def f_is_from_to : Fn := ⟨3, 3, (.cons (.ret (.and (.call n_is_whole (.cons (.v 0) .nil)) (.chn .le .le (.v 1) (.v 0) (.v 2)))) .nil)⟩
/-- is_bed(thing): 0 thing 1 baskets -/
def x_is_bed_0 : E := (.call n_is_from_to (.cons (.v 1) (.cons (.c (.int 0)) (.cons (.g ⟨#[77, 79, 83, 84, 95, 89, 73, 69, 76, 68]⟩ (.int 99)) .nil))))
def f_is_bed : Fn := ⟨1, 2, (.cons (.ite (.or (.not (.isi (.v 0) .tuple)) (.or (.cmp .ne (.bi .len (.cons (.v 0) .nil)) (.c (.int 2))) (.not (.call n_is_from_to (.cons (.ix (.v 0) (.c (.int 0))) (.cons (.c (.int 0)) (.cons (.g ⟨#[77, 79, 83, 84, 95, 82, 69, 83, 84]⟩ (.int 3)) .nil))))))) (.cons (.ret (.c (.bl false))) .nil) .nil) (.cons (.ite (.or (.not (.isi (.ix (.v 0) (.c (.int 1))) .tuple)) (.not (.chn .le .le (.c (.int 1)) (.bi .len (.cons (.ix (.v 0) (.c (.int 1))) .nil)) (.g ⟨#[77, 79, 83, 84, 95, 89, 73, 69, 76, 68, 83]⟩ (.int 3))))) (.cons (.ret (.c (.bl false))) .nil) .nil) (.cons (.ret (.bi .all (.cons (.comp (.seq (.ix (.v 0) (.c (.int 1)))) (.n 1) [1] (.c (.bl true)) x_is_bed_0) .nil))) .nil)))⟩
/-- most_of(bed): 0 bed -/
def f_most_of : Fn := ⟨1, 1, (.cons (.ret (.bin .sub (.bin .add (.ix (.v 0) (.c (.int 0))) (.bi .len (.cons (.ix (.v 0) (.c (.int 1))) .nil))) (.c (.int 1)))) .nil)⟩
/-- many_in(beds): 0 beds 1 found 2 bed -/
def b_many_in_0 : Ss := (.cons (.set 1 (.bin .mul (.v 1) (.bin .add (.call n_most_of (.cons (.v 2) .nil)) (.c (.int 1))))) .nil)
def f_many_in : Fn := ⟨1, 3, (.cons (.set 1 (.c (.int 1))) (.cons (.for (.seq (.v 0)) (.n 2) b_many_in_0) (.cons (.ret (.v 1)) .nil)))⟩
/-- is_grounds(thing): 0 thing 1 bed -/
def x_is_grounds_0 : E := (.call n_is_bed (.cons (.v 1) .nil))
def f_is_grounds : Fn := ⟨1, 2, (.cons (.ite (.or (.not (.isi (.v 0) .tuple)) (.or (.cmp .ne (.bi .len (.cons (.v 0) .nil)) (.c (.int 2))) (.not (.isi (.ix (.v 0) (.c (.int 0))) .tuple)))) (.cons (.ret (.c (.bl false))) .nil) .nil) (.cons (.ite (.or (.not (.chn .le .le (.c (.int 1)) (.bi .len (.cons (.ix (.v 0) (.c (.int 0))) .nil)) (.g ⟨#[77, 79, 83, 84, 95, 66, 69, 68, 83]⟩ (.int 4)))) (.not (.bi .all (.cons (.comp (.seq (.ix (.v 0) (.c (.int 0)))) (.n 1) [1] (.c (.bl true)) x_is_grounds_0) .nil)))) (.cons (.ret (.c (.bl false))) .nil) .nil) (.cons (.ret (.and (.cmp .le (.call n_many_in (.cons (.ix (.v 0) (.c (.int 0))) .nil)) (.g ⟨#[77, 79, 83, 84, 95, 83, 84, 65, 78, 68, 73, 78, 71, 83]⟩ (.int 120))) (.call n_is_from_to (.cons (.ix (.v 0) (.c (.int 1))) (.cons (.c (.int 1)) (.cons (.c (.int 2)) .nil)))))) .nil)))⟩
/-- need_grounds(thing): 0 thing -/
def f_need_grounds : Fn := ⟨1, 1, (.cons (.ite (.not (.call n_is_grounds (.cons (.v 0) .nil))) (.cons (.rai 1 (.c (.str ⟨#[110, 111, 32, 103, 114, 111, 117, 110, 100, 115]⟩))) .nil) .nil) .nil)⟩
/-- standings_in(grounds): 0 grounds 1 found 2 bed 3 longer 4 row 5 years -/
def x_standings_in_0 : E := (.bin .add (.v 4) (.tup (.cons (.v 5) .nil)))
def b_standings_in_0 : Ss := (.cons (.ext 3 (.comp (.rng (.bin .add (.call n_most_of (.cons (.v 2) .nil)) (.c (.int 1)))) (.n 5) [5] (.c (.bl true)) x_standings_in_0)) .nil)
def b_standings_in_1 : Ss := (.cons (.own 3 (.lst .nil)) (.cons (.for (.seq (.v 1)) (.n 4) b_standings_in_0) (.cons (.frz 3) (.cons (.set 1 (.v 3)) .nil))))
def f_standings_in : Fn := ⟨1, 6, (.cons (.set 1 (.lst (.cons (.tup .nil) .nil))) (.cons (.for (.seq (.ix (.v 0) (.c (.int 0)))) (.n 2) b_standings_in_1) (.cons (.ret (.v 1)) .nil)))⟩
/-- all_standings(grounds): 0 grounds -/
def f_all_standings : Fn := ⟨1, 1, (.cons (.ex (.call n_need_grounds (.cons (.v 0) .nil))) (.cons (.ret (.call n_standings_in (.cons (.v 0) .nil))) .nil))⟩
/-- _law_box(_law_script, _law_k): 0 _law_script 1 _law_k 2 _law_cell -/
def f_l_box : Fn := ⟨2, 3, (.cons (.set 2 (.bin .add (.bin .mul (.c (.int 6151)) (.v 1)) (.c (.int 29)))) (.cons (.ite (.cmp .lt (.v 1) (.bi .len (.cons (.v 0) .nil))) (.cons (.set 2 (.ix (.v 0) (.v 1))) .nil) .nil) (.cons (.ite (.cmp .eq (.bin .mod (.v 2) (.c (.int 2))) (.c (.int 0))) (.cons (.ret (.mls (.cons (.bin .fdiv (.bi .abs (.cons (.v 2) .nil)) (.c (.int 2))) (.cons (.bin .add (.bin .add (.bin .mod (.v 2) (.c (.int 1000003))) (.bin .mul (.c (.int 7919)) (.v 1))) (.c (.int 1))) .nil)))) .nil) .nil) (.cons (.ret (.mls (.cons (.c (.int 0)) (.cons (.bin .add (.bin .add (.bin .mod (.v 2) (.c (.int 2147483563))) (.bin .mul (.c (.int 7919)) (.v 1))) (.c (.int 1))) .nil)))) .nil))))⟩
/-- _law_take(_law_box_here, _law_many): 0 _law_box_here 1 _law_many 2 _law_digit 3 _law_high -/
def f_l_take : Fn := ⟨2, 4, (.cons (.ite (.cmp .gt (.ix (.v 0) (.c (.int 0))) (.c (.int 0))) (.cons (.sd2 (.v 0) (.c (.int 0)) 2 (.bi .divmod (.cons (.ix (.v 0) (.c (.int 0))) (.cons (.v 1) .nil)))) (.cons (.ret (.v 2)) .nil)) .nil) (.cons (.sr (.v 0) (.c (.int 1)) (.bin .mod (.bin .add (.bin .mul (.ix (.v 0) (.c (.int 1))) (.c (.int 48271))) (.c (.int 11))) (.c (.int 2147483647)))) (.cons (.set 3 (.bin .add (.bin .fdiv (.ix (.v 0) (.c (.int 1))) (.c (.int 1009))) (.c (.int 1)))) (.cons (.ret (.bin .mod (.bin .fdiv (.bin .mod (.bin .mul (.bin .mul (.v 3) (.v 3)) (.v 3)) (.c (.int 2147483629))) (.c (.int 61))) (.v 1))) .nil))))⟩
/-- _law_word(_law_e): 0 _law_e 1 _law_kinds 2 _law_words -/
def f_l_word : Fn := ⟨1, 3, (.cons (.set 1 (.lst (.cons (.isx 1 (.v 0)) (.cons (.isx 2 (.v 0)) (.cons (.isx 3 (.v 0)) (.cons (.isx 4 (.v 0)) .nil)))))) (.cons (.set 1 (.bin .add (.v 1) (.lst (.cons (.isx 5 (.v 0)) (.cons (.isx 6 (.v 0)) (.cons (.isx 7 (.v 0)) (.cons (.isx 8 (.v 0)) .nil))))))) (.cons (.set 1 (.bin .add (.v 1) (.lst (.cons (.isx 9 (.v 0)) (.cons (.isx 10 (.v 0)) (.cons (.isx 11 (.v 0)) (.cons (.isx 12 (.v 0)) .nil))))))) (.cons (.set 1 (.bin .add (.v 1) (.lst (.cons (.isx 13 (.v 0)) (.cons (.isx 14 (.v 0)) (.cons (.isx 15 (.v 0)) (.cons (.isx 16 (.v 0)) .nil))))))) (.cons (.set 2 (.lst (.cons (.c (.str ⟨#[103, 114, 111, 117, 110, 100, 115]⟩)) (.cons (.c (.str ⟨#[115, 116, 97, 110, 100, 105, 110, 103]⟩)) (.cons (.c (.str ⟨#[99, 97, 116, 99, 104]⟩)) (.cons (.c (.str ⟨#[99, 111, 117, 114, 115, 101]⟩)) (.cons (.c (.str ⟨#[98, 101, 100]⟩)) (.cons (.c (.str ⟨#[110, 117, 109, 98, 101, 114]⟩)) (.cons (.c (.str ⟨#[98, 111, 111, 107]⟩)) (.cons (.c (.str ⟨#[100, 101, 101, 100]⟩)) (.cons (.c (.str ⟨#[116, 104, 101, 114, 101]⟩)) (.cons (.c (.str ⟨#[103, 111, 110, 101]⟩)) (.cons (.c (.str ⟨#[108, 97, 99, 107, 105, 110, 103]⟩)) .nil))))))))))))) (.cons (.ite (.or (.not (.isv (.v 0))) (.cmp .ne (.me .count (.v 1) (.c (.bl true))) (.c (.int 1)))) (.cons (.ret (.c (.str ⟨#[33, 32, 110, 111, 110, 101, 32, 111, 102, 32, 116, 104, 101, 109]⟩))) .nil) .nil) (.cons (.ite (.ix (.v 1) (.c (.int 15))) (.cons (.ret (.bin .add (.c (.str ⟨#[33, 32, 98, 114, 111, 107, 101, 110, 32]⟩)) (.bi .rep (.cons (.xat (.v 0)) .nil)))) .nil) .nil) (.cons (.ret (.bin .add (.c (.str ⟨#[33, 32]⟩)) (.ix (.bin .add (.v 2) (.lst (.cons (.c (.str ⟨#[110, 111, 116, 104, 105, 110, 103]⟩)) (.cons (.c (.str ⟨#[109, 97, 110, 121]⟩)) (.cons (.c (.str ⟨#[116, 101, 120, 116]⟩)) (.cons (.c (.str ⟨#[119, 111, 114, 100]⟩)) .nil)))))) (.me .index (.v 1) (.c (.bl true)))))) .nil))))))))⟩
/-- law(_law_script): 0 _law_script 1 _law_signs 2 _law_words 3 _law_k 4 _law_box_here 5 _law_text 6 _law_sign 7 _law_made 8 _law_word_here 9 _law_e 10 _law_year 11 _law_broken 12 _law_plain -/
def x_law_k10_2_0 : E := (.ix (.v 1) (.call n_l_take (.cons (.v 4) (.cons (.c (.int 96)) .nil))))
def b_law_k10_2_0 : Ss := (.cons (.ite (.or (.cmp .ne (.call n_l_word (.cons (.v 9) .nil)) (.bin .add (.c (.str ⟨#[33, 32]⟩)) (.v 8))) (.not (.isx 0 (.v 9)))) (.cons (.ret (.c (.bl false))) .nil) .nil) .nil)
def b_law_k10_2_1 : Ss := (.cons (.set 4 (.call n_l_box (.cons (.v 0) (.cons (.v 3) .nil)))) (.cons (.set 5 (.me .join (.c (.str ⟨#[]⟩)) (.comp (.rng (.call n_l_take (.cons (.v 4) (.cons (.c (.int 11)) .nil)))) (.n 6) [6] (.c (.bl true)) x_law_k10_2_0))) (.cons (.set 7 (.lst (.cons (.mkx 1 (.v 5)) (.cons (.mkx 2 (.v 5)) (.cons (.mkx 3 (.v 5)) (.cons (.mkx 4 (.v 5)) (.cons (.mkx 5 (.v 5)) (.cons (.mkx 6 (.v 5)) .nil)))))))) (.cons (.set 7 (.bin .add (.v 7) (.lst (.cons (.mkx 7 (.v 5)) (.cons (.mkx 8 (.v 5)) (.cons (.mkx 9 (.v 5)) (.cons (.mkx 10 (.v 5)) (.cons (.mkx 11 (.v 5)) (.cons (.mkx 12 (.v 5)) (.cons (.mkx 13 (.v 5)) .nil)))))))))) (.cons (.for (.zip (.v 2) (.bin .add (.v 7) (.lst (.cons (.mkx 14 (.v 5)) (.cons (.mkx 15 (.v 5)) .nil))))) (.t [8, 9]) b_law_k10_2_0) (.cons (.set 10 (.call n_l_take (.cons (.v 4) (.cons (.c (.int 150)) .nil)))) (.cons (.par 11 false 12 false (.mkb (.v 10)) (.mkx 0 (.v 5))) (.cons (.ite (.or (.cmp .ne (.call n_l_word (.cons (.v 11) .nil)) (.bin .add (.c (.str ⟨#[33, 32, 98, 114, 111, 107, 101, 110, 32]⟩)) (.bi .str (.cons (.v 10) .nil)))) (.not (.isx 0 (.v 11)))) (.cons (.ret (.c (.bl false))) .nil) .nil) (.cons (.ite (.or (.cmp .ne (.call n_l_word (.cons (.v 12) .nil)) (.c (.str ⟨#[33, 32, 110, 111, 110, 101, 32, 111, 102, 32, 116, 104, 101, 109]⟩))) (.not (.isv (.v 12)))) (.cons (.ret (.c (.bl false))) .nil) .nil) (.cons (.ite (.cmp .ne (.said (.call n_all_standings (.cons (.v 5) .nil))) (.c (.str ⟨#[33, 32, 103, 114, 111, 117, 110, 100, 115]⟩))) (.cons (.ret (.c (.bl false))) .nil) .nil) .nil))))))))))
def f_law_k10_2 : Fn := ⟨1, 13, (.cons (.set 1 (.c (.str ⟨#[32, 33, 34, 35, 36, 38, 39, 40, 41, 42, 43, 44, 45, 46, 47, 48, 49, 50, 51, 52, 53, 54, 55, 56, 57, 58, 59, 60, 61, 62, 63, 64, 65, 66, 67, 68, 69, 70, 71, 72, 73, 74, 75, 76, 77, 78, 79, 80, 81, 82, 83, 84, 85, 86, 87, 88, 89, 90, 91, 92, 93, 94, 95, 96, 97, 98, 99, 100, 101, 102, 103, 104, 105, 106, 107, 108, 109, 110, 111, 112, 113, 114, 115, 116, 117, 118, 119, 120, 121, 122, 123, 124, 125, 126, 10, 9]⟩))) (.cons (.set 2 (.lst (.cons (.c (.str ⟨#[103, 114, 111, 117, 110, 100, 115]⟩)) (.cons (.c (.str ⟨#[115, 116, 97, 110, 100, 105, 110, 103]⟩)) (.cons (.c (.str ⟨#[99, 97, 116, 99, 104]⟩)) (.cons (.c (.str ⟨#[99, 111, 117, 114, 115, 101]⟩)) (.cons (.c (.str ⟨#[98, 101, 100]⟩)) (.cons (.c (.str ⟨#[110, 117, 109, 98, 101, 114]⟩)) (.cons (.c (.str ⟨#[98, 111, 111, 107]⟩)) (.cons (.c (.str ⟨#[100, 101, 101, 100]⟩)) (.cons (.c (.str ⟨#[116, 104, 101, 114, 101]⟩)) (.cons (.c (.str ⟨#[103, 111, 110, 101]⟩)) (.cons (.c (.str ⟨#[108, 97, 99, 107, 105, 110, 103]⟩)) .nil))))))))))))) (.cons (.set 2 (.bin .add (.v 2) (.lst (.cons (.c (.str ⟨#[110, 111, 116, 104, 105, 110, 103]⟩)) (.cons (.c (.str ⟨#[109, 97, 110, 121]⟩)) (.cons (.c (.str ⟨#[116, 101, 120, 116]⟩)) (.cons (.c (.str ⟨#[119, 111, 114, 100]⟩)) .nil))))))) (.cons (.for (.rng (.bi .max2 (.cons (.c (.int 1)) (.cons (.bi .min2 (.cons (.bi .len (.cons (.v 0) .nil)) (.cons (.c (.int 4)) .nil))) .nil)))) (.n 3) b_law_k10_2_1) (.cons (.ret (.c (.bl true))) .nil)))))⟩
/-- every def by its number -/
def tab : List (Nat × Fn) := [(0, f_is_whole), (1, f_is_from_to), (2, f_is_bed), (3, f_most_of), (4, f_many_in), (5, f_is_grounds), (6, f_need_grounds), (7, f_standings_in), (8, f_all_standings), (9, f_l_box), (10, f_l_take), (231, f_l_word), (232, f_law_k10_2)]
def G (n : Nat) : Option Fn := tab.lookup n
end Tv
end

section
set_option maxHeartbeats 0
namespace K10
open PySem PySem.Spec PyProof.Rows L2 Tv
abbrev rowL : PySem.W.OpenLaw := PySem.Challenge.rw_shellturns_k10_classes_of_refusals
def top (i : Nat) : Stmt := PySem.Challenge.pw_shellturns_k10_classes_of_refusals.main.body.getD i (.Pass ⟨0, 0, 0, 0⟩)
def dfn (x : Str) (i : Nat) (dl : List He.Dv := []) : He.DefD := ⟨(x, none), x, x, defArgs (top i), defBody (top i), defScope (top i), dl, []⟩
def inC (i j : Nat) : Stmt := match top i with | .ClassDef _ _ _ b _ _ _ _ _ _ _ => b.getD j (.Pass ⟨0, 0, 0, 0⟩) | _ => .Pass ⟨0, 0, 0, 0⟩
def dfm (C mm q : Str) (i j : Nat) (dl : List He.Dv := []) : He.DefD := ⟨(C, some mm), mm, q, defArgs (inC i j), defBody (inC i j), defScope (inC i j), dl, []⟩
def glob : List (Str × GV) := [("MOST_BEDS", .i 4), ("MOST_REST", .i 3), ("MOST_YIELDS", .i 3), ("MOST_YIELD", .i 99), ("MOST_STANDINGS", .i 120)]
def excs : List (Str × Nat) := [("NoGrounds", 1), ("NoStanding", 2), ("NoCatch", 3), ("NoCourse", 4), ("NoBed", 5), ("NoNumber", 6), ("NoBook", 7), ("NoDeed", 8), ("There", 9), ("Gone", 10), ("Lacking", 11), ("Nothing", 12), ("TooMany", 13), ("NoText", 14), ("NoWord", 15)]
def lo0 : List Str := ["TurnError", "NoGrounds", "NoStanding", "NoCatch", "NoCourse", "NoBed", "NoNumber", "NoBook", "NoDeed", "There", "Gone", "Lacking", "Nothing", "TooMany", "NoText", "NoWord", "Broken", "MOST_BEDS", "MOST_REST", "MOST_YIELDS", "MOST_YIELD", "MOST_STANDINGS", "is_whole", "is_from_to", "is_bed", "most_of", "many_in", "is_grounds", "need_grounds", "standings_in"]
def lo1 : List Str := ["all_standings", "_law_box", "_law_take", "_law_word", "_law_said"]
def loose : List Str := lo0 ++ lo1
abbrev Rw : PySem.W.OpenRow := PySem.W.OpenLaw.row rowL
abbrev qv : Program := PySem.W.view Rw.prog [38]
def inB : Stmt := match top 17 with | .ClassDef _ _ _ b _ _ _ _ _ _ _ => b.getD 0 (.Pass ⟨0, 0, 0, 0⟩) | _ => .Pass ⟨0, 0, 0, 0⟩
def dB : He.DefD := ⟨("Broken", some "__init__"), "__init__", "Broken.__init__", defArgs inB, defBody inB, defScope inB, [], []⟩
def sx : SdI := ⟨true, dfn "_law_said" 37, dfn "_law_word" 36, dB, true⟩
def tf : List He.Defn := [("law", none)]
def exs : ExV := exV_ sx glob excs tf
def ent (x : Str) (i : Nat) (N ps : List Str) (k : Nat) (f : Fn) (sd bk : Bool) (dl : List He.Dv := []) : Ent := ⟨dfn x i dl, N, ps, k, f, sd, bk⟩
def entM (C mm q : Str) (i j : Nat) (N ps : List Str) (k : Nat) (f : Fn) (sd bk : Bool) (dl : List He.Dv := []) : Ent := ⟨dfm C mm q i j dl, N, ps, k, f, sd, bk⟩
def es0 : List Ent := [
  ent "is_whole" 24 ["thing"] ["thing"] 0 f_is_whole false false,
  ent "is_from_to" 25 ["thing", "least", "most"] ["thing", "least", "most"] 1 f_is_from_to false false,
  ent "is_bed" 26 ["thing", "baskets"] ["thing"] 2 f_is_bed false false,
  ent "most_of" 27 ["bed"] ["bed"] 3 f_most_of false false,
  ent "many_in" 28 ["beds", "found", "bed"] ["beds"] 4 f_many_in false false,
  ent "is_grounds" 29 ["thing", "bed"] ["thing"] 5 f_is_grounds false false,
  ent "need_grounds" 30 ["thing"] ["thing"] 6 f_need_grounds false false,
  ent "standings_in" 31 ["grounds", "found", "bed", "longer", "row", "years"] ["grounds"] 7 f_standings_in false false,
  ent "all_standings" 32 ["grounds"] ["grounds"] 8 f_all_standings false false,
  ent "_law_box" 34 ["_law_script", "_law_k", "_law_cell"] ["_law_script", "_law_k"] 9 f_l_box false false,
  ent "_law_take" 35 ["_law_box_here", "_law_many", "_law_digit", "_law_high"] ["_law_box_here", "_law_many"] 10 f_l_take false false,
  ent "_law_word" 36 ["_law_e", "_law_kinds", "_law_words"] ["_law_e"] 231 f_l_word false false,
  ent "law" 38 ["_law_script", "_law_signs", "_law_words", "_law_k", "_law_box_here", "_law_text", "_law_sign", "_law_made", "_law_word_here", "_law_e", "_law_year", "_law_broken", "_law_plain"] ["_law_script"] 232 f_law_k10_2 true true]
def es : List Ent := es0
def fa : List He.Fa := faOf es glob excs ++ sx.fa
def fn : List He.DefD := es.map (·.d) ++ sx.ds
abbrev hk : PySem.W.Hook := hookV 5 fa fn tf exs
theorem run (w : World) : HandSHeadRun.RunEq Rw qv hk (obV 5 fa fn tf exs) 8000 loose w := by
  intro os
  kernel_rfl
theorem sdOk : sdB sx es excs tf = true := by kernel_rfl
theorem bS : sx.on = true → BindD sx.dS [wC] := fun _ _ _ _ _ _ _ us hl => match us, hl with | [_], _ => rfl
theorem bW : sx.on = true → BindD sx.dW [wE] := fun _ _ _ _ _ _ _ us hl => match us, hl with | [_], _ => rfl
theorem bB : sx.on = true → BindD sx.dB [bSelf, bAt] := fun _ _ _ _ _ _ _ us hl => match us, hl with | [_, _], _ => rfl
theorem cks : (es.all fun e => plainE e && entB (defsOf es) glob excs (dflOf es) (insOf es) e) = true := by kernel_rfl
theorem b_is_whole : BindE (ent "is_whole" 24 ["thing"] ["thing"] 0 f_is_whole false false) := ⟨fun _ _ _ _ _ _ _ us hl => match us, hl with | [_], _ => rfl, fun h => (h rfl).elim⟩
theorem b_is_from_to : BindE (ent "is_from_to" 25 ["thing", "least", "most"] ["thing", "least", "most"] 1 f_is_from_to false false) := ⟨fun _ _ _ _ _ _ _ us hl => match us, hl with | [_, _, _], _ => rfl, fun h => (h rfl).elim⟩
theorem b_is_bed : BindE (ent "is_bed" 26 ["thing", "baskets"] ["thing"] 2 f_is_bed false false) := ⟨fun _ _ _ _ _ _ _ us hl => match us, hl with | [_], _ => rfl, fun h => (h rfl).elim⟩
theorem b_most_of : BindE (ent "most_of" 27 ["bed"] ["bed"] 3 f_most_of false false) := ⟨fun _ _ _ _ _ _ _ us hl => match us, hl with | [_], _ => rfl, fun h => (h rfl).elim⟩
theorem b_many_in : BindE (ent "many_in" 28 ["beds", "found", "bed"] ["beds"] 4 f_many_in false false) := ⟨fun _ _ _ _ _ _ _ us hl => match us, hl with | [_], _ => rfl, fun h => (h rfl).elim⟩
theorem b_is_grounds : BindE (ent "is_grounds" 29 ["thing", "bed"] ["thing"] 5 f_is_grounds false false) := ⟨fun _ _ _ _ _ _ _ us hl => match us, hl with | [_], _ => rfl, fun h => (h rfl).elim⟩
theorem b_need_grounds : BindE (ent "need_grounds" 30 ["thing"] ["thing"] 6 f_need_grounds false false) := ⟨fun _ _ _ _ _ _ _ us hl => match us, hl with | [_], _ => rfl, fun h => (h rfl).elim⟩
theorem b_standings_in : BindE (ent "standings_in" 31 ["grounds", "found", "bed", "longer", "row", "years"] ["grounds"] 7 f_standings_in false false) := ⟨fun _ _ _ _ _ _ _ us hl => match us, hl with | [_], _ => rfl, fun h => (h rfl).elim⟩
theorem b_all_standings : BindE (ent "all_standings" 32 ["grounds"] ["grounds"] 8 f_all_standings false false) := ⟨fun _ _ _ _ _ _ _ us hl => match us, hl with | [_], _ => rfl, fun h => (h rfl).elim⟩
theorem b__law_box : BindE (ent "_law_box" 34 ["_law_script", "_law_k", "_law_cell"] ["_law_script", "_law_k"] 9 f_l_box false false) := ⟨fun _ _ _ _ _ _ _ us hl => match us, hl with | [_, _], _ => rfl, fun h => (h rfl).elim⟩
theorem b__law_take : BindE (ent "_law_take" 35 ["_law_box_here", "_law_many", "_law_digit", "_law_high"] ["_law_box_here", "_law_many"] 10 f_l_take false false) := ⟨fun _ _ _ _ _ _ _ us hl => match us, hl with | [_, _], _ => rfl, fun h => (h rfl).elim⟩
theorem b__law_word : BindE (ent "_law_word" 36 ["_law_e", "_law_kinds", "_law_words"] ["_law_e"] 231 f_l_word false false) := ⟨fun _ _ _ _ _ _ _ us hl => match us, hl with | [_], _ => rfl, fun h => (h rfl).elim⟩
theorem b_law : BindE (ent "law" 38 ["_law_script", "_law_signs", "_law_words", "_law_k", "_law_box_here", "_law_text", "_law_sign", "_law_made", "_law_word_here", "_law_e", "_law_year", "_law_broken", "_law_plain"] ["_law_script"] 232 f_law_k10_2 true true) := ⟨fun _ _ _ _ _ _ _ us hl => match us, hl with | [_], _ => rfl, fun h => (h rfl).elim⟩
theorem bs0 : ∀ e ∈ es0, BindE e := by
  intro e he
  simp only [es0, List.mem_cons, List.not_mem_nil, or_false] at he
  rcases he with rfl | rfl | rfl | rfl | rfl | rfl | rfl | rfl | rfl | rfl | rfl | rfl | rfl
  · exact b_is_whole
  · exact b_is_from_to
  · exact b_is_bed
  · exact b_most_of
  · exact b_many_in
  · exact b_is_grounds
  · exact b_need_grounds
  · exact b_standings_in
  · exact b_all_standings
  · exact b__law_box
  · exact b__law_take
  · exact b__law_word
  · exact b_law
theorem bs : ∀ e ∈ es, BindE e := by
  intro e he
  simp only [es, List.mem_append] at he
  exact bs0 e he
theorem gs0 : ∀ e ∈ es0, G e.num = some e.fn := by
  intro e he
  simp only [es0, List.mem_cons, List.not_mem_nil, or_false] at he
  rcases he with rfl | rfl | rfl | rfl | rfl | rfl | rfl | rfl | rfl | rfl | rfl | rfl | rfl
  · exact rfl
  · exact rfl
  · exact rfl
  · exact rfl
  · exact rfl
  · exact rfl
  · exact rfl
  · exact rfl
  · exact rfl
  · exact rfl
  · exact rfl
  · exact rfl
  · exact rfl
theorem gs : ∀ e ∈ es, G e.num = some e.fn := by
  intro e he
  simp only [es, List.mem_append] at he
  exact gs0 e he
theorem one : ∀ p ∈ excs, (excs.find? fun q => q.2 == p.2) = some p := by decide +kernel
abbrev steps : Nat := 8000
theorem atLaw : entOf es "law" = some (ent "law" 38 ["_law_script", "_law_signs", "_law_words", "_law_k", "_law_box_here", "_law_text", "_law_sign", "_law_made", "_law_word_here", "_law_e", "_law_year", "_law_broken", "_law_plain"] ["_law_script"] 232 f_law_k10_2 true true) := by kernel_rfl
theorem lawAt : (defsOf es).lookup ("law" : Str) = some (n_law_k10_2, 1) := by kernel_rfl
end K10
end

section
set_option autoImplicit false
set_option maxHeartbeats 1000000
/-! Running trees by rewriting. -/
namespace Tv
open PySem
abbrev Kvs := List (D × D)
abbrev Szs := List (Str × Int)
section
variable {cl : Nat → List D → Hs → R D}
@[simp] theorem e_c {d : D} {e : Ev} {h : Hs} : evE cl (.c d) e h = .ok d h := id rfl
@[simp] theorem e_g {x : Str} {d : D} {e : Ev} {h : Hs} : evE cl (.g x d) e h = .ok d h := id rfl
@[simp] theorem e_v {i : Nat} {e : Ev} {h : Hs} : evE cl (.v i) e h = R.of (evV e i) h := id rfl
def kBin2 (cl : Nat → List D → Hs → R D) (o : Bop) (y : D) (r : R (D)) : R (D) := r.bind fun x h => R.of (dBin o y x) h
@[simp] theorem kBin2_ok {o : Bop} {y : D} {x : D} {h : Hs} : kBin2 cl o y (.ok x h) = R.of (dBin o y x) h := id rfl
@[simp] theorem kBin2_exc {o : Bop} {y : D} {x : D} {h : Hs} : kBin2 cl o y (.exc x h) = .exc x h := id rfl
def kBin (cl : Nat → List D → Hs → R D) (o : Bop) (b : E) (e : Ev) (r : R (D)) : R (D) := r.bind fun x h => kBin2 cl o x (evE cl b e h)
@[simp] theorem kBin_ok {o : Bop} {b : E} {e : Ev} {x : D} {h : Hs} : kBin cl o b e (.ok x h) = kBin2 cl o x (evE cl b e h) := id rfl
@[simp] theorem kBin_exc {o : Bop} {b : E} {e : Ev} {x : D} {h : Hs} : kBin cl o b e (.exc x h) = .exc x h := id rfl
@[simp] theorem e_bin {o : Bop} {a b : E} {e : Ev} {h : Hs} : evE cl (.bin o a b) e h = kBin cl o b e (evE cl a e h) := id rfl
def negR (x : D) (h : Hs) : R D := match x with | .int i => .ok (.int (-i)) h | _ => .bad
@[simp] theorem negR_int {i : Int} {h : Hs} : negR (.int i) h = .ok (.int (-i)) h := id rfl
def kNeg (cl : Nat → List D → Hs → R D)  (r : R (D)) : R (D) := r.bind fun x h => negR x h
@[simp] theorem kNeg_ok  {x : D} {h : Hs} : kNeg cl  (.ok x h) = negR x h := id rfl
@[simp] theorem kNeg_exc  {x : D} {h : Hs} : kNeg cl  (.exc x h) = .exc x h := id rfl
@[simp] theorem e_neg {a : E} {e : Ev} {h : Hs} : evE cl (.neg a) e h = kNeg cl (evE cl a e h) := id rfl
def kNot (cl : Nat → List D → Hs → R D)  (r : R (D)) : R (D) := r.bind fun x h => R.of (x.tru.map fun b => .bl (!b)) h
@[simp] theorem kNot_ok  {x : D} {h : Hs} : kNot cl  (.ok x h) = R.of (x.tru.map fun b => .bl (!b)) h := id rfl
@[simp] theorem kNot_exc  {x : D} {h : Hs} : kNot cl  (.exc x h) = .exc x h := id rfl
@[simp] theorem e_not {a : E} {e : Ev} {h : Hs} : evE cl (.not a) e h = kNot cl (evE cl a e h) := id rfl
def cAnd (cl : Nat → List D → Hs → R D) (b : E) (e : Ev) (x : D) (h : Hs) (o : Option Bool) : R (D) := match o with | some true => evE cl b e h | some false => .ok x h | none => .bad
@[simp] theorem cAnd_t {b : E} {e : Ev} {x : D} {h : Hs} : cAnd cl b e x h (some true) = evE cl b e h := id rfl
@[simp] theorem cAnd_f {b : E} {e : Ev} {x : D} {h : Hs} : cAnd cl b e x h (some false) = .ok x h := id rfl
def cOr (cl : Nat → List D → Hs → R D) (b : E) (e : Ev) (x : D) (h : Hs) (o : Option Bool) : R (D) := match o with | some true => .ok x h | some false => evE cl b e h | none => .bad
@[simp] theorem cOr_t {b : E} {e : Ev} {x : D} {h : Hs} : cOr cl b e x h (some true) = .ok x h := id rfl
@[simp] theorem cOr_f {b : E} {e : Ev} {x : D} {h : Hs} : cOr cl b e x h (some false) = evE cl b e h := id rfl
def cIte (cl : Nat → List D → Hs → R D) (a : E) (b : E) (e : Ev) (h : Hs) (o : Option Bool) : R (D) := match o with | some true => evE cl a e h | some false => evE cl b e h | none => .bad
@[simp] theorem cIte_t {a : E} {b : E} {e : Ev} {h : Hs} : cIte cl a b e h (some true) = evE cl a e h := id rfl
@[simp] theorem cIte_f {a : E} {b : E} {e : Ev} {h : Hs} : cIte cl a b e h (some false) = evE cl b e h := id rfl
def kAnd (cl : Nat → List D → Hs → R D) (b : E) (e : Ev) (r : R (D)) : R (D) := r.bind fun x h => cAnd cl b e x h x.tru
@[simp] theorem kAnd_ok {b : E} {e : Ev} {x : D} {h : Hs} : kAnd cl b e (.ok x h) = cAnd cl b e x h x.tru := id rfl
@[simp] theorem kAnd_exc {b : E} {e : Ev} {x : D} {h : Hs} : kAnd cl b e (.exc x h) = .exc x h := id rfl
def kOr (cl : Nat → List D → Hs → R D) (b : E) (e : Ev) (r : R (D)) : R (D) := r.bind fun x h => cOr cl b e x h x.tru
@[simp] theorem kOr_ok {b : E} {e : Ev} {x : D} {h : Hs} : kOr cl b e (.ok x h) = cOr cl b e x h x.tru := id rfl
@[simp] theorem kOr_exc {b : E} {e : Ev} {x : D} {h : Hs} : kOr cl b e (.exc x h) = .exc x h := id rfl
def kIte (cl : Nat → List D → Hs → R D) (a : E) (b : E) (e : Ev) (r : R (D)) : R (D) := r.bind fun x h => cIte cl a b e h x.tru
@[simp] theorem kIte_ok {a : E} {b : E} {e : Ev} {x : D} {h : Hs} : kIte cl a b e (.ok x h) = cIte cl a b e h x.tru := id rfl
@[simp] theorem kIte_exc {a : E} {b : E} {e : Ev} {x : D} {h : Hs} : kIte cl a b e (.exc x h) = .exc x h := id rfl
@[simp] theorem e_and {a b : E} {e : Ev} {h : Hs} : evE cl (.and a b) e h = kAnd cl b e (evE cl a e h) := id rfl
@[simp] theorem e_or {a b : E} {e : Ev} {h : Hs} : evE cl (.or a b) e h = kOr cl b e (evE cl a e h) := id rfl
@[simp] theorem e_ite {c a b : E} {e : Ev} {h : Hs} : evE cl (.ite c a b) e h = kIte cl a b e (evE cl c e h) := id rfl
def kCmp2 (cl : Nat → List D → Hs → R D) (o : Cop) (y : D) (r : R (D)) : R (D) := r.bind fun x h => R.of ((dCmp o y x).map .bl) h
@[simp] theorem kCmp2_ok {o : Cop} {y : D} {x : D} {h : Hs} : kCmp2 cl o y (.ok x h) = R.of ((dCmp o y x).map .bl) h := id rfl
@[simp] theorem kCmp2_exc {o : Cop} {y : D} {x : D} {h : Hs} : kCmp2 cl o y (.exc x h) = .exc x h := id rfl
def kCmp (cl : Nat → List D → Hs → R D) (o : Cop) (b : E) (e : Ev) (r : R (D)) : R (D) := r.bind fun x h => kCmp2 cl o x (evE cl b e h)
@[simp] theorem kCmp_ok {o : Cop} {b : E} {e : Ev} {x : D} {h : Hs} : kCmp cl o b e (.ok x h) = kCmp2 cl o x (evE cl b e h) := id rfl
@[simp] theorem kCmp_exc {o : Cop} {b : E} {e : Ev} {x : D} {h : Hs} : kCmp cl o b e (.exc x h) = .exc x h := id rfl
@[simp] theorem e_cmp {o : Cop} {a b : E} {e : Ev} {h : Hs} : evE cl (.cmp o a b) e h = kCmp cl o b e (evE cl a e h) := id rfl
def cChn (cl : Nat → List D → Hs → R D) (p : Cop) (c : E) (e : Ev) (y : D) (h : Hs) (o : Option Bool) : R (D) := match o with | some true => kCmp2 cl p y (evE cl c e h) | some false => .ok (.bl false) h | none => .bad
@[simp] theorem cChn_t {p : Cop} {c : E} {e : Ev} {y : D} {h : Hs} : cChn cl p c e y h (some true) = kCmp2 cl p y (evE cl c e h) := id rfl
@[simp] theorem cChn_f {p : Cop} {c : E} {e : Ev} {y : D} {h : Hs} : cChn cl p c e y h (some false) = .ok (.bl false) h := id rfl
def kChn2 (cl : Nat → List D → Hs → R D) (o : Cop) (p : Cop) (c : E) (e : Ev) (z : D) (r : R (D)) : R (D) := r.bind fun x h => cChn cl p c e x h (dCmp o z x)
@[simp] theorem kChn2_ok {o : Cop} {p : Cop} {c : E} {e : Ev} {z : D} {x : D} {h : Hs} : kChn2 cl o p c e z (.ok x h) = cChn cl p c e x h (dCmp o z x) := id rfl
@[simp] theorem kChn2_exc {o : Cop} {p : Cop} {c : E} {e : Ev} {z : D} {x : D} {h : Hs} : kChn2 cl o p c e z (.exc x h) = .exc x h := id rfl
def kChn (cl : Nat → List D → Hs → R D) (o : Cop) (p : Cop) (b : E) (c : E) (e : Ev) (r : R (D)) : R (D) := r.bind fun x h => kChn2 cl o p c e x (evE cl b e h)
@[simp] theorem kChn_ok {o : Cop} {p : Cop} {b : E} {c : E} {e : Ev} {x : D} {h : Hs} : kChn cl o p b c e (.ok x h) = kChn2 cl o p c e x (evE cl b e h) := id rfl
@[simp] theorem kChn_exc {o : Cop} {p : Cop} {b : E} {c : E} {e : Ev} {x : D} {h : Hs} : kChn cl o p b c e (.exc x h) = .exc x h := id rfl
@[simp] theorem e_chn {o p : Cop} {a b c : E} {e : Ev} {h : Hs} : evE cl (.chn o p a b c) e h = kChn cl o p b c e (evE cl a e h) := id rfl
def kCall (cl : Nat → List D → Hs → R D) (f : Nat) (r : R (List D)) : R (D) := r.bind fun x h => cl f x h
@[simp] theorem kCall_ok {f : Nat} {x : List D} {h : Hs} : kCall cl f (.ok x h) = cl f x h := id rfl
@[simp] theorem kCall_exc {f : Nat} {x : D} {h : Hs} : kCall cl f (.exc x h) = .exc x h := id rfl
def kCld (cl : Nat → List D → Hs → R D) (f : Nat) (i : Int) (r : R (List D)) : R (D) := r.bind fun x h => cl f (x ++ [.int i]) h
@[simp] theorem kCld_ok {f : Nat} {i : Int} {x : List D} {h : Hs} : kCld cl f i (.ok x h) = cl f (x ++ [.int i]) h := id rfl
@[simp] theorem kCld_exc {f : Nat} {i : Int} {x : D} {h : Hs} : kCld cl f i (.exc x h) = .exc x h := id rfl
@[simp] theorem e_cld {f : Nat} {es : Es} {i : Int} {e : Ev} {h : Hs} : evE cl (.cld f es i) e h = kCld cl f i (evEs cl es e h) := id rfl
@[simp] theorem e_call {f : Nat} {es : Es} {e : Ev} {h : Hs} : evE cl (.call f es) e h = kCall cl f (evEs cl es e h) := id rfl
def kBi (cl : Nat → List D → Hs → R D) (b : Bi) (r : R (List D)) : R (D) := r.bind fun x h => R.of (dBi b x) h
@[simp] theorem kBi_ok {b : Bi} {x : List D} {h : Hs} : kBi cl b (.ok x h) = R.of (dBi b x) h := id rfl
@[simp] theorem kBi_exc {b : Bi} {x : D} {h : Hs} : kBi cl b (.exc x h) = .exc x h := id rfl
@[simp] theorem e_bi {b : Bi} {es : Es} {e : Ev} {h : Hs} : evE cl (.bi b es) e h = kBi cl b (evEs cl es e h) := id rfl
def kMe2 (cl : Nat → List D → Hs → R D) (m : Bi) (y : D) (r : R (D)) : R (D) := r.bind fun x h => R.of (dBi m [y, x]) h
@[simp] theorem kMe2_ok {m : Bi} {y : D} {x : D} {h : Hs} : kMe2 cl m y (.ok x h) = R.of (dBi m [y, x]) h := id rfl
@[simp] theorem kMe2_exc {m : Bi} {y : D} {x : D} {h : Hs} : kMe2 cl m y (.exc x h) = .exc x h := id rfl
def cMe (cl : Nat → List D → Hs → R D) (m : Bi) (b : E) (e : Ev) (x : D) (h : Hs) (o : Bool) : R D := if o then kMe2 cl m x (evE cl b e h) else .bad
def kMe (cl : Nat → List D → Hs → R D) (m : Bi) (b : E) (e : Ev) (r : R (D)) : R (D) := r.bind fun x h => cMe cl m b e x h (rcvOk m x)
@[simp] theorem kMe_ok {m : Bi} {b : E} {e : Ev} {x : D} {h : Hs} : kMe cl m b e (.ok x h) = cMe cl m b e x h (rcvOk m x) := id rfl
@[simp] theorem kMe_exc {m : Bi} {b : E} {e : Ev} {x : D} {h : Hs} : kMe cl m b e (.exc x h) = .exc x h := id rfl
@[simp] theorem cMe_t {m : Bi} {b : E} {e : Ev} {x : D} {h : Hs} : cMe cl m b e x h true = kMe2 cl m x (evE cl b e h) := id rfl
@[simp] theorem e_me {m : Bi} {a b : E} {e : Ev} {h : Hs} : evE cl (.me m a b) e h = kMe cl m b e (evE cl a e h) := id rfl
def kIsi (cl : Nat → List D → Hs → R D) (t : Ty) (r : R (D)) : R (D) := r.bind fun x h => R.of ((dIsi t x).map .bl) h
@[simp] theorem kIsi_ok {t : Ty} {x : D} {h : Hs} : kIsi cl t (.ok x h) = R.of ((dIsi t x).map .bl) h := id rfl
@[simp] theorem kIsi_exc {t : Ty} {x : D} {h : Hs} : kIsi cl t (.exc x h) = .exc x h := id rfl
@[simp] theorem e_isi {a : E} {t : Ty} {e : Ev} {h : Hs} : evE cl (.isi a t) e h = kIsi cl t (evE cl a e h) := id rfl
/-- a subscript -/
def ixR (x y : D) (h : Hs) : R D := match x with
  | .ref i => (match h[i]? with
    | some (.lst xs) => (match y with
      | .int j => R.of (L2.atI xs j) h
      | _ => .bad)
    | _ => .bad)
  | x => R.of (dIx x y) h
@[simp] theorem ixR_tup {xs : List D} {y : D} {h : Hs} : ixR (.tup xs) y h = R.of (dIx (.tup xs) y) h := id rfl
@[simp] theorem ixR_lst {xs : List D} {y : D} {h : Hs} : ixR (.lst xs) y h = R.of (dIx (.lst xs) y) h := id rfl
@[simp] theorem ixR_bor {xs : List D} {y : D} {h : Hs} : ixR (.bor xs) y h = R.of (dIx (.bor xs) y) h := id rfl
@[simp] theorem ixR_scr {xs : List D} {y : D} {h : Hs} : ixR (.scr xs) y h = R.of (dIx (.scr xs) y) h := id rfl
@[simp] theorem ixR_str {xs : Str} {y : D} {h : Hs} : ixR (.str xs) y h = R.of (dIx (.str xs) y) h := id rfl
def kIx2 (cl : Nat → List D → Hs → R D) (y : D) (r : R (D)) : R (D) := r.bind fun x h => ixR y x h
@[simp] theorem kIx2_ok {y : D} {x : D} {h : Hs} : kIx2 cl y (.ok x h) = ixR y x h := id rfl
@[simp] theorem kIx2_exc {y : D} {x : D} {h : Hs} : kIx2 cl y (.exc x h) = .exc x h := id rfl
def kIx (cl : Nat → List D → Hs → R D) (b : E) (e : Ev) (r : R (D)) : R (D) := r.bind fun x h => kIx2 cl x (evE cl b e h)
@[simp] theorem kIx_ok {b : E} {e : Ev} {x : D} {h : Hs} : kIx cl b e (.ok x h) = kIx2 cl x (evE cl b e h) := id rfl
@[simp] theorem kIx_exc {b : E} {e : Ev} {x : D} {h : Hs} : kIx cl b e (.exc x h) = .exc x h := id rfl
@[simp] theorem e_ix {a b : E} {e : Ev} {h : Hs} : evE cl (.ix a b) e h = kIx cl b e (evE cl a e h) := id rfl
def slfR (x y : D) (h : Hs) : R D := match y with | .int i => R.of (dSl x (some i) none) h | _ => .bad
def sltR (x y : D) (h : Hs) : R D := match y with | .int i => R.of (dSl x none (some i)) h | _ => .bad
@[simp] theorem slfR_int {x : D} {i : Int} {h : Hs} : slfR x (.int i) h = R.of (dSl x (some i) none) h := id rfl
@[simp] theorem sltR_int {x : D} {i : Int} {h : Hs} : sltR x (.int i) h = R.of (dSl x none (some i)) h := id rfl
def kSlf2 (cl : Nat → List D → Hs → R D) (y : D) (r : R (D)) : R (D) := r.bind fun x h => slfR y x h
@[simp] theorem kSlf2_ok {y : D} {x : D} {h : Hs} : kSlf2 cl y (.ok x h) = slfR y x h := id rfl
@[simp] theorem kSlf2_exc {y : D} {x : D} {h : Hs} : kSlf2 cl y (.exc x h) = .exc x h := id rfl
def kSlf (cl : Nat → List D → Hs → R D) (b : E) (e : Ev) (r : R (D)) : R (D) := r.bind fun x h => kSlf2 cl x (evE cl b e h)
@[simp] theorem kSlf_ok {b : E} {e : Ev} {x : D} {h : Hs} : kSlf cl b e (.ok x h) = kSlf2 cl x (evE cl b e h) := id rfl
@[simp] theorem kSlf_exc {b : E} {e : Ev} {x : D} {h : Hs} : kSlf cl b e (.exc x h) = .exc x h := id rfl
@[simp] theorem e_slf {a b : E} {e : Ev} {h : Hs} : evE cl (.slf a b) e h = kSlf cl b e (evE cl a e h) := id rfl
def kSlt2 (cl : Nat → List D → Hs → R D) (y : D) (r : R (D)) : R (D) := r.bind fun x h => sltR y x h
@[simp] theorem kSlt2_ok {y : D} {x : D} {h : Hs} : kSlt2 cl y (.ok x h) = sltR y x h := id rfl
@[simp] theorem kSlt2_exc {y : D} {x : D} {h : Hs} : kSlt2 cl y (.exc x h) = .exc x h := id rfl
def kSlt (cl : Nat → List D → Hs → R D) (b : E) (e : Ev) (r : R (D)) : R (D) := r.bind fun x h => kSlt2 cl x (evE cl b e h)
@[simp] theorem kSlt_ok {b : E} {e : Ev} {x : D} {h : Hs} : kSlt cl b e (.ok x h) = kSlt2 cl x (evE cl b e h) := id rfl
@[simp] theorem kSlt_exc {b : E} {e : Ev} {x : D} {h : Hs} : kSlt cl b e (.exc x h) = .exc x h := id rfl
@[simp] theorem e_slt {a b : E} {e : Ev} {h : Hs} : evE cl (.slt a b) e h = kSlt cl b e (evE cl a e h) := id rfl
def slI (cl : Nat → List D → Hs → R D) (c : E) (e : Ev) (x y : D) (h : Hs) : R D := match y with | .int i => (evE cl c e h).bind fun z h => (match z with | .int j => R.of (dSl x (some i) (some j)) h | _ => .bad) | _ => .bad
def slJ (x : D) (i : Int) (z : D) (h : Hs) : R D := match z with | .int j => R.of (dSl x (some i) (some j)) h | _ => .bad
@[simp] theorem slJ_int {x : D} {i j : Int} {h : Hs} : slJ x i (.int j) h = R.of (dSl x (some i) (some j)) h := id rfl
def kSl3 (cl : Nat → List D → Hs → R D) (y : D) (i : Int) (r : R (D)) : R (D) := r.bind fun x h => slJ y i x h
@[simp] theorem kSl3_ok {y : D} {i : Int} {x : D} {h : Hs} : kSl3 cl y i (.ok x h) = slJ y i x h := id rfl
@[simp] theorem kSl3_exc {y : D} {i : Int} {x : D} {h : Hs} : kSl3 cl y i (.exc x h) = .exc x h := id rfl
@[simp] theorem slI_int {c : E} {e : Ev} {x : D} {i : Int} {h : Hs} : slI cl c e x (.int i) h = kSl3 cl x i (evE cl c e h) := id rfl
def kSl2 (cl : Nat → List D → Hs → R D) (c : E) (e : Ev) (y : D) (r : R (D)) : R (D) := r.bind fun x h => slI cl c e y x h
@[simp] theorem kSl2_ok {c : E} {e : Ev} {y : D} {x : D} {h : Hs} : kSl2 cl c e y (.ok x h) = slI cl c e y x h := id rfl
@[simp] theorem kSl2_exc {c : E} {e : Ev} {y : D} {x : D} {h : Hs} : kSl2 cl c e y (.exc x h) = .exc x h := id rfl
def kSl (cl : Nat → List D → Hs → R D) (b : E) (c : E) (e : Ev) (r : R (D)) : R (D) := r.bind fun x h => kSl2 cl c e x (evE cl b e h)
@[simp] theorem kSl_ok {b : E} {c : E} {e : Ev} {x : D} {h : Hs} : kSl cl b c e (.ok x h) = kSl2 cl c e x (evE cl b e h) := id rfl
@[simp] theorem kSl_exc {b : E} {c : E} {e : Ev} {x : D} {h : Hs} : kSl cl b c e (.exc x h) = .exc x h := id rfl
@[simp] theorem e_sl {a b c : E} {e : Ev} {h : Hs} : evE cl (.sl a b c) e h = kSl cl b c e (evE cl a e h) := id rfl
def kRev (cl : Nat → List D → Hs → R D)  (r : R (D)) : R (D) := r.bind fun x h => R.of (dRev x) h
@[simp] theorem kRev_ok  {x : D} {h : Hs} : kRev cl  (.ok x h) = R.of (dRev x) h := id rfl
@[simp] theorem kRev_exc  {x : D} {h : Hs} : kRev cl  (.exc x h) = .exc x h := id rfl
@[simp] theorem e_rev {a : E} {e : Ev} {h : Hs} : evE cl (.rev a) e h = kRev cl (evE cl a e h) := id rfl
def kTup (cl : Nat → List D → Hs → R D)  (r : R (List D)) : R (D) := r.bind fun x h => if x.all D.keep then .ok (.tup x) h else .bad
@[simp] theorem kTup_ok  {x : List D} {h : Hs} : kTup cl  (.ok x h) = if x.all D.keep then .ok (.tup x) h else .bad := id rfl
@[simp] theorem kTup_exc  {x : D} {h : Hs} : kTup cl  (.exc x h) = .exc x h := id rfl
@[simp] theorem e_tup {es : Es} {e : Ev} {h : Hs} : evE cl (.tup es) e h = kTup cl (evEs cl es e h) := id rfl
def kLst (cl : Nat → List D → Hs → R D)  (r : R (List D)) : R (D) := r.bind fun x h => if x.all D.keep then .ok (.lst x) h else .bad
@[simp] theorem kLst_ok  {x : List D} {h : Hs} : kLst cl  (.ok x h) = if x.all D.keep then .ok (.lst x) h else .bad := id rfl
@[simp] theorem kLst_exc  {x : D} {h : Hs} : kLst cl  (.exc x h) = .exc x h := id rfl
@[simp] theorem e_lst {es : Es} {e : Ev} {h : Hs} : evE cl (.lst es) e h = kLst cl (evEs cl es e h) := id rfl
def kMls (cl : Nat → List D → Hs → R D)  (r : R (List D)) : R (D) := r.bind fun x h => if x.all D.keep then .ok (.ref h.length) (h ++ [.lst x]) else .bad
@[simp] theorem kMls_ok  {x : List D} {h : Hs} : kMls cl  (.ok x h) = if x.all D.keep then .ok (.ref h.length) (h ++ [.lst x]) else .bad := id rfl
@[simp] theorem kMls_exc  {x : D} {h : Hs} : kMls cl  (.exc x h) = .exc x h := id rfl
@[simp] theorem e_mls {es : Es} {e : Ev} {h : Hs} : evE cl (.mls es) e h = kMls cl (evEs cl es e h) := id rfl
@[simp] theorem e_dic {kvs : List (Int × Int)} {e : Ev} {h : Hs} : evE cl (.dic kvs) e h = .ok (.dct kvs) h := id rfl
def kFld (cl : Nat → List D → Hs → R D) (c : Nat) (f : Str) (r : R (D)) : R (D) := r.bind fun x h => R.of (fldO c f h x) h
@[simp] theorem kFld_ok {c : Nat} {f : Str} {x : D} {h : Hs} : kFld cl c f (.ok x h) = R.of (fldO c f h x) h := id rfl
@[simp] theorem kFld_exc {c : Nat} {f : Str} {x : D} {h : Hs} : kFld cl c f (.exc x h) = .exc x h := id rfl
@[simp] theorem e_fld {c : Nat} {a : E} {f : Str} {e : Ev} {h : Hs} : evE cl (.fld c a f) e h = kFld cl c f (evE cl a e h) := id rfl
def newR (i : Nat) (x : D) (h : Hs) : R D := (R.of (isNonO x) h).bind fun _ h' => .ok (.ref i) h'
@[simp] theorem newR_non {i : Nat} {h : Hs} : newR i .non h = .ok (.ref i) h := id rfl
def kNew (cl : Nat → List D → Hs → R D) (i : Nat) (r : R (D)) : R (D) := r.bind fun x h => newR i x h
@[simp] theorem kNew_ok {i : Nat} {x : D} {h : Hs} : kNew cl i (.ok x h) = newR i x h := id rfl
@[simp] theorem kNew_exc {i : Nat} {x : D} {h : Hs} : kNew cl i (.exc x h) = .exc x h := id rfl
@[simp] theorem e_new {c f : Nat} {e : Ev} {h : Hs} : evE cl (.new c f) e h = kNew cl h.length (cl f [.ref h.length] (h ++ [.ins c []])) := id rfl
def kMc2 (cl : Nat → List D → Hs → R D) (f : Nat) (y : D) (r : R (List D)) : R (D) := r.bind fun x h => cl f (y :: x) h
@[simp] theorem kMc2_ok {f : Nat} {y : D} {x : List D} {h : Hs} : kMc2 cl f y (.ok x h) = cl f (y :: x) h := id rfl
@[simp] theorem kMc2_exc {f : Nat} {y : D} {x : D} {h : Hs} : kMc2 cl f y (.exc x h) = .exc x h := id rfl
def mcR (cl : Nat → List D → Hs → R D) (f : Nat) (m : Str) (es : Es) (e : Ev) (x : D) (h : Hs) (o : Option (Nat × List (Str × D))) : R D := match o with | some p => if p.2.lookup m = none then kMc2 cl f x (evEs cl es e h) else .bad | none => .bad
def kMc (cl : Nat → List D → Hs → R D) (c : Nat) (f : Nat) (m : Str) (es : Es) (e : Ev) (r : R (D)) : R (D) := r.bind fun x h => mcR cl f m es e x h (isIns c h x)
@[simp] theorem kMc_ok {c : Nat} {f : Nat} {m : Str} {es : Es} {e : Ev} {x : D} {h : Hs} : kMc cl c f m es e (.ok x h) = mcR cl f m es e x h (isIns c h x) := id rfl
@[simp] theorem kMc_exc {c : Nat} {f : Nat} {m : Str} {es : Es} {e : Ev} {x : D} {h : Hs} : kMc cl c f m es e (.exc x h) = .exc x h := id rfl
@[simp] theorem e_mc {c f : Nat} {m : Str} {a : E} {es : Es} {e : Ev} {h : Hs} : evE cl (.mc c f m a es) e h = kMc cl c f m es e (evE cl a e h) := id rfl
def poR (o : Option (D × Hs)) : R D := match o with | some p => .ok p.1 p.2 | none => .bad
@[simp] theorem poR_some {p : D × Hs} : poR (some p) = .ok p.1 p.2 := id rfl
def kPopr (cl : Nat → List D → Hs → R D)  (r : R (D)) : R (D) := r.bind fun x h => poR (poprO h x)
@[simp] theorem kPopr_ok  {x : D} {h : Hs} : kPopr cl  (.ok x h) = poR (poprO h x) := id rfl
@[simp] theorem kPopr_exc  {x : D} {h : Hs} : kPopr cl  (.exc x h) = .exc x h := id rfl
@[simp] theorem e_popr {a : E} {e : Ev} {h : Hs} : evE cl (.popr a) e h = kPopr cl (evE cl a e h) := id rfl
def kLnr (cl : Nat → List D → Hs → R D)  (r : R (D)) : R (D) := r.bind fun x h => R.of (lnrO h x) h
@[simp] theorem kLnr_ok  {x : D} {h : Hs} : kLnr cl  (.ok x h) = R.of (lnrO h x) h := id rfl
@[simp] theorem kLnr_exc  {x : D} {h : Hs} : kLnr cl  (.exc x h) = .exc x h := id rfl
@[simp] theorem e_lnr {a : E} {e : Ev} {h : Hs} : evE cl (.lnr a) e h = kLnr cl (evE cl a e h) := id rfl
def kIse (cl : Nat → List D → Hs → R D)  (r : R (D)) : R (D) := r.bind fun x h => R.of (iseO h x) h
@[simp] theorem kIse_ok  {x : D} {h : Hs} : kIse cl  (.ok x h) = R.of (iseO h x) h := id rfl
@[simp] theorem kIse_exc  {x : D} {h : Hs} : kIse cl  (.exc x h) = .exc x h := id rfl
@[simp] theorem e_ise {a : E} {e : Ev} {h : Hs} : evE cl (.ise a) e h = kIse cl (evE cl a e h) := id rfl
def kMcd2 (cl : Nat → List D → Hs → R D) (f : Nat) (y : D) (i : Int) (r : R (List D)) : R (D) := r.bind fun x h => cl f (y :: (x ++ [.int i])) h
@[simp] theorem kMcd2_ok {f : Nat} {y : D} {i : Int} {x : List D} {h : Hs} : kMcd2 cl f y i (.ok x h) = cl f (y :: (x ++ [.int i])) h := id rfl
@[simp] theorem kMcd2_exc {f : Nat} {y : D} {i : Int} {x : D} {h : Hs} : kMcd2 cl f y i (.exc x h) = .exc x h := id rfl
def mcdR (cl : Nat → List D → Hs → R D) (f : Nat) (m : Str) (es : Es) (i : Int) (e : Ev) (x : D) (h : Hs) (o : Option (Nat × List (Str × D))) : R D := match o with | some p => if p.2.lookup m = none then kMcd2 cl f x i (evEs cl es e h) else .bad | none => .bad
def kMcd (cl : Nat → List D → Hs → R D) (c : Nat) (f : Nat) (m : Str) (es : Es) (i : Int) (e : Ev) (r : R (D)) : R (D) := r.bind fun x h => mcdR cl f m es i e x h (isIns c h x)
@[simp] theorem kMcd_ok {c : Nat} {f : Nat} {m : Str} {es : Es} {i : Int} {e : Ev} {x : D} {h : Hs} : kMcd cl c f m es i e (.ok x h) = mcdR cl f m es i e x h (isIns c h x) := id rfl
@[simp] theorem kMcd_exc {c : Nat} {f : Nat} {m : Str} {es : Es} {i : Int} {e : Ev} {x : D} {h : Hs} : kMcd cl c f m es i e (.exc x h) = .exc x h := id rfl
@[simp] theorem e_mcd {c f : Nat} {m : Str} {a : E} {es : Es} {i : Int} {e : Ev} {h : Hs} : evE cl (.mcd c f m a es i) e h = kMcd cl c f m es i e (evE cl a e h) := id rfl
def kMkx (cl : Nat → List D → Hs → R D) (c : Nat) (r : R (D)) : R (D) := r.bind fun x h => .ok (.exc c x) h
@[simp] theorem kMkx_ok {c : Nat} {x : D} {h : Hs} : kMkx cl c (.ok x h) = .ok (.exc c x) h := id rfl
@[simp] theorem kMkx_exc {c : Nat} {x : D} {h : Hs} : kMkx cl c (.exc x h) = .exc x h := id rfl
@[simp] theorem e_mkx {c : Nat} {a : E} {e : Ev} {h : Hs} : evE cl (.mkx c a) e h = kMkx cl c (evE cl a e h) := id rfl
def mkbR (x : D) (h : Hs) : R D := match x with | .int i => .ok (.exc 16 (.int i)) h | _ => .bad
@[simp] theorem mkbR_int {i : Int} {h : Hs} : mkbR (.int i) h = .ok (.exc 16 (.int i)) h := id rfl
def kMkb (cl : Nat → List D → Hs → R D)  (r : R (D)) : R (D) := r.bind fun x h => mkbR x h
@[simp] theorem kMkb_ok  {x : D} {h : Hs} : kMkb cl  (.ok x h) = mkbR x h := id rfl
@[simp] theorem kMkb_exc  {x : D} {h : Hs} : kMkb cl  (.exc x h) = .exc x h := id rfl
@[simp] theorem e_mkb {a : E} {e : Ev} {h : Hs} : evE cl (.mkb a) e h = kMkb cl (evE cl a e h) := by rw [evE]; rfl
def kIsx (cl : Nat → List D → Hs → R D) (j : Nat) (r : R (D)) : R (D) := r.bind fun x h => R.of ((dIsi (.exc j) x).map .bl) h
@[simp] theorem kIsx_ok {j : Nat} {x : D} {h : Hs} : kIsx cl j (.ok x h) = R.of ((dIsi (.exc j) x).map .bl) h := id rfl
@[simp] theorem kIsx_exc {j : Nat} {x : D} {h : Hs} : kIsx cl j (.exc x h) = .exc x h := id rfl
@[simp] theorem e_isx {j : Nat} {a : E} {e : Ev} {h : Hs} : evE cl (.isx j a) e h = kIsx cl j (evE cl a e h) := id rfl
def kIsv (cl : Nat → List D → Hs → R D)  (r : R (D)) : R (D) := r.bind fun x h => R.of ((dIsi .value x).map .bl) h
@[simp] theorem kIsv_ok  {x : D} {h : Hs} : kIsv cl  (.ok x h) = R.of ((dIsi .value x).map .bl) h := id rfl
@[simp] theorem kIsv_exc  {x : D} {h : Hs} : kIsv cl  (.exc x h) = .exc x h := id rfl
@[simp] theorem e_isv {a : E} {e : Ev} {h : Hs} : evE cl (.isv a) e h = kIsv cl (evE cl a e h) := id rfl
def kXat (cl : Nat → List D → Hs → R D)  (r : R (D)) : R (D) := r.bind fun x h => R.of (xatO x) h
@[simp] theorem kXat_ok  {x : D} {h : Hs} : kXat cl  (.ok x h) = R.of (xatO x) h := id rfl
@[simp] theorem kXat_exc  {x : D} {h : Hs} : kXat cl  (.exc x h) = .exc x h := id rfl
@[simp] theorem e_xat {a : E} {e : Ev} {h : Hs} : evE cl (.xat a) e h = kXat cl (evE cl a e h) := id rfl
def kIsc (cl : Nat → List D → Hs → R D) (c : Nat) (r : R (D)) : R (D) := r.bind fun x h => R.of (iscO c h x) h
@[simp] theorem kIsc_ok {c : Nat} {x : D} {h : Hs} : kIsc cl c (.ok x h) = R.of (iscO c h x) h := id rfl
@[simp] theorem kIsc_exc {c : Nat} {x : D} {h : Hs} : kIsc cl c (.exc x h) = .exc x h := id rfl
@[simp] theorem e_isc {c : Nat} {a : E} {e : Ev} {h : Hs} : evE cl (.isc c a) e h = kIsc cl c (evE cl a e h) := id rfl
def kFst (cl : Nat → List D → Hs → R D) (s : Str) (t : Str) (r : R (D)) : R (D) := r.bind fun x h => R.of (fstO s t x) h
@[simp] theorem kFst_ok {s : Str} {t : Str} {x : D} {h : Hs} : kFst cl s t (.ok x h) = R.of (fstO s t x) h := id rfl
@[simp] theorem kFst_exc {s : Str} {t : Str} {x : D} {h : Hs} : kFst cl s t (.exc x h) = .exc x h := id rfl
@[simp] theorem e_fst {a : E} {s t : Str} {e : Ev} {h : Hs} : evE cl (.fst a s t) e h = kFst cl s t (evE cl a e h) := id rfl
def kLnm (cl : Nat → List D → Hs → R D) (c : Nat) (f : Nat) (r : R (D)) : R (D) := r.bind fun x h => spR c h x okLen idD (cl f [x] h)
@[simp] theorem kLnm_ok {c : Nat} {f : Nat} {x : D} {h : Hs} : kLnm cl c f (.ok x h) = spR c h x okLen idD (cl f [x] h) := id rfl
@[simp] theorem kLnm_exc {c : Nat} {f : Nat} {x : D} {h : Hs} : kLnm cl c f (.exc x h) = .exc x h := id rfl
@[simp] theorem e_lnm {c f : Nat} {a : E} {e : Ev} {h : Hs} : evE cl (.lnm c f a) e h = kLnm cl c f (evE cl a e h) := id rfl
def kRpm (cl : Nat → List D → Hs → R D) (c : Nat) (f : Nat) (r : R (D)) : R (D) := r.bind fun x h => spR c h x okStr idD (cl f [x] h)
@[simp] theorem kRpm_ok {c : Nat} {f : Nat} {x : D} {h : Hs} : kRpm cl c f (.ok x h) = spR c h x okStr idD (cl f [x] h) := id rfl
@[simp] theorem kRpm_exc {c : Nat} {f : Nat} {x : D} {h : Hs} : kRpm cl c f (.exc x h) = .exc x h := id rfl
@[simp] theorem e_rpm {c f : Nat} {a : E} {e : Ev} {h : Hs} : evE cl (.rpm c f a) e h = kRpm cl c f (evE cl a e h) := id rfl
def kEqm2 (cl : Nat → List D → Hs → R D) (n : Bool) (c : Nat) (f : Nat) (y : D) (r : R (D)) : R (D) := r.bind fun x h => eqmR n c h y x (cl f [y, x] h)
@[simp] theorem kEqm2_ok {n : Bool} {c : Nat} {f : Nat} {y : D} {x : D} {h : Hs} : kEqm2 cl n c f y (.ok x h) = eqmR n c h y x (cl f [y, x] h) := id rfl
@[simp] theorem kEqm2_exc {n : Bool} {c : Nat} {f : Nat} {y : D} {x : D} {h : Hs} : kEqm2 cl n c f y (.exc x h) = .exc x h := id rfl
def kEqm (cl : Nat → List D → Hs → R D) (n : Bool) (c : Nat) (f : Nat) (b : E) (e : Ev) (r : R (D)) : R (D) := r.bind fun x h => kEqm2 cl n c f x (evE cl b e h)
@[simp] theorem kEqm_ok {n : Bool} {c : Nat} {f : Nat} {b : E} {e : Ev} {x : D} {h : Hs} : kEqm cl n c f b e (.ok x h) = kEqm2 cl n c f x (evE cl b e h) := id rfl
@[simp] theorem kEqm_exc {n : Bool} {c : Nat} {f : Nat} {b : E} {e : Ev} {x : D} {h : Hs} : kEqm cl n c f b e (.exc x h) = .exc x h := id rfl
@[simp] theorem e_eqm {n : Bool} {c f : Nat} {a b : E} {e : Ev} {h : Hs} : evE cl (.eqm n c f a b) e h = kEqm cl n c f b e (evE cl a e h) := id rfl
def kInm2 (cl : Nat → List D → Hs → R D) (c : Nat) (f : Nat) (y : D) (r : R (D)) : R (D) := r.bind fun x h => inmR c h y x (cl f [x, y] h)
@[simp] theorem kInm2_ok {c : Nat} {f : Nat} {y : D} {x : D} {h : Hs} : kInm2 cl c f y (.ok x h) = inmR c h y x (cl f [x, y] h) := id rfl
@[simp] theorem kInm2_exc {c : Nat} {f : Nat} {y : D} {x : D} {h : Hs} : kInm2 cl c f y (.exc x h) = .exc x h := id rfl
def kInm (cl : Nat → List D → Hs → R D) (c : Nat) (f : Nat) (b : E) (e : Ev) (r : R (D)) : R (D) := r.bind fun x h => kInm2 cl c f x (evE cl b e h)
@[simp] theorem kInm_ok {c : Nat} {f : Nat} {b : E} {e : Ev} {x : D} {h : Hs} : kInm cl c f b e (.ok x h) = kInm2 cl c f x (evE cl b e h) := id rfl
@[simp] theorem kInm_exc {c : Nat} {f : Nat} {b : E} {e : Ev} {x : D} {h : Hs} : kInm cl c f b e (.exc x h) = .exc x h := id rfl
@[simp] theorem e_inm {c f : Nat} {a b : E} {e : Ev} {h : Hs} : evE cl (.inm c f a b) e h = kInm cl c f b e (evE cl a e h) := id rfl
def kPopi2 (cl : Nat → List D → Hs → R D) (y : D) (r : R (D)) : R (D) := r.bind fun x h => poR (popiO h y x)
@[simp] theorem kPopi2_ok {y : D} {x : D} {h : Hs} : kPopi2 cl y (.ok x h) = poR (popiO h y x) := id rfl
@[simp] theorem kPopi2_exc {y : D} {x : D} {h : Hs} : kPopi2 cl y (.exc x h) = .exc x h := id rfl
def popiS (cl : Nat → List D → Hs → R D) (b : E) (e : Ev) (x : D) (h : Hs) (o : Option (Nat × List D)) : R D := match o with | some _ => kPopi2 cl x (evE cl b e h) | none => .bad
@[simp] theorem popiS_some {b : E} {e : Ev} {x : D} {h : Hs} {p : Nat × List D} : popiS cl b e x h (some p) = kPopi2 cl x (evE cl b e h) := id rfl
def kPopi (cl : Nat → List D → Hs → R D) (b : E) (e : Ev) (r : R (D)) : R (D) := r.bind fun x h => popiS cl b e x h (isLst h x)
@[simp] theorem kPopi_ok {b : E} {e : Ev} {x : D} {h : Hs} : kPopi cl b e (.ok x h) = popiS cl b e x h (isLst h x) := id rfl
@[simp] theorem kPopi_exc {b : E} {e : Ev} {x : D} {h : Hs} : kPopi cl b e (.exc x h) = .exc x h := id rfl
@[simp] theorem e_popi {a b : E} {e : Ev} {h : Hs} : evE cl (.popi a b) e h = kPopi cl b e (evE cl a e h) := by rw [evE]; unfold kPopi popiS kPopi2 poR; rfl
def kLsr (cl : Nat → List D → Hs → R D)  (r : R (D)) : R (D) := r.bind fun x h => R.of (lsrO h x) h
@[simp] theorem kLsr_ok  {x : D} {h : Hs} : kLsr cl  (.ok x h) = R.of (lsrO h x) h := id rfl
@[simp] theorem kLsr_exc  {x : D} {h : Hs} : kLsr cl  (.exc x h) = .exc x h := id rfl
@[simp] theorem e_lsr {a : E} {e : Ev} {h : Hs} : evE cl (.lsr a) e h = kLsr cl (evE cl a e h) := id rfl
def mklR (h : Hs) (o : Option (List D)) : R D := match o with | some ds => .ok (.ref h.length) (h ++ [.lst ds]) | none => .bad
@[simp] theorem mklR_some {h : Hs} {ds : List D} : mklR h (some ds) = .ok (.ref h.length) (h ++ [.lst ds]) := id rfl
def kMkl (cl : Nat → List D → Hs → R D)  (r : R (D)) : R (D) := r.bind fun x h => mklR h (mklO h x)
@[simp] theorem kMkl_ok  {x : D} {h : Hs} : kMkl cl  (.ok x h) = mklR h (mklO h x) := id rfl
@[simp] theorem kMkl_exc  {x : D} {h : Hs} : kMkl cl  (.exc x h) = .exc x h := id rfl
@[simp] theorem e_mkl {a : E} {e : Ev} {h : Hs} : evE cl (.mkl a) e h = kMkl cl (evE cl a e h) := by rw [evE]; unfold kMkl mklR; rfl
def kIng (cl : Nat → List D → Hs → R D) (zs : List Str) (r : R (D)) : R (D) := r.bind fun x h => R.of (ingO zs x) h
@[simp] theorem kIng_ok {zs : List Str} {x : D} {h : Hs} : kIng cl zs (.ok x h) = R.of (ingO zs x) h := id rfl
@[simp] theorem kIng_exc {zs : List Str} {x : D} {h : Hs} : kIng cl zs (.exc x h) = .exc x h := id rfl
@[simp] theorem e_ing {a : E} {x : Str} {zs : List Str} {e : Ev} {h : Hs} : evE cl (.ing a x zs) e h = kIng cl zs (evE cl a e h) := id rfl
def kUp (cl : Nat → List D → Hs → R D)  (r : R (D)) : R (D) := r.bind fun x h => R.of (dUp x) h
@[simp] theorem kUp_ok  {x : D} {h : Hs} : kUp cl  (.ok x h) = R.of (dUp x) h := id rfl
@[simp] theorem kUp_exc  {x : D} {h : Hs} : kUp cl  (.exc x h) = .exc x h := id rfl
@[simp] theorem e_up {a : E} {e : Ev} {h : Hs} : evE cl (.up a) e h = kUp cl (evE cl a e h) := id rfl
@[simp] theorem es_nil {e : Ev} {h : Hs} : evEs cl .nil e h = .ok [] h := id rfl
def kEs2 (cl : Nat → List D → Hs → R D) (d : D) (r : R (List D)) : R (List D) := r.bind fun x h => .ok (d :: x) h
@[simp] theorem kEs2_ok {d : D} {x : List D} {h : Hs} : kEs2 cl d (.ok x h) = .ok (d :: x) h := id rfl
@[simp] theorem kEs2_exc {d : D} {x : D} {h : Hs} : kEs2 cl d (.exc x h) = .exc x h := id rfl
def kEs (cl : Nat → List D → Hs → R D) (r0 : Es) (e : Ev) (r : R (D)) : R (List D) := r.bind fun x h => kEs2 cl x (evEs cl r0 e h)
@[simp] theorem kEs_ok {r0 : Es} {e : Ev} {x : D} {h : Hs} : kEs cl r0 e (.ok x h) = kEs2 cl x (evEs cl r0 e h) := id rfl
@[simp] theorem kEs_exc {r0 : Es} {e : Ev} {x : D} {h : Hs} : kEs cl r0 e (.exc x h) = .exc x h := id rfl
@[simp] theorem es_cons {a : E} {r : Es} {e : Ev} {h : Hs} : evEs cl (.cons a r) e h = kEs cl r e (evE cl a e h) := id rfl
/-- one turn of a comprehension, its target set -/
def oneC (cl : Nat → List D → Hs → R D) (t : T) (c x : E) (d : D) (e : Ev) (h : Hs) : R (Option D) := match putT t d e with
  | none => .bad
  | some e' => (evE cl c e' h).bind fun q h => match q.tru with
    | some true => (evE cl x e' h).bind fun y h => if y.keep then .ok (some y) h else .bad
    | some false => .ok none h
    | none => .bad
def kOne2 (cl : Nat → List D → Hs → R D)  (r : R (D)) : R (Option D) := r.bind fun x h => if x.keep then .ok (some x) h else .bad
@[simp] theorem kOne2_ok  {x : D} {h : Hs} : kOne2 cl  (.ok x h) = if x.keep then .ok (some x) h else .bad := id rfl
@[simp] theorem kOne2_exc  {x : D} {h : Hs} : kOne2 cl  (.exc x h) = .exc x h := id rfl
def cOne (cl : Nat → List D → Hs → R D) (x : E) (e : Ev) (h : Hs) (o : Option Bool) : R (Option D) := match o with | some true => kOne2 cl (evE cl x e h) | some false => .ok none h | none => .bad
@[simp] theorem cOne_t {x : E} {e : Ev} {h : Hs} : cOne cl x e h (some true) = kOne2 cl (evE cl x e h) := id rfl
@[simp] theorem cOne_f {x : E} {e : Ev} {h : Hs} : cOne cl x e h (some false) = .ok none h := id rfl
def kOne (cl : Nat → List D → Hs → R D) (y : E) (e : Ev) (r : R (D)) : R (Option D) := r.bind fun x h => cOne cl y e h x.tru
@[simp] theorem kOne_ok {y : E} {e : Ev} {x : D} {h : Hs} : kOne cl y e (.ok x h) = cOne cl y e h x.tru := id rfl
@[simp] theorem kOne_exc {y : E} {e : Ev} {x : D} {h : Hs} : kOne cl y e (.exc x h) = .exc x h := id rfl
def oneP (cl : Nat → List D → Hs → R D) (c x : E) (h : Hs) (p : Option Ev) : R (Option D) := match p with | none => .bad | some e => kOne cl x e (evE cl c e h)
@[simp] theorem oneC_p {t : T} {c x : E} {d : D} {e : Ev} {h : Hs} : oneC cl t c x d e h = oneP cl c x h (putT t d e) := by unfold oneC oneP; cases putT t d e <;> rfl
@[simp] theorem oneP_some {c x : E} {e : Ev} {h : Hs} : oneP cl c x h (some e) = kOne cl x e (evE cl c e h) := id rfl
def compB (cl : Nat → List D → Hs → R D) (t : T) (c x : E) (xs : List D) (e : Ev) (h : Hs) : R (List D) := compL (fun d h => oneC cl t c x d e h) xs h
@[simp] theorem compB_nil {t : T} {c x : E} {e : Ev} {h : Hs} : compB cl t c x [] e h = .ok [] h := rfl
theorem compB_cons {t : T} {c x : E} {d : D} {ds : List D} {e : Ev} {h : Hs} : compB cl t c x (d :: ds) e h = (oneC cl t c x d e h).bind fun o h => (compB cl t c x ds e h).bind fun ys h => .ok (match o with | some y => y :: ys | none => ys) h := rfl
/-- a comprehension that changes nothing -/
theorem compB_map {α : Type} {t : T} {c x : E} {e : Ev} {h : Hs} {enc : α → D} {p : α → Bool} {g : α → D} : ∀ {xs : List α}, (∀ a ∈ xs, oneC cl t c x (enc a) e h = .ok (if p a then some (g a) else none) h) → compB cl t c x (xs.map enc) e h = .ok ((xs.filter p).map g) h
  | [], _ => rfl
  | a :: xs, q => by
    rw [List.map_cons, compB_cons, q a List.mem_cons_self, R.bind_ok, compB_map fun b hb => q b (List.mem_cons_of_mem _ hb), R.bind_ok, List.filter_cons]
    cases p a <;> rfl
theorem compB_all {α : Type} {t : T} {c x : E} {e : Ev} {h : Hs} {enc : α → D} {g : α → D} {xs : List α} (q : ∀ a ∈ xs, oneC cl t c x (enc a) e h = .ok (some (g a)) h) : compB cl t c x (xs.map enc) e h = .ok (xs.map g) h := by
  have z := compB_map (cl := cl) (t := t) (c := c) (x := x) (e := e) (h := h) (enc := enc) (p := fun _ => true) (g := g) (xs := xs) (fun a ha => by rw [q a ha]; rfl)
  rw [z, List.filter_eq_self.mpr (fun _ _ => rfl)]
def kComp2 (cl : Nat → List D → Hs → R D)  (r : R (List D)) : R (D) := r.bind fun x h => .ok (.lst x) h
@[simp] theorem kComp2_ok  {x : List D} {h : Hs} : kComp2 cl  (.ok x h) = .ok (.lst x) h := id rfl
@[simp] theorem kComp2_exc  {x : D} {h : Hs} : kComp2 cl  (.exc x h) = .exc x h := id rfl
def cComp (cl : Nat → List D → Hs → R D) (t : T) (w : List Nat) (c x : E) (e : Ev) (xs : List D) (h : Hs) : R D := if xs.length ≤ LIM then kComp2 cl (compB cl t c x xs (e.wipe w) h).calm else .bad
@[simp] theorem cComp_eq {t : T} {w : List Nat} {c x : E} {e : Ev} {xs : List D} {h : Hs} : cComp cl t w c x e xs h = if xs.length ≤ LIM then kComp2 cl (compB cl t c x xs (e.wipe w) h).calm else .bad := id rfl
def kComp (cl : Nat → List D → Hs → R D) (t : T) (w : List Nat) (c : E) (y : E) (e : Ev) (r : R (List D)) : R (D) := r.bind fun x h => cComp cl t w c y e x h
@[simp] theorem kComp_ok {t : T} {w : List Nat} {c : E} {y : E} {e : Ev} {x : List D} {h : Hs} : kComp cl t w c y e (.ok x h) = cComp cl t w c y e x h := id rfl
@[simp] theorem kComp_exc {t : T} {w : List Nat} {c : E} {y : E} {e : Ev} {x : D} {h : Hs} : kComp cl t w c y e (.exc x h) = .exc x h := id rfl
def mkR (x : D) (h : Hs) : R D := match x with | .lst ds => if ds.all D.keep then .ok (.ref h.length) (h ++ [.lst ds]) else .bad | _ => .bad
@[simp] theorem mkR_lst {ds : List D} {h : Hs} : mkR (.lst ds) h = if ds.all D.keep then .ok (.ref h.length) (h ++ [.lst ds]) else .bad := id rfl
def kMk (cl : Nat → List D → Hs → R D)  (r : R (D)) : R (D) := r.bind fun x h => mkR x h
@[simp] theorem kMk_ok  {x : D} {h : Hs} : kMk cl  (.ok x h) = mkR x h := id rfl
@[simp] theorem kMk_exc  {x : D} {h : Hs} : kMk cl  (.exc x h) = .exc x h := id rfl
@[simp] theorem e_mkd {e : Ev} {h : Hs} : evE cl .mkd e h = .ok (.ref h.length) (h ++ [.dct []]) := id rfl
@[simp] theorem e_mkm {es : Es} {b : E} {e : Ev} {h : Hs} : evE cl (.mkm es b) e h = kMk cl (evE cl (.bin .mul (.lst es) b) e h) := id rfl
@[simp] theorem e_mkc {it : It} {t : T} {w : List Nat} {c x : E} {e : Ev} {h : Hs} : evE cl (.mkc it t w c x) e h = kMk cl (evE cl (.comp it t w c x) e h) := id rfl
def kDgt3 (cl : Nat → List D → Hs → R D) (x0 : D) (y : D) (r : R (D)) : R (D) := r.bind fun x h => R.of (dgtO h x0 y x) h
@[simp] theorem kDgt3_ok {x0 : D} {y : D} {x : D} {h : Hs} : kDgt3 cl x0 y (.ok x h) = R.of (dgtO h x0 y x) h := id rfl
@[simp] theorem kDgt3_exc {x0 : D} {y : D} {x : D} {h : Hs} : kDgt3 cl x0 y (.exc x h) = .exc x h := id rfl
def kDgt2 (cl : Nat → List D → Hs → R D) (x0 : D) (d : E) (e : Ev) (r : R (D)) : R (D) := r.bind fun x h => kDgt3 cl x0 x (evE cl d e h)
@[simp] theorem kDgt2_ok {x0 : D} {d : E} {e : Ev} {x : D} {h : Hs} : kDgt2 cl x0 d e (.ok x h) = kDgt3 cl x0 x (evE cl d e h) := id rfl
@[simp] theorem kDgt2_exc {x0 : D} {d : E} {e : Ev} {x : D} {h : Hs} : kDgt2 cl x0 d e (.exc x h) = .exc x h := id rfl
def dgtR (cl : Nat → List D → Hs → R D) (k d : E) (e : Ev) (x : D) (h : Hs) (o : Option (Nat × List (List L2.Key × D))) : R D := if o.isSome then kDgt2 cl x d e (evE cl k e h) else .bad
@[simp] theorem dgtR_some {k d : E} {e : Ev} {x : D} {h : Hs} {p : Nat × List (List L2.Key × D)} : dgtR cl k d e x h (some p) = kDgt2 cl x d e (evE cl k e h) := if_pos rfl
def kDgt (cl : Nat → List D → Hs → R D) (k : E) (d : E) (e : Ev) (r : R (D)) : R (D) := r.bind fun x h => dgtR cl k d e x h (isDct h x)
@[simp] theorem kDgt_ok {k : E} {d : E} {e : Ev} {x : D} {h : Hs} : kDgt cl k d e (.ok x h) = dgtR cl k d e x h (isDct h x) := id rfl
@[simp] theorem kDgt_exc {k : E} {d : E} {e : Ev} {x : D} {h : Hs} : kDgt cl k d e (.exc x h) = .exc x h := id rfl
@[simp] theorem e_dgt {a k d : E} {e : Ev} {h : Hs} : evE cl (.dgt a k d) e h = kDgt cl k d e (evE cl a e h) := id rfl
def kDin2 (cl : Nat → List D → Hs → R D) (n : Bool) (y : D) (r : R (D)) : R (D) := r.bind fun x h => R.of (dinO n h x y) h
@[simp] theorem kDin2_ok {n : Bool} {y : D} {x : D} {h : Hs} : kDin2 cl n y (.ok x h) = R.of (dinO n h x y) h := id rfl
@[simp] theorem kDin2_exc {n : Bool} {y : D} {x : D} {h : Hs} : kDin2 cl n y (.exc x h) = .exc x h := id rfl
def kDin (cl : Nat → List D → Hs → R D) (n : Bool) (a : E) (e : Ev) (r : R (D)) : R (D) := r.bind fun x h => kDin2 cl n x (evE cl a e h)
@[simp] theorem kDin_ok {n : Bool} {a : E} {e : Ev} {x : D} {h : Hs} : kDin cl n a e (.ok x h) = kDin2 cl n x (evE cl a e h) := id rfl
@[simp] theorem kDin_exc {n : Bool} {a : E} {e : Ev} {x : D} {h : Hs} : kDin cl n a e (.exc x h) = .exc x h := id rfl
@[simp] theorem e_din {n : Bool} {a k : E} {e : Ev} {h : Hs} : evE cl (.din n a k) e h = kDin cl n a e (evE cl k e h) := id rfl
def kTur (cl : Nat → List D → Hs → R D)  (r : R (D)) : R (D) := r.bind fun x h => R.of (turO h x) h
@[simp] theorem kTur_ok  {x : D} {h : Hs} : kTur cl  (.ok x h) = R.of (turO h x) h := id rfl
@[simp] theorem kTur_exc  {x : D} {h : Hs} : kTur cl  (.exc x h) = .exc x h := id rfl
@[simp] theorem e_tur {a : E} {e : Ev} {h : Hs} : evE cl (.tur a) e h = kTur cl (evE cl a e h) := id rfl
def kGgt (cl : Nat → List D → Hs → R D) (zs : Szs) (r : R (D)) : R (D) := r.bind fun x h => R.of (ggtO zs x) h
@[simp] theorem kGgt_ok {zs : Szs} {x : D} {h : Hs} : kGgt cl zs (.ok x h) = R.of (ggtO zs x) h := id rfl
@[simp] theorem kGgt_exc {zs : Szs} {x : D} {h : Hs} : kGgt cl zs (.exc x h) = .exc x h := id rfl
@[simp] theorem e_ggt {x : Str} {zs : List (Str × Int)} {a : E} {e : Ev} {h : Hs} : evE cl (.ggt x zs a) e h = kGgt cl zs (evE cl a e h) := id rfl
/-- a walk over a list of the heap -/
def hcB (cl : Nat → List D → Hs → R D) (t : T) (c x : E) (r n : Nat) (e : Ev) (h : Hs) : R D := if n ≤ LIM then (compN (hOne (fun d h => oneC cl t c x d e h) r n) (List.range n) h).calm.bind fun ys h => if hLen h r n then .ok (.lst ys) h else .bad else .bad
def hcR (cl : Nat → List D → Hs → R D) (t : T) (c x : E) (e : Ev) (h : Hs) (o : Option (Nat × List D)) : R D := match o with | some p => hcB cl t c x p.1 p.2.length e h | none => .bad
@[simp] theorem hcR_some {t : T} {c x : E} {e : Ev} {h : Hs} {p : Nat × List D} : hcR cl t c x e h (some p) = hcB cl t c x p.1 p.2.length e h := id rfl
def kHc (cl : Nat → List D → Hs → R D) (t : T) (w : List Nat) (c : E) (x0 : E) (e : Ev) (r : R (D)) : R (D) := r.bind fun x h => hcR cl t c x0 (e.wipe w) h (isLst h x)
@[simp] theorem kHc_ok {t : T} {w : List Nat} {c : E} {x0 : E} {e : Ev} {x : D} {h : Hs} : kHc cl t w c x0 e (.ok x h) = hcR cl t c x0 (e.wipe w) h (isLst h x) := id rfl
@[simp] theorem kHc_exc {t : T} {w : List Nat} {c : E} {x0 : E} {e : Ev} {x : D} {h : Hs} : kHc cl t w c x0 e (.exc x h) = .exc x h := id rfl
@[simp] theorem e_hcomp {a : E} {t : T} {w : List Nat} {c x : E} {e : Ev} {h : Hs} : evE cl (.hcomp a t w c x) e h = kHc cl t w c x e (evE cl a e h) := by unfold kHc hcR hcB; rfl
@[simp] theorem e_comp {it : It} {t : T} {w : List Nat} {c x : E} {e : Ev} {h : Hs} : evE cl (.comp it t w c x) e h = kComp cl t w c x e (evI cl false it e h) := id rfl
def kSeqI (cl : Nat → List D → Hs → R D) (st : Bool) (r : R (D)) : R (List D) := r.bind fun x h => R.of ((nb st x).bind itSeq) h
@[simp] theorem kSeqI_ok {st : Bool} {x : D} {h : Hs} : kSeqI cl st (.ok x h) = R.of ((nb st x).bind itSeq) h := id rfl
@[simp] theorem kSeqI_exc {st : Bool} {x : D} {h : Hs} : kSeqI cl st (.exc x h) = .exc x h := id rfl
@[simp] theorem i_seq {st : Bool} {a : E} {e : Ev} {h : Hs} : evI cl st (.seq a) e h = kSeqI cl st (evE cl a e h) := id rfl
def kRng (cl : Nat → List D → Hs → R D)  (r : R (D)) : R (List D) := r.bind fun x h => R.of (itRng (.int 0) x) h
@[simp] theorem kRng_ok  {x : D} {h : Hs} : kRng cl  (.ok x h) = R.of (itRng (.int 0) x) h := id rfl
@[simp] theorem kRng_exc  {x : D} {h : Hs} : kRng cl  (.exc x h) = .exc x h := id rfl
@[simp] theorem i_rng {st : Bool} {a : E} {e : Ev} {h : Hs} : evI cl st (.rng a) e h = kRng cl (evE cl a e h) := id rfl
def kRngs2 (cl : Nat → List D → Hs → R D) (y : D) (r : R (D)) : R (List D) := r.bind fun x h => R.of (itRng y x) h
@[simp] theorem kRngs2_ok {y : D} {x : D} {h : Hs} : kRngs2 cl y (.ok x h) = R.of (itRng y x) h := id rfl
@[simp] theorem kRngs2_exc {y : D} {x : D} {h : Hs} : kRngs2 cl y (.exc x h) = .exc x h := id rfl
def kRngs (cl : Nat → List D → Hs → R D) (b : E) (e : Ev) (r : R (D)) : R (List D) := r.bind fun x h => kRngs2 cl x (evE cl b e h)
@[simp] theorem kRngs_ok {b : E} {e : Ev} {x : D} {h : Hs} : kRngs cl b e (.ok x h) = kRngs2 cl x (evE cl b e h) := id rfl
@[simp] theorem kRngs_exc {b : E} {e : Ev} {x : D} {h : Hs} : kRngs cl b e (.exc x h) = .exc x h := id rfl
@[simp] theorem i_rngs {st : Bool} {a b : E} {e : Ev} {h : Hs} : evI cl st (.rngs a b) e h = kRngs cl b e (evE cl a e h) := id rfl
def kRng3c (cl : Nat → List D → Hs → R D) (y : D) (z : D) (r : R (D)) : R (List D) := r.bind fun x h => R.of (itDown y z x) h
@[simp] theorem kRng3c_ok {y : D} {z : D} {x : D} {h : Hs} : kRng3c cl y z (.ok x h) = R.of (itDown y z x) h := id rfl
@[simp] theorem kRng3c_exc {y : D} {z : D} {x : D} {h : Hs} : kRng3c cl y z (.exc x h) = .exc x h := id rfl
def kRng3b (cl : Nat → List D → Hs → R D) (c : E) (e : Ev) (y : D) (r : R (D)) : R (List D) := r.bind fun x h => kRng3c cl y x (evE cl c e h)
@[simp] theorem kRng3b_ok {c : E} {e : Ev} {y : D} {x : D} {h : Hs} : kRng3b cl c e y (.ok x h) = kRng3c cl y x (evE cl c e h) := id rfl
@[simp] theorem kRng3b_exc {c : E} {e : Ev} {y : D} {x : D} {h : Hs} : kRng3b cl c e y (.exc x h) = .exc x h := id rfl
def kRng3 (cl : Nat → List D → Hs → R D) (b : E) (c : E) (e : Ev) (r : R (D)) : R (List D) := r.bind fun x h => kRng3b cl c e x (evE cl b e h)
@[simp] theorem kRng3_ok {b : E} {c : E} {e : Ev} {x : D} {h : Hs} : kRng3 cl b c e (.ok x h) = kRng3b cl c e x (evE cl b e h) := id rfl
@[simp] theorem kRng3_exc {b : E} {c : E} {e : Ev} {x : D} {h : Hs} : kRng3 cl b c e (.exc x h) = .exc x h := id rfl
@[simp] theorem i_rng3 {st : Bool} {a b c : E} {e : Ev} {h : Hs} : evI cl st (.rng3 a b c) e h = kRng3 cl b c e (evE cl a e h) := id rfl
def kZip2 (cl : Nat → List D → Hs → R D) (st : Bool) (y : D) (r : R (D)) : R (List D) := r.bind fun x h => R.of ((nb st y).bind fun y => (nb st x).bind fun z => itZip y z) h
@[simp] theorem kZip2_ok {st : Bool} {y : D} {x : D} {h : Hs} : kZip2 cl st y (.ok x h) = R.of ((nb st y).bind fun y => (nb st x).bind fun z => itZip y z) h := id rfl
@[simp] theorem kZip2_exc {st : Bool} {y : D} {x : D} {h : Hs} : kZip2 cl st y (.exc x h) = .exc x h := id rfl
def kZip (cl : Nat → List D → Hs → R D) (st : Bool) (b : E) (e : Ev) (r : R (D)) : R (List D) := r.bind fun x h => kZip2 cl st x (evE cl b e h)
@[simp] theorem kZip_ok {st : Bool} {b : E} {e : Ev} {x : D} {h : Hs} : kZip cl st b e (.ok x h) = kZip2 cl st x (evE cl b e h) := id rfl
@[simp] theorem kZip_exc {st : Bool} {b : E} {e : Ev} {x : D} {h : Hs} : kZip cl st b e (.exc x h) = .exc x h := id rfl
def kZip33 (cl : Nat → List D → Hs → R D) (st : Bool) (y : D) (y2 : D) (r : R (D)) : R (List D) := r.bind fun x h => R.of ((nb st y).bind fun y => (nb st y2).bind fun z => (nb st x).bind fun u => itZip3 y z u) h
@[simp] theorem kZip33_ok {st : Bool} {y : D} {y2 : D} {x : D} {h : Hs} : kZip33 cl st y y2 (.ok x h) = R.of ((nb st y).bind fun y => (nb st y2).bind fun z => (nb st x).bind fun u => itZip3 y z u) h := id rfl
@[simp] theorem kZip33_exc {st : Bool} {y : D} {y2 : D} {x : D} {h : Hs} : kZip33 cl st y y2 (.exc x h) = .exc x h := id rfl
def kZip32 (cl : Nat → List D → Hs → R D) (st : Bool) (c : E) (e : Ev) (y : D) (r : R (D)) : R (List D) := r.bind fun x h => kZip33 cl st y x (evE cl c e h)
@[simp] theorem kZip32_ok {st : Bool} {c : E} {e : Ev} {y : D} {x : D} {h : Hs} : kZip32 cl st c e y (.ok x h) = kZip33 cl st y x (evE cl c e h) := id rfl
@[simp] theorem kZip32_exc {st : Bool} {c : E} {e : Ev} {y : D} {x : D} {h : Hs} : kZip32 cl st c e y (.exc x h) = .exc x h := id rfl
def kZip31 (cl : Nat → List D → Hs → R D) (st : Bool) (b : E) (c : E) (e : Ev) (r : R (D)) : R (List D) := r.bind fun x h => kZip32 cl st c e x (evE cl b e h)
@[simp] theorem kZip31_ok {st : Bool} {b : E} {c : E} {e : Ev} {x : D} {h : Hs} : kZip31 cl st b c e (.ok x h) = kZip32 cl st c e x (evE cl b e h) := id rfl
@[simp] theorem kZip31_exc {st : Bool} {b : E} {c : E} {e : Ev} {x : D} {h : Hs} : kZip31 cl st b c e (.exc x h) = .exc x h := id rfl
@[simp] theorem i_zip3 {st : Bool} {a b c : E} {e : Ev} {h : Hs} : evI cl st (.zip3 a b c) e h = kZip31 cl st b c e (evE cl a e h) := id rfl
@[simp] theorem i_zip {st : Bool} {a b : E} {e : Ev} {h : Hs} : evI cl st (.zip a b) e h = kZip cl st b e (evE cl a e h) := id rfl
def kEnm (cl : Nat → List D → Hs → R D) (st : Bool) (r : R (D)) : R (List D) := r.bind fun x h => R.of ((nb st x).bind fun x => x.sq?.map (enmD 0)) h
@[simp] theorem kEnm_ok {st : Bool} {x : D} {h : Hs} : kEnm cl st (.ok x h) = R.of ((nb st x).bind fun x => x.sq?.map (enmD 0)) h := id rfl
@[simp] theorem kEnm_exc {st : Bool} {x : D} {h : Hs} : kEnm cl st (.exc x h) = .exc x h := id rfl
@[simp] theorem i_enm {st : Bool} {a : E} {e : Ev} {h : Hs} : evI cl st (.enm a) e h = kEnm cl st (evE cl a e h) := id rfl
def kSet (cl : Nat → List D → Hs → R D) (i : Nat) (e : Ev) (r : R (D)) : R (Fl) := r.bind fun x h => if x.keep then .ok (.nx (e.put i (.v x))) h else .bad
@[simp] theorem kSet_ok {i : Nat} {e : Ev} {x : D} {h : Hs} : kSet cl i e (.ok x h) = if x.keep then .ok (.nx (e.put i (.v x))) h else .bad := id rfl
@[simp] theorem kSet_exc {i : Nat} {e : Ev} {x : D} {h : Hs} : kSet cl i e (.exc x h) = .exc x h := id rfl
@[simp] theorem s_set {i : Nat} {a : E} {e : Ev} {h : Hs} : exS cl (.set i a) e h = kSet cl i e (evE cl a e h) := by rw [exS]; rfl
def ownR (i : Nat) (e : Ev) (x : D) (h : Hs) : R Fl := match x with | .lst xs => if xs.all D.keep then .ok (.nx (e.put i (.o xs))) h else .bad | _ => .bad
@[simp] theorem ownR_lst {i : Nat} {e : Ev} {xs : List D} {h : Hs} : ownR i e (.lst xs) h = if xs.all D.keep then .ok (.nx (e.put i (.o xs))) h else .bad := id rfl
def kOwn (cl : Nat → List D → Hs → R D) (i : Nat) (e : Ev) (r : R (D)) : R (Fl) := r.bind fun x h => ownR i e x h
@[simp] theorem kOwn_ok {i : Nat} {e : Ev} {x : D} {h : Hs} : kOwn cl i e (.ok x h) = ownR i e x h := id rfl
@[simp] theorem kOwn_exc {i : Nat} {e : Ev} {x : D} {h : Hs} : kOwn cl i e (.exc x h) = .exc x h := id rfl
@[simp] theorem s_own {i : Nat} {a : E} {e : Ev} {h : Hs} : exS cl (.own i a) e h = kOwn cl i e (evE cl a e h) := by rw [exS]; rfl
def kClf (cl : Nat → List D → Hs → R D) (f : Nat) (r : R (List D)) : R (D) := r.bind fun x h => fClf (cl f) x h
@[simp] theorem kClf_ok {f : Nat} {x : List D} {h : Hs} : kClf cl f (.ok x h) = fClf (cl f) x h := id rfl
@[simp] theorem kClf_exc {f : Nat} {x : D} {h : Hs} : kClf cl f (.exc x h) = .exc x h := id rfl
@[simp] theorem s_ownf {i f : Nat} {es : Es} {e : Ev} {h : Hs} : exS cl (.ownf i f es) e h = kOwn cl i e (kClf cl f (evEs cl es e h)) := by rw [exS]; rfl
def raiR (x : D) (h : Hs) : R Fl := match x with | .int i => .exc (.exc 16 (.int i)) h | _ => .bad
@[simp] theorem raiR_int {i : Int} {h : Hs} : raiR (.int i) h = .exc (.exc 16 (.int i)) h := id rfl
def kRaiB (cl : Nat → List D → Hs → R D)  (r : R (D)) : R (Fl) := r.bind fun x h => raiR x h
@[simp] theorem kRaiB_ok  {x : D} {h : Hs} : kRaiB cl  (.ok x h) = raiR x h := id rfl
@[simp] theorem kRaiB_exc  {x : D} {h : Hs} : kRaiB cl  (.exc x h) = .exc x h := id rfl
@[simp] theorem s_raiB {a : E} {e : Ev} {h : Hs} : exS cl (.raiB a) e h = kRaiB cl (evE cl a e h) := by rw [exS]; rfl
@[simp] theorem s_ownd {i : Nat} {b : Bool} {e : Ev} {h : Hs} : exS cl (.ownd i b) e h = .ok (.nx (e.put i (.k b []))) h := by rw [exS]
def nxO (h : Hs) (o : Option Ev) : R Fl := match o with | some e => .ok (.nx e) h | none => .bad
@[simp] theorem nxO_some {h : Hs} {e : Ev} : nxO h (some e) = .ok (.nx e) h := id rfl
def kUnp (cl : Nat → List D → Hs → R D) (is : List Nat) (e : Ev) (r : R (D)) : R (Fl) := r.bind fun x h => nxO h (putT (.t is) x e)
@[simp] theorem kUnp_ok {is : List Nat} {e : Ev} {x : D} {h : Hs} : kUnp cl is e (.ok x h) = nxO h (putT (.t is) x e) := id rfl
@[simp] theorem kUnp_exc {is : List Nat} {e : Ev} {x : D} {h : Hs} : kUnp cl is e (.exc x h) = .exc x h := id rfl
@[simp] theorem s_unp {is : List Nat} {a : E} {e : Ev} {h : Hs} : exS cl (.unp is a) e h = kUnp cl is e (evE cl a e h) := by rw [exS]; unfold kUnp nxO; rfl
def parR (i : Nat) (oi : Bool) (j : Nat) (oj : Bool) (e : Ev) (x y : D) (h : Hs) : R Fl := match oi, oj with
    | false, false => if x.keep && y.keep then .ok (.nx ((e.put i (.v x)).put j (.v y))) h else .bad
    | true, false => (match x with
      | .lst xs => if xs.all D.keep && y.keep then .ok (.nx ((e.put i (.o xs)).put j (.v y))) h else .bad
      | _ => .bad)
    | false, true => (match y with
      | .lst ys => if x.keep && ys.all D.keep then .ok (.nx ((e.put i (.v x)).put j (.o ys))) h else .bad
      | _ => .bad)
    | true, true => (match x, y with
      | .lst xs, .lst ys => if xs.all D.keep && ys.all D.keep then .ok (.nx ((e.put i (.o xs)).put j (.o ys))) h else .bad
      | _, _ => .bad)
@[simp] theorem parR_tt {i j : Nat} {e : Ev} {xs ys : List D} {h : Hs} : parR i true j true e (.lst xs) (.lst ys) h = if xs.all D.keep && ys.all D.keep then .ok (.nx ((e.put i (.o xs)).put j (.o ys))) h else .bad := id rfl
def pardR (i j : Nat) (tk : Bool) (e : Ev) (x : D) (h : Hs) : R Fl := match x with | .lst xs => if xs.all D.keep then .ok (.nx ((e.put i (.o xs)).put j (.k tk []))) h else .bad | _ => .bad
@[simp] theorem pardR_l {i j : Nat} {tk : Bool} {e : Ev} {xs : List D} {h : Hs} : pardR i j tk e (.lst xs) h = if xs.all D.keep then .ok (.nx ((e.put i (.o xs)).put j (.k tk []))) h else .bad := id rfl
def kPard (cl : Nat → List D → Hs → R D) (i : Nat) (j : Nat) (tk : Bool) (e : Ev) (r : R (D)) : R (Fl) := r.bind fun x h => pardR i j tk e x h
@[simp] theorem kPard_ok {i : Nat} {j : Nat} {tk : Bool} {e : Ev} {x : D} {h : Hs} : kPard cl i j tk e (.ok x h) = pardR i j tk e x h := id rfl
@[simp] theorem kPard_exc {i : Nat} {j : Nat} {tk : Bool} {e : Ev} {x : D} {h : Hs} : kPard cl i j tk e (.exc x h) = .exc x h := id rfl
def par3R (i j l : Nat) (e : Ev) (x : D) (h : Hs) : R Fl := if x.keep then .ok (.nx (((e.put i (.o [])).put j (.o [])).put l (.v x))) h else .bad
@[simp] theorem par3R_eq {i j l : Nat} {e : Ev} {x : D} {h : Hs} : par3R i j l e x h = if x.keep then .ok (.nx (((e.put i (.o [])).put j (.o [])).put l (.v x))) h else .bad := id rfl
def kPar3 (cl : Nat → List D → Hs → R D) (i : Nat) (j : Nat) (l : Nat) (e : Ev) (r : R (D)) : R (Fl) := r.bind fun x h => par3R i j l e x h
@[simp] theorem kPar3_ok {i : Nat} {j : Nat} {l : Nat} {e : Ev} {x : D} {h : Hs} : kPar3 cl i j l e (.ok x h) = par3R i j l e x h := id rfl
@[simp] theorem kPar3_exc {i : Nat} {j : Nat} {l : Nat} {e : Ev} {x : D} {h : Hs} : kPar3 cl i j l e (.exc x h) = .exc x h := id rfl
def set3R (i j l : Nat) (e : Ev) (x y z : D) (h : Hs) : R Fl := if x.keep && (y.keep && z.keep) then .ok (.nx (((e.put i (.v x)).put j (.v y)).put l (.v z))) h else .bad
@[simp] theorem set3R_eq {i j l : Nat} {e : Ev} {x y z : D} {h : Hs} : set3R i j l e x y z h = if x.keep && (y.keep && z.keep) then .ok (.nx (((e.put i (.v x)).put j (.v y)).put l (.v z))) h else .bad := id rfl
def kSet33 (cl : Nat → List D → Hs → R D) (i : Nat) (j : Nat) (l : Nat) (e : Ev) (y : D) (z : D) (r : R (D)) : R (Fl) := r.bind fun x h => set3R i j l e y z x h
@[simp] theorem kSet33_ok {i : Nat} {j : Nat} {l : Nat} {e : Ev} {y : D} {z : D} {x : D} {h : Hs} : kSet33 cl i j l e y z (.ok x h) = set3R i j l e y z x h := id rfl
@[simp] theorem kSet33_exc {i : Nat} {j : Nat} {l : Nat} {e : Ev} {y : D} {z : D} {x : D} {h : Hs} : kSet33 cl i j l e y z (.exc x h) = .exc x h := id rfl
def kSet32 (cl : Nat → List D → Hs → R D) (i : Nat) (j : Nat) (l : Nat) (d : E) (e : Ev) (y : D) (r : R (D)) : R (Fl) := r.bind fun x h => kSet33 cl i j l e y x (evE cl d e h)
@[simp] theorem kSet32_ok {i : Nat} {j : Nat} {l : Nat} {d : E} {e : Ev} {y : D} {x : D} {h : Hs} : kSet32 cl i j l d e y (.ok x h) = kSet33 cl i j l e y x (evE cl d e h) := id rfl
@[simp] theorem kSet32_exc {i : Nat} {j : Nat} {l : Nat} {d : E} {e : Ev} {y : D} {x : D} {h : Hs} : kSet32 cl i j l d e y (.exc x h) = .exc x h := id rfl
def kSet3 (cl : Nat → List D → Hs → R D) (i : Nat) (j : Nat) (l : Nat) (b : E) (d : E) (e : Ev) (r : R (D)) : R (Fl) := r.bind fun x h => kSet32 cl i j l d e x (evE cl b e h)
@[simp] theorem kSet3_ok {i : Nat} {j : Nat} {l : Nat} {b : E} {d : E} {e : Ev} {x : D} {h : Hs} : kSet3 cl i j l b d e (.ok x h) = kSet32 cl i j l d e x (evE cl b e h) := id rfl
@[simp] theorem kSet3_exc {i : Nat} {j : Nat} {l : Nat} {b : E} {d : E} {e : Ev} {x : D} {h : Hs} : kSet3 cl i j l b d e (.exc x h) = .exc x h := id rfl
@[simp] theorem s_set3 {i j l : Nat} {a b d : E} {e : Ev} {h : Hs} : exS cl (.set3 i j l a b d) e h = kSet3 cl i j l b d e (evE cl a e h) := by rw [exS]; rfl
@[simp] theorem s_par3 {i j l : Nat} {a : E} {e : Ev} {h : Hs} : exS cl (.par3 i j l a) e h = kPar3 cl i j l e (evE cl a e h) := by rw [exS]; rfl
@[simp] theorem s_pard {i j : Nat} {tk : Bool} {a : E} {e : Ev} {h : Hs} : exS cl (.pard i j tk a) e h = kPard cl i j tk e (evE cl a e h) := by rw [exS]; rfl
def kRetP (cl : Nat → List D → Hs → R D)  (r : R (D)) : R (Fl) := r.bind fun x h => if x.keep then .ok (.rt x) h else .bad
@[simp] theorem kRetP_ok  {x : D} {h : Hs} : kRetP cl  (.ok x h) = if x.keep then .ok (.rt x) h else .bad := id rfl
@[simp] theorem kRetP_exc  {x : D} {h : Hs} : kRetP cl  (.exc x h) = .exc x h := id rfl
@[simp] theorem s_retP {a : E} {e : Ev} {h : Hs} : exS cl (.retP a) e h = kRetP cl (evE cl a e h) := by rw [exS]; rfl
@[simp] theorem parR_ff {i j : Nat} {e : Ev} {x y : D} {h : Hs} : parR i false j false e x y h = if x.keep && y.keep then .ok (.nx ((e.put i (.v x)).put j (.v y))) h else .bad := id rfl
@[simp] theorem parR_tf {i j : Nat} {e : Ev} {xs : List D} {y : D} {h : Hs} : parR i true j false e (.lst xs) y h = if xs.all D.keep && y.keep then .ok (.nx ((e.put i (.o xs)).put j (.v y))) h else .bad := id rfl
@[simp] theorem parR_ft {i j : Nat} {e : Ev} {x : D} {ys : List D} {h : Hs} : parR i false j true e x (.lst ys) h = if x.keep && ys.all D.keep then .ok (.nx ((e.put i (.v x)).put j (.o ys))) h else .bad := id rfl
def kPar2 (cl : Nat → List D → Hs → R D) (i : Nat) (oi : Bool) (j : Nat) (oj : Bool) (e : Ev) (y : D) (r : R (D)) : R (Fl) := r.bind fun x h => parR i oi j oj e y x h
@[simp] theorem kPar2_ok {i : Nat} {oi : Bool} {j : Nat} {oj : Bool} {e : Ev} {y : D} {x : D} {h : Hs} : kPar2 cl i oi j oj e y (.ok x h) = parR i oi j oj e y x h := id rfl
@[simp] theorem kPar2_exc {i : Nat} {oi : Bool} {j : Nat} {oj : Bool} {e : Ev} {y : D} {x : D} {h : Hs} : kPar2 cl i oi j oj e y (.exc x h) = .exc x h := id rfl
def kPar (cl : Nat → List D → Hs → R D) (i : Nat) (oi : Bool) (j : Nat) (oj : Bool) (b : E) (e : Ev) (r : R (D)) : R (Fl) := r.bind fun x h => kPar2 cl i oi j oj e x (evE cl b e h)
@[simp] theorem kPar_ok {i : Nat} {oi : Bool} {j : Nat} {oj : Bool} {b : E} {e : Ev} {x : D} {h : Hs} : kPar cl i oi j oj b e (.ok x h) = kPar2 cl i oi j oj e x (evE cl b e h) := id rfl
@[simp] theorem kPar_exc {i : Nat} {oi : Bool} {j : Nat} {oj : Bool} {b : E} {e : Ev} {x : D} {h : Hs} : kPar cl i oi j oj b e (.exc x h) = .exc x h := id rfl
@[simp] theorem s_par {i : Nat} {oi : Bool} {j : Nat} {oj : Bool} {a b : E} {e : Ev} {h : Hs} : exS cl (.par i oi j oj a b) e h = kPar cl i oi j oj b e (evE cl a e h) := by rw [exS]; rfl
def stR (x y z : D) (h : Hs) : Option Hs := match x, y with | .ref r, .int j => (match h[r]? with | some (.lst xs) => (setL xs j z).map fun ys => h.set r (.lst ys) | _ => none) | _, _ => none
def sd2R (i : Nat) (p q : D) (e : Ev) (x y : D) (h : Hs) : R Fl := match x, y with
      | .ref r, .int j => (match h[r]? with
        | some (.lst xs) => (match setL xs j p with
          | some ys => .ok (.nx (e.put i (.v q))) (h.set r (.lst ys))
          | none => .bad)
        | _ => .bad)
      | _, _ => .bad
theorem stR_inv {x y z : D} {h h' : Hs} (q : stR x y z h = some h') : ∃ r j xs ys, x = .ref r ∧ y = .int j ∧ h[r]? = some (.lst xs) ∧ setL xs j z = some ys ∧ h' = h.set r (.lst ys) := by
  unfold stR at q
  split at q
  · split at q
    · rename_i r j _ xs e
      cases e2 : setL xs j z with
      | none => rw [e2] at q; cases q
      | some ys => rw [e2] at q; cases q; exact ⟨_, _, _, _, rfl, rfl, e, e2, rfl⟩
    · cases q
  · cases q
theorem sd2R_some {i : Nat} {p q : D} {e : Ev} {x y : D} {h h' : Hs} (z : stR x y p h = some h') : sd2R i p q e x y h = .ok (.nx (e.put i (.v q))) h' := by obtain ⟨r, j, xs, ys, rfl, rfl, e1, e2, rfl⟩ := stR_inv z; unfold sd2R; simp only [e1, e2]
def kSd3 (cl : Nat → List D → Hs → R D) (i : Nat) (p : D) (q : D) (e : Ev) (y : D) (r : R (D)) : R (Fl) := r.bind fun x h => sd2R i p q e y x h
@[simp] theorem kSd3_ok {i : Nat} {p : D} {q : D} {e : Ev} {y : D} {x : D} {h : Hs} : kSd3 cl i p q e y (.ok x h) = sd2R i p q e y x h := id rfl
@[simp] theorem kSd3_exc {i : Nat} {p : D} {q : D} {e : Ev} {y : D} {x : D} {h : Hs} : kSd3 cl i p q e y (.exc x h) = .exc x h := id rfl
def kSd2 (cl : Nat → List D → Hs → R D) (i : Nat) (p : D) (q : D) (b : E) (e : Ev) (r : R (D)) : R (Fl) := r.bind fun x h => kSd3 cl i p q e x (evE cl b e h)
@[simp] theorem kSd2_ok {i : Nat} {p : D} {q : D} {b : E} {e : Ev} {x : D} {h : Hs} : kSd2 cl i p q b e (.ok x h) = kSd3 cl i p q e x (evE cl b e h) := id rfl
@[simp] theorem kSd2_exc {i : Nat} {p : D} {q : D} {b : E} {e : Ev} {x : D} {h : Hs} : kSd2 cl i p q b e (.exc x h) = .exc x h := id rfl
def sdA (cl : Nat → List D → Hs → R D) (i : Nat) (a b : E) (e : Ev) (z : D) (h : Hs) : R Fl := match z with | .tup [p, q] => kSd2 cl i p q b e (evE cl a e h) | _ => .bad
@[simp] theorem sdA_tup {i : Nat} {a b : E} {e : Ev} {p q : D} {h : Hs} : sdA cl i a b e (.tup [p, q]) h = kSd2 cl i p q b e (evE cl a e h) := id rfl
def kSd (cl : Nat → List D → Hs → R D) (i : Nat) (a : E) (b : E) (e : Ev) (r : R (D)) : R (Fl) := r.bind fun x h => sdA cl i a b e x h
@[simp] theorem kSd_ok {i : Nat} {a : E} {b : E} {e : Ev} {x : D} {h : Hs} : kSd cl i a b e (.ok x h) = sdA cl i a b e x h := id rfl
@[simp] theorem kSd_exc {i : Nat} {a : E} {b : E} {e : Ev} {x : D} {h : Hs} : kSd cl i a b e (.exc x h) = .exc x h := id rfl
@[simp] theorem s_sd2 {a b : E} {i : Nat} {c : E} {e : Ev} {h : Hs} : exS cl (.sd2 a b i c) e h = kSd cl i a b e (evE cl c e h) := by rw [exS]; unfold kSd; congr 1
def srR (z : D) (e : Ev) (x y : D) (h : Hs) : R Fl := match x, y with
    | .ref r, .int j => if z.keep then (match h[r]? with
      | some (.lst xs) => (match setL xs j z with
        | some ys => .ok (.nx e) (h.set r (.lst ys))
        | none => .bad)
      | _ => .bad) else .bad
    | _, _ => .bad
theorem srR_some {z : D} {e : Ev} {x y : D} {h h' : Hs} (k : z.keep = true) (q : stR x y z h = some h') : srR z e x y h = .ok (.nx e) h' := by obtain ⟨r, j, xs, ys, rfl, rfl, e1, e2, rfl⟩ := stR_inv q; unfold srR; simp only [e1, e2, k, if_true]
def kSr3 (cl : Nat → List D → Hs → R D) (z : D) (e : Ev) (y : D) (r : R (D)) : R (Fl) := r.bind fun x h => srR z e y x h
@[simp] theorem kSr3_ok {z : D} {e : Ev} {y : D} {x : D} {h : Hs} : kSr3 cl z e y (.ok x h) = srR z e y x h := id rfl
@[simp] theorem kSr3_exc {z : D} {e : Ev} {y : D} {x : D} {h : Hs} : kSr3 cl z e y (.exc x h) = .exc x h := id rfl
def kSr2 (cl : Nat → List D → Hs → R D) (z : D) (b : E) (e : Ev) (r : R (D)) : R (Fl) := r.bind fun x h => kSr3 cl z e x (evE cl b e h)
@[simp] theorem kSr2_ok {z : D} {b : E} {e : Ev} {x : D} {h : Hs} : kSr2 cl z b e (.ok x h) = kSr3 cl z e x (evE cl b e h) := id rfl
@[simp] theorem kSr2_exc {z : D} {b : E} {e : Ev} {x : D} {h : Hs} : kSr2 cl z b e (.exc x h) = .exc x h := id rfl
def kSr (cl : Nat → List D → Hs → R D) (a : E) (b : E) (e : Ev) (r : R (D)) : R (Fl) := r.bind fun x h => kSr2 cl x b e (evE cl a e h)
@[simp] theorem kSr_ok {a : E} {b : E} {e : Ev} {x : D} {h : Hs} : kSr cl a b e (.ok x h) = kSr2 cl x b e (evE cl a e h) := id rfl
@[simp] theorem kSr_exc {a : E} {b : E} {e : Ev} {x : D} {h : Hs} : kSr cl a b e (.exc x h) = .exc x h := id rfl
@[simp] theorem s_sr {a b c : E} {e : Ev} {h : Hs} : exS cl (.sr a b c) e h = kSr cl a b e (evE cl c e h) := by rw [exS]; rfl
def siR (i : Nat) (xs : List D) (z : D) (e : Ev) (y : D) (h : Hs) : R Fl := match y with | .int j => if z.keep then (match setL xs j z with | some ys => .ok (.nx (e.put i (.o ys))) h | none => .bad) else .bad | _ => .bad
def kSi2 (cl : Nat → List D → Hs → R D) (i : Nat) (xs : List D) (z : D) (e : Ev) (r : R (D)) : R (Fl) := r.bind fun x h => siR i xs z e x h
@[simp] theorem kSi2_ok {i : Nat} {xs : List D} {z : D} {e : Ev} {x : D} {h : Hs} : kSi2 cl i xs z e (.ok x h) = siR i xs z e x h := id rfl
@[simp] theorem kSi2_exc {i : Nat} {xs : List D} {z : D} {e : Ev} {x : D} {h : Hs} : kSi2 cl i xs z e (.exc x h) = .exc x h := id rfl
def kSi (cl : Nat → List D → Hs → R D) (i : Nat) (xs : List D) (b : E) (e : Ev) (r : R (D)) : R (Fl) := r.bind fun x h => kSi2 cl i xs x e (evE cl b e h)
@[simp] theorem kSi_ok {i : Nat} {xs : List D} {b : E} {e : Ev} {x : D} {h : Hs} : kSi cl i xs b e (.ok x h) = kSi2 cl i xs x e (evE cl b e h) := id rfl
@[simp] theorem kSi_exc {i : Nat} {xs : List D} {b : E} {e : Ev} {x : D} {h : Hs} : kSi cl i xs b e (.exc x h) = .exc x h := id rfl
def siS (cl : Nat → List D → Hs → R D) (i : Nat) (b c : E) (e : Ev) (h : Hs) (s : Sl) : R Fl := match s with | .o xs => kSi cl i xs b e (evE cl c e h) | _ => .bad
@[simp] theorem siS_o {i : Nat} {b c : E} {e : Ev} {h : Hs} {xs : List D} : siS cl i b c e h (.o xs) = kSi cl i xs b e (evE cl c e h) := id rfl
@[simp] theorem s_si {i : Nat} {b c : E} {e : Ev} {h : Hs} : exS cl (.si i b c) e h = siS cl i b c e h (e.get i) := by rw [exS]; rfl
def skR (i : Nat) (t : Bool) (kvs : Kvs) (z : D) (e : Ev) (y : D) (h : Hs) : R Fl := if z.keep && kOk t y && decide (kvs.length < 100000) then .ok (.nx (e.put i (.k t (kPut y z kvs)))) h else .bad
@[simp] theorem skR_eq {i : Nat} {t : Bool} {kvs : Kvs} {z : D} {e : Ev} {y : D} {h : Hs} : skR i t kvs z e y h = if z.keep && kOk t y && decide (kvs.length < 100000) then .ok (.nx (e.put i (.k t (kPut y z kvs)))) h else .bad := id rfl
def kSk2 (cl : Nat → List D → Hs → R D) (i : Nat) (t : Bool) (kvs : Kvs) (z : D) (e : Ev) (r : R (D)) : R (Fl) := r.bind fun x h => skR i t kvs z e x h
@[simp] theorem kSk2_ok {i : Nat} {t : Bool} {kvs : Kvs} {z : D} {e : Ev} {x : D} {h : Hs} : kSk2 cl i t kvs z e (.ok x h) = skR i t kvs z e x h := id rfl
@[simp] theorem kSk2_exc {i : Nat} {t : Bool} {kvs : Kvs} {z : D} {e : Ev} {x : D} {h : Hs} : kSk2 cl i t kvs z e (.exc x h) = .exc x h := id rfl
def kSk (cl : Nat → List D → Hs → R D) (i : Nat) (t : Bool) (kvs : Kvs) (b : E) (e : Ev) (r : R (D)) : R (Fl) := r.bind fun x h => kSk2 cl i t kvs x e (evE cl b e h)
@[simp] theorem kSk_ok {i : Nat} {t : Bool} {kvs : Kvs} {b : E} {e : Ev} {x : D} {h : Hs} : kSk cl i t kvs b e (.ok x h) = kSk2 cl i t kvs x e (evE cl b e h) := id rfl
@[simp] theorem kSk_exc {i : Nat} {t : Bool} {kvs : Kvs} {b : E} {e : Ev} {x : D} {h : Hs} : kSk cl i t kvs b e (.exc x h) = .exc x h := id rfl
def skS (cl : Nat → List D → Hs → R D) (i : Nat) (b c : E) (e : Ev) (h : Hs) (s : Sl) : R Fl := match s with | .k t kvs => kSk cl i t kvs b e (evE cl c e h) | _ => .bad
@[simp] theorem skS_k {i : Nat} {b c : E} {e : Ev} {h : Hs} {t : Bool} {kvs : Kvs} : skS cl i b c e h (.k t kvs) = kSk cl i t kvs b e (evE cl c e h) := id rfl
def kgR (t : Bool) (kvs : Kvs) (y : D) (h : Hs) : R D := if kOk t y then R.of (kGet kvs y) h else .bad
@[simp] theorem kgR_eq {t : Bool} {kvs : Kvs} {y : D} {h : Hs} : kgR t kvs y h = if kOk t y then R.of (kGet kvs y) h else .bad := id rfl
def kKg (cl : Nat → List D → Hs → R D) (t : Bool) (kvs : Kvs) (r : R (D)) : R (D) := r.bind fun x h => kgR t kvs x h
@[simp] theorem kKg_ok {t : Bool} {kvs : Kvs} {x : D} {h : Hs} : kKg cl t kvs (.ok x h) = kgR t kvs x h := id rfl
@[simp] theorem kKg_exc {t : Bool} {kvs : Kvs} {x : D} {h : Hs} : kKg cl t kvs (.exc x h) = .exc x h := id rfl
def kgS (cl : Nat → List D → Hs → R D) (a : E) (e : Ev) (h : Hs) (s : Sl) : R D := match s with | .k t kvs => kKg cl t kvs (evE cl a e h) | _ => .bad
@[simp] theorem kgS_k {a : E} {e : Ev} {h : Hs} {t : Bool} {kvs : Kvs} : kgS cl a e h (.k t kvs) = kKg cl t kvs (evE cl a e h) := id rfl
def kinR (n : Bool) (y : D) (h : Hs) (s : Sl) : R D := match s with | .k t kvs => if kOk t y then .ok (.bl (n != (kGet kvs y).isSome)) h else .bad | _ => .bad
@[simp] theorem kinR_k {n t : Bool} {y : D} {h : Hs} {kvs : Kvs} : kinR n y h (.k t kvs) = if kOk t y then .ok (.bl (n != (kGet kvs y).isSome)) h else .bad := id rfl
def kKin (cl : Nat → List D → Hs → R D) (n : Bool) (i : Nat) (e : Ev) (r : R (D)) : R (D) := r.bind fun x h => kinR n x h (e.get i)
@[simp] theorem kKin_ok {n : Bool} {i : Nat} {e : Ev} {x : D} {h : Hs} : kKin cl n i e (.ok x h) = kinR n x h (e.get i) := id rfl
@[simp] theorem kKin_exc {n : Bool} {i : Nat} {e : Ev} {x : D} {h : Hs} : kKin cl n i e (.exc x h) = .exc x h := id rfl
@[simp] theorem e_kin {n : Bool} {i : Nat} {a : E} {e : Ev} {h : Hs} : evE cl (.kin n i a) e h = kKin cl n i e (evE cl a e h) := id rfl
@[simp] theorem e_kg {i : Nat} {a : E} {e : Ev} {h : Hs} : evE cl (.kg i a) e h = kgS cl a e h (e.get i) := id rfl
@[simp] theorem s_sk {i : Nat} {b c : E} {e : Ev} {h : Hs} : exS cl (.sk i b c) e h = skS cl i b c e h (e.get i) := by rw [exS]; rfl
def kApp (cl : Nat → List D → Hs → R D) (i : Nat) (xs : List D) (e : Ev) (r : R (D)) : R (Fl) := r.bind fun x h => if x.keep && decide (xs.length < LIM) then .ok (.nx (e.put i (.o (xs ++ [x])))) h else .bad
@[simp] theorem kApp_ok {i : Nat} {xs : List D} {e : Ev} {x : D} {h : Hs} : kApp cl i xs e (.ok x h) = if x.keep && decide (xs.length < LIM) then .ok (.nx (e.put i (.o (xs ++ [x])))) h else .bad := id rfl
@[simp] theorem kApp_exc {i : Nat} {xs : List D} {e : Ev} {x : D} {h : Hs} : kApp cl i xs e (.exc x h) = .exc x h := id rfl
def appS (cl : Nat → List D → Hs → R D) (i : Nat) (a : E) (e : Ev) (h : Hs) (s : Sl) : R Fl := match s with | .o xs => kApp cl i xs e (evE cl a e h) | _ => .bad
@[simp] theorem appS_o {i : Nat} {a : E} {e : Ev} {h : Hs} {xs : List D} : appS cl i a e h (.o xs) = kApp cl i xs e (evE cl a e h) := id rfl
@[simp] theorem s_app {i : Nat} {a : E} {e : Ev} {h : Hs} : exS cl (.app i a) e h = appS cl i a e h (e.get i) := by rw [exS]; rfl
def extR (i : Nat) (xs : List D) (e : Ev) (x : D) (h : Hs) : R Fl := match x with | .lst ys => if ys.all D.keep && decide (xs.length + ys.length ≤ LIM) then .ok (.nx (e.put i (.o (xs ++ ys)))) h else .bad | _ => .bad
@[simp] theorem extR_lst {i : Nat} {xs ys : List D} {e : Ev} {h : Hs} : extR i xs e (.lst ys) h = if ys.all D.keep && decide (xs.length + ys.length ≤ LIM) then .ok (.nx (e.put i (.o (xs ++ ys)))) h else .bad := id rfl
def kExt (cl : Nat → List D → Hs → R D) (i : Nat) (xs : List D) (e : Ev) (r : R (D)) : R (Fl) := r.bind fun x h => extR i xs e x h
@[simp] theorem kExt_ok {i : Nat} {xs : List D} {e : Ev} {x : D} {h : Hs} : kExt cl i xs e (.ok x h) = extR i xs e x h := id rfl
@[simp] theorem kExt_exc {i : Nat} {xs : List D} {e : Ev} {x : D} {h : Hs} : kExt cl i xs e (.exc x h) = .exc x h := id rfl
def extS (cl : Nat → List D → Hs → R D) (i : Nat) (a : E) (e : Ev) (h : Hs) (s : Sl) : R Fl := match s with | .o xs => kExt cl i xs e (evE cl a e h) | _ => .bad
@[simp] theorem extS_o {i : Nat} {a : E} {e : Ev} {h : Hs} {xs : List D} : extS cl i a e h (.o xs) = kExt cl i xs e (evE cl a e h) := id rfl
@[simp] theorem s_ext {i : Nat} {a : E} {e : Ev} {h : Hs} : exS cl (.ext i a) e h = extS cl i a e h (e.get i) := by rw [exS]; rfl
def popS (i : Nat) (e : Ev) (h : Hs) (s : Sl) : R Fl := match s with | .o xs => if xs.isEmpty then .bad else .ok (.nx (e.put i (.o xs.dropLast))) h | _ => .bad
@[simp] theorem popS_o {i : Nat} {e : Ev} {h : Hs} {xs : List D} : popS i e h (.o xs) = if xs.isEmpty then .bad else .ok (.nx (e.put i (.o xs.dropLast))) h := id rfl
@[simp] theorem s_pop {i : Nat} {e : Ev} {h : Hs} : exS cl (.pop i) e h = popS i e h (e.get i) := by rw [exS]; rfl
def popuS (i : Nat) (is : List Nat) (e : Ev) (h : Hs) (s : Sl) : R Fl := match s with | .o (x :: xs) => nxO h (putT (.t is) x (e.put i (.o xs))) | _ => .bad
@[simp] theorem popuS_o {i : Nat} {is : List Nat} {e : Ev} {h : Hs} {x : D} {xs : List D} : popuS i is e h (.o (x :: xs)) = nxO h (putT (.t is) x (e.put i (.o xs))) := id rfl
@[simp] theorem s_popu {i : Nat} {is : List Nat} {e : Ev} {h : Hs} : exS cl (.popu i is) e h = popuS i is e h (e.get i) := by rw [exS]; unfold popuS nxO; rfl
def kEx (cl : Nat → List D → Hs → R D) (e : Ev) (r : R (D)) : R (Fl) := r.bind fun x h => .ok (.nx e) h
@[simp] theorem kEx_ok {e : Ev} {x : D} {h : Hs} : kEx cl e (.ok x h) = .ok (.nx e) h := id rfl
@[simp] theorem kEx_exc {e : Ev} {x : D} {h : Hs} : kEx cl e (.exc x h) = .exc x h := id rfl
@[simp] theorem s_ex {a : E} {e : Ev} {h : Hs} : exS cl (.ex a) e h = kEx cl e (evE cl a e h) := by rw [exS]; rfl
def cIf (cl : Nat → List D → Hs → R D) (a : Ss) (b : Ss) (e : Ev) (h : Hs) (o : Option Bool) : R (Fl) := match o with | some true => exB cl a e h | some false => exB cl b e h | none => .bad
@[simp] theorem cIf_t {a : Ss} {b : Ss} {e : Ev} {h : Hs} : cIf cl a b e h (some true) = exB cl a e h := id rfl
@[simp] theorem cIf_f {a : Ss} {b : Ss} {e : Ev} {h : Hs} : cIf cl a b e h (some false) = exB cl b e h := id rfl
def kIf (cl : Nat → List D → Hs → R D) (a : Ss) (b : Ss) (e : Ev) (r : R (D)) : R (Fl) := r.bind fun x h => cIf cl a b e h x.tru
@[simp] theorem kIf_ok {a : Ss} {b : Ss} {e : Ev} {x : D} {h : Hs} : kIf cl a b e (.ok x h) = cIf cl a b e h x.tru := id rfl
@[simp] theorem kIf_exc {a : Ss} {b : Ss} {e : Ev} {x : D} {h : Hs} : kIf cl a b e (.exc x h) = .exc x h := id rfl
@[simp] theorem s_ite {c : E} {a b : Ss} {e : Ev} {h : Hs} : exS cl (.ite c a b) e h = kIf cl a b e (evE cl c e h) := by rw [exS]; unfold kIf cIf; rfl
/-- loops by their turns -/
def inT (cl : Nat → List D → Hs → R D) (t : T) (b : Ss) (x : D) (e : Ev) (h : Hs) : R Fl := match putT t x e with
  | none => .bad
  | some e' => exB cl b e' h
def forB (cl : Nat → List D → Hs → R D) (t : T) (b : Ss) (xs : List D) (e : Ev) (h : Hs) : R Fl := forL (fun x e h => inT cl t b x e h) xs e h
def inP (cl : Nat → List D → Hs → R D) (b : Ss) (h : Hs) (p : Option Ev) : R Fl := match p with | none => .bad | some e => exB cl b e h
def kFor (cl : Nat → List D → Hs → R D) (t : T) (b : Ss) (xs : List D) (r : R Fl) : R Fl := r.fl fun e h => forB cl t b xs e h
def kBl (cl : Nat → List D → Hs → R D) (b : Ss) (r : R Fl) : R Fl := r.fl fun e h => exB cl b e h
@[simp] theorem inT_p {t : T} {b : Ss} {x : D} {e : Ev} {h : Hs} : inT cl t b x e h = inP cl b h (putT t x e) := by unfold inT inP; cases putT t x e <;> rfl
@[simp] theorem inP_some {b : Ss} {e : Ev} {h : Hs} : inP cl b h (some e) = exB cl b e h := id rfl
@[simp] theorem forB_nil {t : T} {b : Ss} {e : Ev} {h : Hs} : forB cl t b [] e h = .ok (.nx e) h := id rfl
theorem forB_cons {t : T} {b : Ss} {x : D} {xs : List D} {e : Ev} {h : Hs} : forB cl t b (x :: xs) e h = kFor cl t b xs (inT cl t b x e h) := rfl
@[simp] theorem kFor_nx {t : T} {b : Ss} {xs : List D} {e : Ev} {h : Hs} : kFor cl t b xs (.ok (.nx e) h) = forB cl t b xs e h := id rfl
@[simp] theorem kFor_rt {t : T} {b : Ss} {xs : List D} {d : D} {h : Hs} : kFor cl t b xs (.ok (.rt d) h) = .ok (.rt d) h := id rfl
@[simp] theorem kFor_exc {t : T} {b : Ss} {xs : List D} {d : D} {h : Hs} : kFor cl t b xs (.exc d h) = .exc d h := id rfl
@[simp] theorem kBl_nx {b : Ss} {e : Ev} {h : Hs} : kBl cl b (.ok (.nx e) h) = exB cl b e h := id rfl
@[simp] theorem kBl_rt {b : Ss} {d : D} {h : Hs} : kBl cl b (.ok (.rt d) h) = .ok (.rt d) h := id rfl
@[simp] theorem kBl_exc {b : Ss} {d : D} {h : Hs} : kBl cl b (.exc d h) = .exc d h := id rfl
def kForI (cl : Nat → List D → Hs → R D) (t : T) (b : Ss) (e : Ev) (r : R (List D)) : R (Fl) := r.bind fun x h => forB cl t b x e h
@[simp] theorem kForI_ok {t : T} {b : Ss} {e : Ev} {x : List D} {h : Hs} : kForI cl t b e (.ok x h) = forB cl t b x e h := id rfl
@[simp] theorem kForI_exc {t : T} {b : Ss} {e : Ev} {x : D} {h : Hs} : kForI cl t b e (.exc x h) = .exc x h := id rfl
@[simp] theorem s_for {it : It} {t : T} {b : Ss} {e : Ev} {h : Hs} : exS cl (.for it t b) e h = kForI cl t b e (evI cl true it e h) := by rw [exS]; rfl
def whlB (cl : Nat → List D → Hs → R D) (c : E) (b : Ss) (n : Nat) (e : Ev) (h : Hs) : R Fl := whlL (fun e h => (evE cl c e h).bind fun x h => R.of x.tru h) (fun e h => exB cl b e h) n e h
@[simp] theorem s_whl {c : E} {b : Ss} {e : Ev} {h : Hs} : exS cl (.whl c b) e h = whlB cl c b turns e h := by rw [exS]; rfl
def kRet (cl : Nat → List D → Hs → R D)  (r : R (D)) : R (Fl) := r.bind fun x h => if x.keep then .ok (.rt x) h else .bad
@[simp] theorem kRet_ok  {x : D} {h : Hs} : kRet cl  (.ok x h) = if x.keep then .ok (.rt x) h else .bad := id rfl
@[simp] theorem kRet_exc  {x : D} {h : Hs} : kRet cl  (.exc x h) = .exc x h := id rfl
@[simp] theorem s_ret {a : E} {e : Ev} {h : Hs} : exS cl (.ret a) e h = kRet cl (evE cl a e.fin h) := by rw [exS]; rfl
@[simp] theorem s_retN {e : Ev} {h : Hs} : exS cl .retN e h = .ok (.rt .non) h := by rw [exS]
def kRai (cl : Nat → List D → Hs → R D) (c : Nat) (r : R (D)) : R (Fl) := r.bind fun x h => .exc (.exc c x) h
@[simp] theorem kRai_ok {c : Nat} {x : D} {h : Hs} : kRai cl c (.ok x h) = .exc (.exc c x) h := id rfl
@[simp] theorem kRai_exc {c : Nat} {x : D} {h : Hs} : kRai cl c (.exc x h) = .exc x h := id rfl
@[simp] theorem s_rai {c : Nat} {a : E} {e : Ev} {h : Hs} : exS cl (.rai c a) e h = kRai cl c (evE cl a e h) := by rw [exS]; rfl
def frzS (i : Nat) (e : Ev) (h : Hs) (s : Sl) : R Fl := match s with | .o xs => .ok (.nx (e.put i (.v (.lst xs)))) h | _ => .bad
@[simp] theorem frzS_o {i : Nat} {e : Ev} {h : Hs} {xs : List D} : frzS i e h (.o xs) = .ok (.nx (e.put i (.v (.lst xs)))) h := id rfl
@[simp] theorem s_frz {i : Nat} {e : Ev} {h : Hs} : exS cl (.frz i) e h = frzS i e h (e.get i) := by rw [exS]; rfl
def mvS (i j : Nat) (e : Ev) (h : Hs) (s : Sl) : R Fl := match s with | .o xs => .ok (.nx ((e.put j .u).put i (.o xs))) h | _ => .bad
@[simp] theorem mvS_o {i j : Nat} {e : Ev} {h : Hs} {xs : List D} : mvS i j e h (.o xs) = .ok (.nx ((e.put j .u).put i (.o xs))) h := id rfl
@[simp] theorem s_mv {i j : Nat} {e : Ev} {h : Hs} : exS cl (.mv i j) e h = mvS i j e h (e.get j) := by rw [exS]; rfl
def hsO (e : Ev) (o : Option Hs) : R Fl := match o with | some h => .ok (.nx e) h | none => .bad
@[simp] theorem hsO_some {e : Ev} {h : Hs} : hsO e (some h) = .ok (.nx e) h := id rfl
def kSfl2 (cl : Nat → List D → Hs → R D) (c : Nat) (f : Str) (e : Ev) (y : D) (r : R (D)) : R (Fl) := r.bind fun x h => hsO e (sflO c f y h x)
@[simp] theorem kSfl2_ok {c : Nat} {f : Str} {e : Ev} {y : D} {x : D} {h : Hs} : kSfl2 cl c f e y (.ok x h) = hsO e (sflO c f y h x) := id rfl
@[simp] theorem kSfl2_exc {c : Nat} {f : Str} {e : Ev} {y : D} {x : D} {h : Hs} : kSfl2 cl c f e y (.exc x h) = .exc x h := id rfl
def kSfl (cl : Nat → List D → Hs → R D) (c : Nat) (a : E) (f : Str) (e : Ev) (r : R (D)) : R (Fl) := r.bind fun x h => kSfl2 cl c f e x (evE cl a e h)
@[simp] theorem kSfl_ok {c : Nat} {a : E} {f : Str} {e : Ev} {x : D} {h : Hs} : kSfl cl c a f e (.ok x h) = kSfl2 cl c f e x (evE cl a e h) := id rfl
@[simp] theorem kSfl_exc {c : Nat} {a : E} {f : Str} {e : Ev} {x : D} {h : Hs} : kSfl cl c a f e (.exc x h) = .exc x h := id rfl
def kSdp3 (cl : Nat → List D → Hs → R D) (e : Ev) (z : D) (x0 : D) (r : R (D)) : R (Fl) := r.bind fun x h => hsO e (dputO h x0 x z)
@[simp] theorem kSdp3_ok {e : Ev} {z : D} {x0 : D} {x : D} {h : Hs} : kSdp3 cl e z x0 (.ok x h) = hsO e (dputO h x0 x z) := id rfl
@[simp] theorem kSdp3_exc {e : Ev} {z : D} {x0 : D} {x : D} {h : Hs} : kSdp3 cl e z x0 (.exc x h) = .exc x h := id rfl
def kSdp2 (cl : Nat → List D → Hs → R D) (k : E) (e : Ev) (z : D) (r : R (D)) : R (Fl) := r.bind fun x h => kSdp3 cl e z x (evE cl k e h)
@[simp] theorem kSdp2_ok {k : E} {e : Ev} {z : D} {x : D} {h : Hs} : kSdp2 cl k e z (.ok x h) = kSdp3 cl e z x (evE cl k e h) := id rfl
@[simp] theorem kSdp2_exc {k : E} {e : Ev} {z : D} {x : D} {h : Hs} : kSdp2 cl k e z (.exc x h) = .exc x h := id rfl
def kSdp (cl : Nat → List D → Hs → R D) (a : E) (k : E) (e : Ev) (r : R (D)) : R (Fl) := r.bind fun x h => kSdp2 cl k e x (evE cl a e h)
@[simp] theorem kSdp_ok {a : E} {k : E} {e : Ev} {x : D} {h : Hs} : kSdp cl a k e (.ok x h) = kSdp2 cl k e x (evE cl a e h) := id rfl
@[simp] theorem kSdp_exc {a : E} {k : E} {e : Ev} {x : D} {h : Hs} : kSdp cl a k e (.exc x h) = .exc x h := id rfl
@[simp] theorem s_sdp {a k b : E} {e : Ev} {h : Hs} : exS cl (.sdp a k b) e h = kSdp cl a k e (evE cl b e h) := by rw [exS]; unfold kSdp kSdp2 kSdp3 hsO; rfl
def kUn24 (cl : Nat → List D → Hs → R D) (e : Ev) (q : D) (x0 : D) (r : R (D)) : R (Fl) := r.bind fun x h => hsO e (dputO h x0 x q)
@[simp] theorem kUn24_ok {e : Ev} {q : D} {x0 : D} {x : D} {h : Hs} : kUn24 cl e q x0 (.ok x h) = hsO e (dputO h x0 x q) := id rfl
@[simp] theorem kUn24_exc {e : Ev} {q : D} {x0 : D} {x : D} {h : Hs} : kUn24 cl e q x0 (.exc x h) = .exc x h := id rfl
def kUn23 (cl : Nat → List D → Hs → R D) (k : E) (e : Ev) (q : D) (r : R (D)) : R (Fl) := r.bind fun x h => kUn24 cl e q x (evE cl k e h)
@[simp] theorem kUn23_ok {k : E} {e : Ev} {q : D} {x : D} {h : Hs} : kUn23 cl k e q (.ok x h) = kUn24 cl e q x (evE cl k e h) := id rfl
@[simp] theorem kUn23_exc {k : E} {e : Ev} {q : D} {x : D} {h : Hs} : kUn23 cl k e q (.exc x h) = .exc x h := id rfl
def un2O (cl : Nat → List D → Hs → R D) (c k : E) (e : Ev) (q : D) (o : Option Hs) : R Fl := match o with | some h => kUn23 cl k e q (evE cl c e h) | none => .bad
@[simp] theorem un2O_some {c k : E} {e : Ev} {q : D} {h : Hs} : un2O cl c k e q (some h) = kUn23 cl k e q (evE cl c e h) := id rfl
def kUn22 (cl : Nat → List D → Hs → R D) (c : E) (k : E) (e : Ev) (p : D) (q : D) (x0 : D) (r : R (D)) : R (Fl) := r.bind fun x h => un2O cl c k e q (putL h x0 x p)
@[simp] theorem kUn22_ok {c : E} {k : E} {e : Ev} {p : D} {q : D} {x0 : D} {x : D} {h : Hs} : kUn22 cl c k e p q x0 (.ok x h) = un2O cl c k e q (putL h x0 x p) := id rfl
@[simp] theorem kUn22_exc {c : E} {k : E} {e : Ev} {p : D} {q : D} {x0 : D} {x : D} {h : Hs} : kUn22 cl c k e p q x0 (.exc x h) = .exc x h := id rfl
def kUn21 (cl : Nat → List D → Hs → R D) (b : E) (c : E) (k : E) (e : Ev) (p : D) (q : D) (r : R (D)) : R (Fl) := r.bind fun x h => kUn22 cl c k e p q x (evE cl b e h)
@[simp] theorem kUn21_ok {b : E} {c : E} {k : E} {e : Ev} {p : D} {q : D} {x : D} {h : Hs} : kUn21 cl b c k e p q (.ok x h) = kUn22 cl c k e p q x (evE cl b e h) := id rfl
@[simp] theorem kUn21_exc {b : E} {c : E} {k : E} {e : Ev} {p : D} {q : D} {x : D} {h : Hs} : kUn21 cl b c k e p q (.exc x h) = .exc x h := id rfl
def un2A (cl : Nat → List D → Hs → R D) (a b c k : E) (e : Ev) (z : D) (h : Hs) : R Fl := match z with | .tup [p, q] => kUn21 cl b c k e p q (evE cl a e h) | _ => .bad
@[simp] theorem un2A_tup {a b c k : E} {e : Ev} {p q : D} {h : Hs} : un2A cl a b c k e (.tup [p, q]) h = kUn21 cl b c k e p q (evE cl a e h) := id rfl
def kUn2 (cl : Nat → List D → Hs → R D) (a : E) (b : E) (c : E) (k : E) (e : Ev) (r : R (D)) : R (Fl) := r.bind fun x h => un2A cl a b c k e x h
@[simp] theorem kUn2_ok {a : E} {b : E} {c : E} {k : E} {e : Ev} {x : D} {h : Hs} : kUn2 cl a b c k e (.ok x h) = un2A cl a b c k e x h := id rfl
@[simp] theorem kUn2_exc {a : E} {b : E} {c : E} {k : E} {e : Ev} {x : D} {h : Hs} : kUn2 cl a b c k e (.exc x h) = .exc x h := id rfl
@[simp] theorem s_un2 {a b c k d : E} {e : Ev} {h : Hs} : exS cl (.un2 a b c k d) e h = kUn2 cl a b c k e (evE cl d e h) := by rw [exS]; unfold kUn2; congr 1
@[simp] theorem s_sfl {c : Nat} {a : E} {f : Str} {b : E} {e : Ev} {h : Hs} : exS cl (.sfl c a f b) e h = kSfl cl c a f e (evE cl b e h) := by rw [exS]; unfold kSfl kSfl2 hsO; rfl
def kApr2 (cl : Nat → List D → Hs → R D) (y : D) (e : Ev) (r : R (D)) : R (Fl) := r.bind fun x h => hsO e (aprO x h y)
@[simp] theorem kApr2_ok {y : D} {e : Ev} {x : D} {h : Hs} : kApr2 cl y e (.ok x h) = hsO e (aprO x h y) := id rfl
@[simp] theorem kApr2_exc {y : D} {e : Ev} {x : D} {h : Hs} : kApr2 cl y e (.exc x h) = .exc x h := id rfl
def aprS (cl : Nat → List D → Hs → R D) (b : E) (e : Ev) (x : D) (h : Hs) (o : Option (Nat × List D)) : R Fl := match o with | some _ => kApr2 cl x e (evE cl b e h) | none => .bad
@[simp] theorem aprS_some {b : E} {e : Ev} {x : D} {h : Hs} {p : Nat × List D} : aprS cl b e x h (some p) = kApr2 cl x e (evE cl b e h) := id rfl
def kApr (cl : Nat → List D → Hs → R D) (b : E) (e : Ev) (r : R (D)) : R (Fl) := r.bind fun x h => aprS cl b e x h (isLst h x)
@[simp] theorem kApr_ok {b : E} {e : Ev} {x : D} {h : Hs} : kApr cl b e (.ok x h) = aprS cl b e x h (isLst h x) := id rfl
@[simp] theorem kApr_exc {b : E} {e : Ev} {x : D} {h : Hs} : kApr cl b e (.exc x h) = .exc x h := id rfl
@[simp] theorem s_apr {a b : E} {e : Ev} {h : Hs} : exS cl (.apr a b) e h = kApr cl b e (evE cl a e h) := by rw [exS]; unfold kApr aprS kApr2 hsO; rfl
def kRmr2 (cl : Nat → List D → Hs → R D) (y : D) (e : Ev) (r : R (D)) : R (Fl) := r.bind fun x h => hsO e (rmrO x h y)
@[simp] theorem kRmr2_ok {y : D} {e : Ev} {x : D} {h : Hs} : kRmr2 cl y e (.ok x h) = hsO e (rmrO x h y) := id rfl
@[simp] theorem kRmr2_exc {y : D} {e : Ev} {x : D} {h : Hs} : kRmr2 cl y e (.exc x h) = .exc x h := id rfl
def rmrS (cl : Nat → List D → Hs → R D) (b : E) (e : Ev) (x : D) (h : Hs) (o : Option (Nat × List D)) : R Fl := match o with | some _ => kRmr2 cl x e (evE cl b e h) | none => .bad
@[simp] theorem rmrS_some {b : E} {e : Ev} {x : D} {h : Hs} {p : Nat × List D} : rmrS cl b e x h (some p) = kRmr2 cl x e (evE cl b e h) := id rfl
def kRmr (cl : Nat → List D → Hs → R D) (b : E) (e : Ev) (r : R (D)) : R (Fl) := r.bind fun x h => rmrS cl b e x h (isLst h x)
@[simp] theorem kRmr_ok {b : E} {e : Ev} {x : D} {h : Hs} : kRmr cl b e (.ok x h) = rmrS cl b e x h (isLst h x) := id rfl
@[simp] theorem kRmr_exc {b : E} {e : Ev} {x : D} {h : Hs} : kRmr cl b e (.exc x h) = .exc x h := id rfl
@[simp] theorem s_rmr {a b : E} {e : Ev} {h : Hs} : exS cl (.rmr a b) e h = kRmr cl b e (evE cl a e h) := by rw [exS]; unfold kRmr rmrS kRmr2 hsO; rfl
def kUnf2 (cl : Nat → List D → Hs → R D) (c : Nat) (g : Str) (e : Ev) (q : D) (r : R (D)) : R (Fl) := r.bind fun x h => hsO e (sflO c g q h x)
@[simp] theorem kUnf2_ok {c : Nat} {g : Str} {e : Ev} {q : D} {x : D} {h : Hs} : kUnf2 cl c g e q (.ok x h) = hsO e (sflO c g q h x) := id rfl
@[simp] theorem kUnf2_exc {c : Nat} {g : Str} {e : Ev} {q : D} {x : D} {h : Hs} : kUnf2 cl c g e q (.exc x h) = .exc x h := id rfl
def unfB (cl : Nat → List D → Hs → R D) (c : Nat) (b : E) (g : Str) (e : Ev) (q : D) (o : Option Hs) : R Fl := match o with | some h => kUnf2 cl c g e q (evE cl b e h) | none => .bad
@[simp] theorem unfB_some {c : Nat} {b : E} {g : Str} {e : Ev} {q : D} {h : Hs} : unfB cl c b g e q (some h) = kUnf2 cl c g e q (evE cl b e h) := id rfl
def kUnf1 (cl : Nat → List D → Hs → R D) (c : Nat) (f : Str) (b : E) (g : Str) (e : Ev) (p : D) (q : D) (r : R (D)) : R (Fl) := r.bind fun x h => unfB cl c b g e q (sflO c f p h x)
@[simp] theorem kUnf1_ok {c : Nat} {f : Str} {b : E} {g : Str} {e : Ev} {p : D} {q : D} {x : D} {h : Hs} : kUnf1 cl c f b g e p q (.ok x h) = unfB cl c b g e q (sflO c f p h x) := id rfl
@[simp] theorem kUnf1_exc {c : Nat} {f : Str} {b : E} {g : Str} {e : Ev} {p : D} {q : D} {x : D} {h : Hs} : kUnf1 cl c f b g e p q (.exc x h) = .exc x h := id rfl
def unfA (cl : Nat → List D → Hs → R D) (c : Nat) (a : E) (f : Str) (b : E) (g : Str) (e : Ev) (z : D) (h : Hs) : R Fl := match z with | .tup [p, q] => kUnf1 cl c f b g e p q (evE cl a e h) | _ => .bad
@[simp] theorem unfA_tup {c : Nat} {a : E} {f : Str} {b : E} {g : Str} {e : Ev} {p q : D} {h : Hs} : unfA cl c a f b g e (.tup [p, q]) h = kUnf1 cl c f b g e p q (evE cl a e h) := id rfl
def kUnf (cl : Nat → List D → Hs → R D) (c : Nat) (a : E) (f : Str) (b : E) (g : Str) (e : Ev) (r : R (D)) : R (Fl) := r.bind fun x h => unfA cl c a f b g e x h
@[simp] theorem kUnf_ok {c : Nat} {a : E} {f : Str} {b : E} {g : Str} {e : Ev} {x : D} {h : Hs} : kUnf cl c a f b g e (.ok x h) = unfA cl c a f b g e x h := id rfl
@[simp] theorem kUnf_exc {c : Nat} {a : E} {f : Str} {b : E} {g : Str} {e : Ev} {x : D} {h : Hs} : kUnf cl c a f b g e (.exc x h) = .exc x h := id rfl
@[simp] theorem s_unf {c : Nat} {a : E} {f : Str} {b : E} {g : Str} {d : E} {e : Ev} {h : Hs} : exS cl (.unf c a f b g d) e h = kUnf cl c a f b g e (evE cl d e h) := by rw [exS]; unfold kUnf; congr 1
@[simp] theorem b_nil {e : Ev} {h : Hs} : exB cl .nil e h = .ok (.nx e) h := by rw [exB]
@[simp] theorem b_cons {s : S} {r : Ss} {e : Ev} {h : Hs} : exB cl (.cons s r) e h = kBl cl r (exS cl s e h) := by rw [exB]; rfl
end
@[simp] theorem out_rt {d : D} {h : Hs} : (R.ok (.rt d) h).out = .ok d h := rfl
@[simp] theorem out_nx {e : Ev} {h : Hs} : (R.ok (.nx e) h).out = .ok .non h := rfl
@[simp] theorem out_exc {d : D} {h : Hs} : (R.exc (α := Fl) d h).out = .exc d h := rfl
/-- a def's run -/
theorem run_eq {k f : Nat} {fn : Fn} {ds : List D} {h : Hs} (p : G f = some fn) : runF G (k + 1) f ds h = if ds.length = fn.np then (exB (runF G k) fn.body (startE fn.nn (ds.map D.hand)) h).out else .bad := by rw [runF, p]
@[simp] theorem startE_0 : startE 0 [] = [] := id rfl
@[simp] theorem startE_u {n : Nat} : startE (n + 1) [] = .u :: startE n [] := by unfold startE; simp [List.replicate_succ]
@[simp] theorem startE_v {n : Nat} {d : D} {ds : List D} : startE (n + 1) (d :: ds) = .v d :: startE n ds := by unfold startE; simp
@[simp] theorem get_z {x : Sl} {r : Ev} : Ev.get (x :: r) 0 = x := rfl
@[simp] theorem get_s {x : Sl} {r : Ev} {n : Nat} : Ev.get (x :: r) (n + 1) = Ev.get r n := rfl
@[simp] theorem put_z {x y : Sl} {r : Ev} : Ev.put (x :: r) 0 y = y :: r := rfl
@[simp] theorem put_s {x y : Sl} {r : Ev} {n : Nat} : Ev.put (x :: r) (n + 1) y = x :: Ev.put r n y := rfl
@[simp] theorem wipe_nil {e : Ev} : Ev.wipe e [] = e := rfl
@[simp] theorem wipe_cons {e : Ev} {i : Nat} {is : List Nat} : Ev.wipe e (i :: is) = (Ev.wipe e is).put i .u := rfl
@[simp] theorem fin_nil : Ev.fin [] = [] := rfl
@[simp] theorem fin_v {d : D} {r : Ev} : Ev.fin (.v d :: r) = .v d :: Ev.fin r := rfl
@[simp] theorem fin_u {r : Ev} : Ev.fin (.u :: r) = .u :: Ev.fin r := rfl
@[simp] theorem fin_o {xs : List D} {r : Ev} : Ev.fin (.o xs :: r) = .v (.lst xs) :: Ev.fin r := rfl
@[simp] theorem fin_k {t : Bool} {kvs : Kvs} {r : Ev} : Ev.fin (.k t kvs :: r) = .u :: Ev.fin r := rfl
def slV (s : Sl) : Option D := match s with | .v d => some d | .o xs => some (.bor xs) | _ => none
@[simp] theorem slV_v {d : D} : slV (.v d) = some d := rfl
@[simp] theorem slV_o {xs : List D} : slV (.o xs) = some (.bor xs) := rfl
@[simp] theorem evV_eq {e : Ev} {i : Nat} : evV e i = slV (e.get i) := rfl
def putN (i : Nat) (d : D) (e : Ev) (b : Bool) : Option Ev := if b then some (e.put i (.v d)) else none
@[simp] theorem putN_t {i : Nat} {d : D} {e : Ev} : putN i d e true = some (e.put i (.v d)) := rfl
@[simp] theorem putT_n {i : Nat} {d : D} {e : Ev} : putT (.n i) d e = putN i d e d.keep := id rfl
@[simp] theorem putT_2 {i j : Nat} {x y : D} {e : Ev} : putT (.t [i, j]) (.tup [x, y]) e = some ((e.put i (.v x)).put j (.v y)) := id rfl
@[simp] theorem putT_3 {i j k : Nat} {x y z : D} {e : Ev} : putT (.t [i, j, k]) (.tup [x, y, z]) e = some (((e.put i (.v x)).put j (.v y)).put k (.v z)) := id rfl
@[simp] theorem keep_int {i : Int} : (D.int i).keep = true := rfl
@[simp] theorem keep_bl {b : Bool} : (D.bl b).keep = true := rfl
@[simp] theorem keep_non : D.non.keep = true := rfl
@[simp] theorem keep_str {x : Str} : (D.str x).keep = true := rfl
@[simp] theorem keep_tup {xs : List D} : (D.tup xs).keep = true := rfl
@[simp] theorem keep_lst {xs : List D} : (D.lst xs).keep = true := rfl
@[simp] theorem keep_ref {i : Nat} : (D.ref i).keep = true := rfl
@[simp] theorem keep_dct {kvs : List (Int × Int)} : (D.dct kvs).keep = true := rfl
@[simp] theorem hand_int {i : Int} : (D.int i).hand = .int i := rfl
@[simp] theorem hand_bl {b : Bool} : (D.bl b).hand = .bl b := rfl
@[simp] theorem hand_non : D.non.hand = .non := rfl
@[simp] theorem hand_str {x : Str} : (D.str x).hand = .str x := rfl
@[simp] theorem hand_tup {xs : List D} : (D.tup xs).hand = .tup xs := rfl
@[simp] theorem hand_lst {xs : List D} : (D.lst xs).hand = .lst xs := rfl
@[simp] theorem hand_ref {i : Nat} : (D.ref i).hand = .ref i := rfl
@[simp] theorem hand_scr {xs : List D} : (D.scr xs).hand = .scr xs := rfl
@[simp] theorem hand_bor {xs : List D} : (D.bor xs).hand = .scr xs := rfl
@[simp] theorem hand_dct {kvs : List (Int × Int)} : (D.dct kvs).hand = .dct kvs := rfl
@[simp] theorem tru_bl {b : Bool} : (D.bl b).tru = some b := rfl
@[simp] theorem tru_int {i : Int} : (D.int i).tru = some (i != 0) := rfl
@[simp] theorem tru_non : D.non.tru = some false := rfl
@[simp] theorem nb_f {d : D} : nb false d = some d := id rfl
theorem nb_keep {b : Bool} {d : D} (k : d.keep = true) : nb b d = some d := by unfold nb; cases d <;> first | (cases b <;> rfl) | cases k
@[simp] theorem nb_tup {b : Bool} {xs : List D} : nb b (.tup xs) = some (.tup xs) := nb_keep rfl
@[simp] theorem nb_lst {b : Bool} {xs : List D} : nb b (.lst xs) = some (.lst xs) := nb_keep rfl
@[simp] theorem nb_str {b : Bool} {xs : Str} : nb b (.str xs) = some (.str xs) := nb_keep rfl
@[simp] theorem nb_scr {b : Bool} {xs : List D} : nb b (.scr xs) = some (.scr xs) := by unfold nb; cases b <;> rfl
@[simp] theorem sq_tup {xs : List D} : (D.tup xs).sq? = some xs := rfl
@[simp] theorem sq_lst {xs : List D} : (D.lst xs).sq? = some xs := rfl
@[simp] theorem sq_bor {xs : List D} : (D.bor xs).sq? = some xs := rfl
@[simp] theorem sq_scr {xs : List D} : (D.scr xs).sq? = some xs := rfl
@[simp] theorem ls_lst {xs : List D} : (D.lst xs).ls? = some xs := rfl
@[simp] theorem ls_bor {xs : List D} : (D.bor xs).ls? = some xs := rfl
@[simp] theorem ls_scr {xs : List D} : (D.scr xs).ls? = some xs := rfl
@[simp] theorem itSeq_tup {xs : List D} : itSeq (.tup xs) = some xs := rfl
@[simp] theorem itSeq_lst {xs : List D} : itSeq (.lst xs) = some xs := rfl
@[simp] theorem itSeq_bor {xs : List D} : itSeq (.bor xs) = some xs := rfl
@[simp] theorem itSeq_scr {xs : List D} : itSeq (.scr xs) = some xs := rfl
@[simp] theorem dBin_add {x y : D} : dBin .add x y = dAdd x y := id rfl
@[simp] theorem dBin_sub {x y : D} : dBin .sub x y = dSub x y := id rfl
@[simp] theorem dBin_mul {x y : D} : dBin .mul x y = dMul x y := id rfl
@[simp] theorem dBin_fdiv {x y : D} : dBin .fdiv x y = dDiv x y := id rfl
@[simp] theorem dBin_mod {x y : D} : dBin .mod x y = dMod x y := id rfl
@[simp] theorem dBin_pow {x y : D} : dBin .pow x y = dPow x y := id rfl
@[simp] theorem dAdd_int {i j : Int} : dAdd (.int i) (.int j) = some (.int (i + j)) := id rfl
@[simp] theorem dSub_int {i j : Int} : dSub (.int i) (.int j) = some (.int (i - j)) := id rfl
@[simp] theorem dCmp_eq {x y : D} : dCmp .eq x y = dEq x y := id rfl
@[simp] theorem dCmp_ne {x y : D} : dCmp .ne x y = (dEq x y).map (!·) := id rfl
@[simp] theorem dCmp_lt {x y : D} : dCmp .lt x y = dLt x y := id rfl
@[simp] theorem dCmp_le {i j : Int} : dCmp .le (.int i) (.int j) = some (decide (i ≤ j)) := id rfl
@[simp] theorem dCmp_gt {i j : Int} : dCmp .gt (.int i) (.int j) = some (decide (j < i)) := id rfl
@[simp] theorem dCmp_ge {i j : Int} : dCmp .ge (.int i) (.int j) = some (decide (j ≤ i)) := id rfl
@[simp] theorem dCmp_in {x y : D} : dCmp .isin x y = dIn x y := id rfl
@[simp] theorem dCmp_ni {x y : D} : dCmp .notin x y = (dIn x y).map (!·) := id rfl
@[simp] theorem dCmp_isN {x : D} : dCmp .isN x .non = some (dIsN x) := id rfl
@[simp] theorem dCmp_notN {x : D} : dCmp .notN x .non = some (!dIsN x) := id rfl
@[simp] theorem dCmp_eq0 {x y : D} : dCmp .eq0 x y = dEq0 x y := id rfl
@[simp] theorem dCmp_ninS {x y : D} : dCmp .ninS x y = (dInS x y).map (!·) := id rfl
@[simp] theorem dCmp_notB {x y : Bool} : dCmp .notB (.bl x) (.bl y) = some (!decide (x = y)) := id rfl
@[simp] theorem dIsN_non : dIsN .non = true := id rfl
@[simp] theorem dIsN_int {i : Int} : dIsN (.int i) = false := id rfl
@[simp] theorem dIsN_tup {xs : List D} : dIsN (.tup xs) = false := id rfl
@[simp] theorem dLt_int {i j : Int} : dLt (.int i) (.int j) = some (decide (i < j)) := id rfl
@[simp] theorem dEq_int {i j : Int} : dEq (.int i) (.int j) = some (i == j) := by unfold dEq; rfl
end Tv
end

section
set_option autoImplicit false
set_option maxHeartbeats 1000000
/-! Grounds, standings, catches as things of whatever kind. -/
namespace Tv
open PySem
section
variable {cl : Nat → List D → Hs → R D}
theorem compB_each {t : T} {c x : E} {e : Ev} {h : Hs} {g : D → D} {xs : List D} (q : ∀ a ∈ xs, oneC cl t c x a e h = .ok (some (g a)) h) : compB cl t c x xs e h = .ok (xs.map g) h := by
  have z := compB_all (cl := cl) (t := t) (c := c) (x := x) (e := e) (h := h) (enc := fun d => d) (g := g) (xs := xs) q
  simpa using z
end
@[simp] theorem allB_map {α : Type} {f : α → Bool} : ∀ {xs : List α}, allB (xs.map fun x => .bl (f x)) = some (xs.map f)
  | [] => rfl
  | x :: xs => by rw [List.map_cons, allB, allB_map]; rfl
@[simp] theorem allI_map {α : Type} {f : α → Int} : ∀ {xs : List α}, allI (xs.map fun x => .int (f x)) = some (xs.map f)
  | [] => rfl
  | x :: xs => by rw [List.map_cons, allI, allI_map]; rfl
@[simp] theorem dBi_all {α : Type} {f : α → Bool} {xs : List α} : dBi .all [.lst (xs.map fun x => .bl (f x))] = some (.bl (xs.all f)) := by
  show (allB _).map _ = _
  rw [allB_map]; simp
@[simp] theorem dBi_any {α : Type} {f : α → Bool} {xs : List α} : dBi .any [.lst (xs.map fun x => .bl (f x))] = some (.bl (xs.any f)) := by
  show (allB _).map _ = _
  rw [allB_map]; simp
@[simp] theorem dBi_len {d : D} : dBi .len [d] = dLen d := rfl
@[simp] theorem dLen_tup {xs : List D} : dLen (.tup xs) = some (.int xs.length) := rfl
@[simp] theorem dLen_lst {xs : List D} : dLen (.lst xs) = some (.int xs.length) := rfl
@[simp] theorem dLen_bor {xs : List D} : dLen (.bor xs) = some (.int xs.length) := rfl
@[simp] theorem dLen_scr {xs : List D} : dLen (.scr xs) = some (.int xs.length) := rfl
@[simp] theorem dIsi_tup {xs : List D} : dIsi .tuple (.tup xs) = some true := rfl
@[simp] theorem ix_z {x : D} {xs : List D} : dIx (.tup (x :: xs)) (.int 0) = some x := by simp [dIx, D.sq?, L2.atI, L2.ixN]
theorem ixT {xs : List D} {i : Int} (n : Nat) (e : i = n) (l : n < xs.length) : dIx (.tup xs) (.int i) = some (xs[n]'l) := by
  subst e; simp [dIx, D.sq?, L2.atI, L2.ixN, l]
@[simp] theorem ix_1 {x y : D} {xs : List D} : dIx (.tup (x :: y :: xs)) (.int 1) = some y := ixT 1 rfl (by simp)
@[simp] theorem ix_2 {x y z : D} {xs : List D} : dIx (.tup (x :: y :: z :: xs)) (.int 2) = some z := ixT 2 rfl (by simp)
theorem hand_pl {d : D} (p : d.pl = true) : d.hand = d := by cases d <;> first | rfl | cases p
theorem keep_pl {d : D} (p : d.pl = true) : d.keep = true := by cases d <;> first | rfl | cases p
/-- a whole number from one to another one -/
def isFT (a b : Int) : D → Bool
  | .int i => decide (a ≤ i) && decide (i ≤ b)
  | _ => false
def isW : D → Bool
  | .int _ => true
  | _ => false
theorem r_is_whole {k : Nat} {h : Hs} {d : D} (p : d.pl = true) : runF G (k + 1) n_is_whole [d] h = .ok (.bl (isW d)) h := by
  rw [run_eq (fn := f_is_whole) rfl]
  cases d <;> first | (cases p; done) | simp [f_is_whole, dIsi, isW]
theorem r_is_from_to {k : Nat} {h : Hs} {d : D} {a b : Int} (p : d.pl = true) : runF G (k + 2) n_is_from_to [d, .int a, .int b] h = .ok (.bl (isFT a b d)) h := by
  rw [run_eq (fn := f_is_from_to) rfl]
  have z : runF G (k + 1) n_is_whole [d] h = .ok (.bl (isW d)) h := r_is_whole p
  cases d with
  | int i =>
    simp [f_is_from_to, z, isW, isFT]
    by_cases q : a ≤ i <;> simp [q]
  | _ => first | (cases p; done) | simp [f_is_from_to, z, isW, isFT]

theorem pls_at : ∀ {xs : List D}, D.pls xs = true → ∀ d ∈ xs, d.pl = true
  | [], _, _, h => by cases h
  | x :: r, hp, d, h => by
    rw [D.pls, Bool.and_eq_true] at hp
    rcases List.mem_cons.mp h with z | z
    · rw [z]; exact hp.1
    · exact pls_at hp.2 d z
/-- grounds, as they are meant -/
structure Bed where
  rest : Nat
  ys : List Nat
structure Gr where
  beds : List Bed
  boats : Nat
def tN (xs : List Nat) : D := .tup (xs.map fun n : Nat => .int n)
def Bed.enc (b : Bed) : D := .tup [.int b.rest, tN b.ys]
def bedsD (bs : List Bed) : D := .tup (bs.map Bed.enc)
def Gr.enc (g : Gr) : D := .tup [bedsD g.beds, .int g.boats]
def Bed.most (b : Bed) : Nat := b.rest + b.ys.length - 1
def manyB (bs : List Bed) : Nat := bs.foldl (fun a b => a * (b.most + 1)) 1
structure Bed.wf (b : Bed) : Prop where
  r : b.rest ≤ 3
  l1 : 1 ≤ b.ys.length
  l3 : b.ys.length ≤ 3
  y : ∀ y ∈ b.ys, y ≤ 99
structure Gr.wf (g : Gr) : Prop where
  l1 : 1 ≤ g.beds.length
  l4 : g.beds.length ≤ 4
  b : ∀ b ∈ g.beds, b.wf
  m : manyB g.beds ≤ 120
  b1 : 1 ≤ g.boats
  b2 : g.boats ≤ 2
def toN : D → Nat
  | .int i => i.toNat
  | _ => 0
def toBed : D → Bed
  | .tup [r, .tup ys] => ⟨toN r, ys.map toN⟩
  | _ => ⟨0, []⟩
def isBed : D → Bool
  | .tup [r, .tup ys] => isFT 0 3 r && (decide (1 ≤ ys.length) && decide (ys.length ≤ 3)) && ys.all (isFT 0 99)
  | _ => false
def isGr : D → Bool
  | .tup [.tup bs, n] => (decide (1 ≤ bs.length) && decide (bs.length ≤ 4)) && bs.all isBed && (decide (manyB (bs.map toBed) ≤ 120) && isFT 1 2 n)
  | _ => false
theorem isFT_int {a b : Int} {d : D} (h : isFT a b d = true) (ha : 0 ≤ a) : d = .int (toN d) ∧ a ≤ toN d ∧ toN d ≤ b := by
  cases d with
  | int i =>
    simp [isFT, toN] at h ⊢
    omega
  | _ => cases h
theorem ft_list {a b : Int} (ha : 0 ≤ a) : ∀ {xs : List D}, xs.all (isFT a b) = true → xs = xs.map (fun d => .int (toN d)) ∧ ∀ y ∈ xs.map toN, (y : Int) ≤ b
  | [], _ => ⟨rfl, by simp⟩
  | x :: xs, h => by
    rw [List.all_cons, Bool.and_eq_true] at h
    obtain ⟨e1, e2, e3⟩ := isFT_int h.1 ha
    obtain ⟨i1, i2⟩ := ft_list ha h.2
    refine ⟨?_, fun y hy => ?_⟩
    · rw [List.map_cons, ← e1, ← i1]
    · rcases List.mem_cons.mp hy with rfl | hy
      · exact e3
      · exact i2 y hy
theorem isBed_of {d : D} (h : isBed d = true) : d = (toBed d).enc ∧ (toBed d).wf := by
  unfold isBed at h
  split at h
  · rename_i r ys
    simp only [Bool.and_eq_true, decide_eq_true_eq] at h
    obtain ⟨⟨h1, h2, h3⟩, h4⟩ := h
    obtain ⟨e1, e2, e3⟩ := isFT_int h1 (by omega)
    obtain ⟨i1, i2⟩ := ft_list (by omega) h4
    refine ⟨?_, ⟨?_, ?_, ?_, fun y hy => ?_⟩⟩
    · unfold Bed.enc toBed tN
      dsimp only
      rw [← e1, List.map_map]
      exact congrArg (fun z => D.tup [r, .tup z]) i1
    · show toN r ≤ 3; omega
    · show 1 ≤ (ys.map toN).length; simpa using h2
    · show (ys.map toN).length ≤ 3; simpa using h3
    · have := i2 y hy; omega
  · cases h
theorem beds_list : ∀ {xs : List D}, xs.all isBed = true → xs = (xs.map toBed).map Bed.enc ∧ ∀ b ∈ xs.map toBed, b.wf
  | [], _ => ⟨rfl, by simp⟩
  | x :: xs, h => by
    rw [List.all_cons, Bool.and_eq_true] at h
    obtain ⟨e1, e2⟩ := isBed_of h.1
    obtain ⟨i1, i2⟩ := beds_list h.2
    refine ⟨?_, fun y hy => ?_⟩
    · rw [List.map_cons, List.map_cons, ← e1, ← i1]
    · rcases List.mem_cons.mp hy with rfl | hy
      · exact e2
      · exact i2 y hy
theorem toN_int {n : Nat} : toN (.int n) = n := by simp [toN]
theorem toBed_enc (b : Bed) : toBed b.enc = b := by
  obtain ⟨r, ys⟩ := b
  unfold Bed.enc tN toBed
  simp [toN_int, Function.comp_def]
theorem isFT_nat {n : Nat} {a b : Int} : isFT a b (.int n) = (decide (a ≤ n) && decide ((n : Int) ≤ b)) := rfl
theorem Bed.wf.is {b : Bed} (h : b.wf) : isBed b.enc = true := by
  obtain ⟨r, ys⟩ := b
  unfold Bed.enc tN isBed
  have h1 := h.r; have h2 := h.l1; have h3 := h.l3
  simp [isFT_nat] at *
  refine ⟨⟨by omega, by omega, by omega⟩, fun y hy => ?_⟩
  have := h.y y hy
  omega
theorem Gr.wf.is {g : Gr} (h : g.wf) : isGr g.enc = true := by
  obtain ⟨bs, n⟩ := g
  unfold Gr.enc bedsD isGr
  have h1 := h.l1; have h2 := h.l4; have h3 := h.m; have h4 := h.b1; have h5 := h.b2
  have e : List.map toBed (bs.map Bed.enc) = bs := by rw [List.map_map]; simp [Function.comp_def, toBed_enc]
  simp [isFT_nat, e] at *
  exact ⟨⟨⟨by omega, by omega⟩, fun b hb => (h.b b hb).is⟩, h3, by omega, by omega⟩
/-! the defs -/
@[simp] theorem isBed_2 {r : D} {ys : List D} : isBed (.tup [r, .tup ys]) = (isFT 0 3 r && (decide (1 ≤ ys.length) && decide (ys.length ≤ 3)) && ys.all (isFT 0 99)) := rfl
theorem ne_2 {n : Nat} : ((n : Int) + 1 + 1 + 1 == 2) = false := by simp; omega
theorem r_is_bed {k : Nat} {h : Hs} {d : D} (p : d.pl = true) : runF G (k + 3) n_is_bed [d] h = .ok (.bl (isBed d)) h := by
  rw [run_eq (fn := f_is_bed) rfl]
  cases d with
  | tup xs =>
    rw [D.pl] at p
    match xs, p with
    | [], _ => simp [f_is_bed, isBed]
    | [_], _ => simp [f_is_bed, isBed]
    | x :: y :: z :: r, _ => simp [f_is_bed, isBed, ne_2]
    | [r, y], p =>
      simp [D.pls] at p
      obtain ⟨p1, p2⟩ := p
      cases h1 : isFT 0 3 r with
      | false => cases y <;> simp [f_is_bed, r_is_from_to p1, h1, isBed]
      | true =>
        cases y with
        | tup ys =>
          rw [D.pl] at p2
          by_cases h2 : 1 ≤ ys.length
          · by_cases h3 : ys.length ≤ 3
            · have q : ∀ a ∈ ys, oneC (runF G (k + 2)) (.n 1) (.c (.bl true)) x_is_bed_0 a [.v (.tup [r, .tup ys]), .u] h = .ok (some (.bl (isFT 0 99 a))) h := fun a ha => by
                have pa := pls_at p2 a ha
                simp [x_is_bed_0, r_is_from_to pa, keep_pl pa]
              simp [f_is_bed, r_is_from_to p1, h1, dIsi, compB_each q, show ys.length ≤ LIM by unfold LIM; omega, show (1 : Int) ≤ ys.length by omega, show (ys.length : Int) ≤ 3 by omega, h2, h3]
            · simp [f_is_bed, r_is_from_to p1, h1, dIsi, show (1 : Int) ≤ ys.length by omega, show ¬ (ys.length : Int) ≤ 3 by omega, h2, h3]
          · simp [f_is_bed, r_is_from_to p1, h1, dIsi, show ¬ (1 : Int) ≤ ys.length by omega, h2]
        | _ => first | (cases p2; done) | simp [f_is_bed, r_is_from_to p1, h1, dIsi, isBed]
  | _ => first | (cases p; done) | simp [f_is_bed, isBed, dIsi]

@[simp] theorem bed_hand {b : Bed} : b.enc.hand = b.enc := rfl
@[simp] theorem gr_hand {g : Gr} : g.enc.hand = g.enc := rfl
@[simp] theorem bd_hand {bs : List Bed} : (bedsD bs).hand = bedsD bs := rfl
@[simp] theorem tN_hand {xs : List Nat} : (tN xs).hand = tN xs := rfl
@[simp] theorem bed_keep {b : Bed} : b.enc.keep = true := rfl
@[simp] theorem gr_keep {g : Gr} : g.enc.keep = true := rfl
@[simp] theorem bd_keep {bs : List Bed} : (bedsD bs).keep = true := rfl
@[simp] theorem tN_keep {xs : List Nat} : (tN xs).keep = true := rfl
@[simp] theorem bed_ix0 {b : Bed} {h : Hs} : ixR b.enc (.int 0) h = .ok (.int b.rest) h := by unfold Bed.enc; simp
@[simp] theorem bed_ix1 {b : Bed} {h : Hs} : ixR b.enc (.int 1) h = .ok (tN b.ys) h := by unfold Bed.enc; simp
@[simp] theorem gr_ix0 {g : Gr} {h : Hs} : ixR g.enc (.int 0) h = .ok (bedsD g.beds) h := by unfold Gr.enc; simp
@[simp] theorem gr_ix1 {g : Gr} {h : Hs} : ixR g.enc (.int 1) h = .ok (.int g.boats) h := by unfold Gr.enc; simp
@[simp] theorem tN_len {xs : List Nat} : dLen (tN xs) = some (.int xs.length) := by unfold tN; simp
@[simp] theorem bd_len {bs : List Bed} : dLen (bedsD bs) = some (.int bs.length) := by unfold bedsD; simp
@[simp] theorem bd_nb {b : Bool} {bs : List Bed} : nb b (bedsD bs) = some (bedsD bs) := nb_keep rfl
@[simp] theorem bd_it {bs : List Bed} : itSeq (bedsD bs) = some (bs.map Bed.enc) := rfl
@[simp] theorem bd_sq {bs : List Bed} : (bedsD bs).sq? = some (bs.map Bed.enc) := rfl
@[simp] theorem tN_nb {b : Bool} {xs : List Nat} : nb b (tN xs) = some (tN xs) := nb_keep rfl
@[simp] theorem tN_it {xs : List Nat} : itSeq (tN xs) = some (xs.map fun n : Nat => .int n) := rfl
@[simp] theorem tN_sq {xs : List Nat} : (tN xs).sq? = some (xs.map fun n : Nat => .int n) := rfl
theorem r_most_of {k : Nat} {h : Hs} {b : Bed} (w : 1 ≤ b.ys.length) : runF G (k + 1) n_most_of [b.enc] h = .ok (.int b.most) h := by
  rw [run_eq (fn := f_most_of) rfl]
  simp [f_most_of]
  unfold Bed.most
  omega
theorem dMul_s {i j : Int} (h : -(2 ^ 64) < j ∧ j < 2 ^ 64) : dMul (.int i) (.int j) = some (.int (i * j)) := by show (if _ then _ else _) = _; rw [if_pos (.inr h)]
theorem Bed.wf.most_le {b : Bed} (h : b.wf) : b.most ≤ 5 := by have := h.r; have := h.l3; unfold Bed.most; omega
theorem s_many_in {k : Nat} {h : Hs} {b : Bed} (n : Nat) (x y : Sl) (wb : b.wf) : inT (runF G (k + 1)) (.n 2) b_many_in_0 b.enc [x, .v (.int n), y] h = .ok (.nx [x, .v (.int (n * (b.most + 1) : Nat)), .v b.enc]) h := by
  have := wb.most_le
  simp [b_many_in_0, r_most_of wb.l1, dMul_s (i := n) (j := (b.most : Int) + 1) (by omega)]
theorem l_many_in {k : Nat} {h : Hs} {bs : List Bed} : ∀ (n : Nat) (x y : Sl), (∀ b ∈ bs, b.wf) → ∃ y', forB (runF G (k + 1)) (.n 2) b_many_in_0 (bs.map Bed.enc) [x, .v (.int n), y] h = .ok (.nx [x, .v (.int (bs.foldl (fun a b => a * (b.most + 1)) n : Nat)), y']) h := by
  induction bs with
  | nil => exact fun n x y _ => ⟨y, by rw [List.map_nil, forB_nil, List.foldl_nil]⟩
  | cons b bs ih =>
    intro n x y w
    obtain ⟨y', e⟩ := ih (n * (b.most + 1)) x (.v b.enc) fun z hz => w z (List.mem_cons_of_mem _ hz)
    refine ⟨y', ?_⟩
    rw [List.map_cons, forB_cons, s_many_in n x y (w b List.mem_cons_self), kFor_nx, List.foldl_cons]
    exact e
theorem r_many_in {k : Nat} {h : Hs} {bs : List Bed} (w : ∀ b ∈ bs, b.wf) : runF G (k + 2) n_many_in [bedsD bs] h = .ok (.int (manyB bs)) h := by
  rw [run_eq (fn := f_many_in) rfl]
  obtain ⟨y', e⟩ := l_many_in (k := k) (h := h) (bs := bs) 1 (.v (bedsD bs)) .u w
  simp at e
  simp [f_many_in, e, manyB]

theorem r_is_grounds {k : Nat} {h : Hs} {d : D} (p : d.pl = true) : runF G (k + 4) n_is_grounds [d] h = .ok (.bl (isGr d)) h := by
  rw [run_eq (fn := f_is_grounds) rfl]
  cases d with
  | tup xs =>
    rw [D.pl] at p
    match xs, p with
    | [], _ => simp [f_is_grounds, isGr]
    | [_], _ => simp [f_is_grounds, isGr]
    | x :: y :: z :: r, _ => simp [f_is_grounds, isGr, ne_2]
    | [b, n], p =>
      simp [D.pls] at p
      obtain ⟨p1, p2⟩ := p
      cases b with
      | tup bs =>
        rw [D.pl] at p1
        by_cases h2 : 1 ≤ bs.length
        · by_cases h3 : bs.length ≤ 4
          · have q : ∀ a ∈ bs, oneC (runF G (k + 3)) (.n 1) (.c (.bl true)) x_is_grounds_0 a [.v (.tup [.tup bs, n]), .u] h = .ok (some (.bl (isBed a))) h := fun a ha => by
              have pa := pls_at p1 a ha
              simp [x_is_grounds_0, r_is_bed pa, keep_pl pa]
            cases h4 : bs.all isBed with
            | false => simp [f_is_grounds, compB_each q, h2, h3, h4, isGr, show (1 : Int) ≤ bs.length by omega, show (bs.length : Int) ≤ 4 by omega, show bs.length ≤ LIM by unfold LIM; omega]
            | true =>
              obtain ⟨e1, e2⟩ := beds_list h4
              have e3 : D.tup bs = bedsD (bs.map toBed) := congrArg D.tup e1
              have e4 : runF G (k + 3) n_many_in [.tup bs] h = .ok (.int (manyB (bs.map toBed))) h := by rw [e3]; exact r_many_in e2
              by_cases h5 : manyB (bs.map toBed) ≤ 120
              · simp [f_is_grounds, compB_each q, h2, h3, h4, isGr, e4, h5, r_is_from_to p2, show (manyB (bs.map toBed) : Int) ≤ 120 by omega, show (1 : Int) ≤ bs.length by omega, show (bs.length : Int) ≤ 4 by omega, show bs.length ≤ LIM by unfold LIM; omega]
              · simp [f_is_grounds, compB_each q, h2, h3, h4, isGr, e4, h5, show ¬ (manyB (bs.map toBed) : Int) ≤ 120 by omega, show (1 : Int) ≤ bs.length by omega, show (bs.length : Int) ≤ 4 by omega, show bs.length ≤ LIM by unfold LIM; omega]
          · simp [f_is_grounds, isGr, h3, show (1 : Int) ≤ bs.length by omega, show ¬ (bs.length : Int) ≤ 4 by omega]
        · simp [f_is_grounds, isGr, h2, show ¬ (1 : Int) ≤ bs.length by omega]
      | _ => first | (cases p1; done) | simp [f_is_grounds, isGr, dIsi]
  | _ => first | (cases p; done) | simp [f_is_grounds, isGr, dIsi]
theorem r_need_grounds {k : Nat} {h : Hs} {d : D} (p : d.pl = true) : runF G (k + 5) n_need_grounds [d] h = if isGr d then .ok .non h else .exc (.exc 1 (.str "no grounds")) h := by
  rw [run_eq (fn := f_need_grounds) rfl]
  cases q : isGr d <;> simp [f_need_grounds, hand_pl p, r_is_grounds p, q]
  rfl
theorem pl_tN : ∀ {xs : List Nat}, (tN xs).pl = true := by
  intro xs
  unfold tN
  rw [D.pl, D.pls_all]
  simp [D.pl]
end Tv
end

section
set_option autoImplicit false
set_option maxHeartbeats 1000000
/-! Standings, catches: what may be, what it sells, what stands behind. -/
namespace Tv
open PySem
/-! reading lists -/
theorem atI_nat {α : Type} {xs : List α} {n : Nat} (l : n < xs.length) : L2.atI xs (n : Int) = some (xs[n]'l) := by simp [L2.atI, L2.ixN, l]
/-! equality, membership -/
theorem py_ints {xs : List Nat} : D.pys (xs.map fun n : Nat => .int n) = (xs.map fun n : Nat => (n : Int)).map .int := by rw [D.pys_map, List.map_map, List.map_map]; rfl
theorem plainAll_ints : ∀ {xs : List Int}, PyData.plainAll (xs.map .int) = true
  | [] => rfl
  | x :: xs => by rw [List.map_cons, PyData.plainAll, plainAll_ints]; rfl
theorem depthAll_ints : ∀ {xs : List Int}, PyData.depthAll (xs.map .int) = 0
  | [] => rfl
  | x :: xs => by rw [List.map_cons, PyData.depthAll, depthAll_ints]; rfl
@[simp] theorem sound_tN {xs : List Nat} : (tN xs).sound = true := by
  unfold D.sound
  have e : (tN xs).py = .tuple ((xs.map fun n : Nat => (n : Int)).map .int) := congrArg PyData.tuple py_ints
  have r : (tN xs).rd = true := pl_tN
  rw [e, r, PyData.plain, plainAll_ints, PyData.depth, depthAll_ints]
  rfl
@[simp] theorem sound_int {i : Int} : (D.int i).sound = true := rfl
@[simp] theorem sound_non : D.non.sound = true := rfl
theorem any_eq {xs : List Nat} {n : Nat} : (xs.any fun x : Nat => ((x : Int) == (n : Int))) = xs.contains n := by
  induction xs with
  | nil => rfl
  | cons x xs ih =>
    rw [List.any_cons, List.contains_cons, ih]
    congr 1
    by_cases e : x = n
    · subst e; simp
    · have e2 : ¬ (x : Int) = n := by omega
      have e3 : ¬ n = x := fun z => e z.symm
      rw [beq_eq_false_iff_ne.mpr e2, beq_eq_false_iff_ne.mpr e3]
@[simp] theorem dIn_tN {n : Nat} {xs : List Nat} : dIn (.int n) (tN xs) = some (decide (n ∈ xs)) := by
  rw [← List.contains_eq_mem]
  show (if (D.int n).sound && (tN xs).sound then some _ else none) = _
  rw [sound_int, sound_tN]
  simp only [Bool.and_self, if_true, List.any_map]
  exact congrArg some any_eq
@[simp] theorem dSl_from {xs : List D} {n : Nat} : dSl (.tup xs) (some (n : Int)) none = some (.tup (xs.drop n)) := by
  show some (D.tup (cutD xs (some (n : Int)) none)) = _
  unfold cutD
  rw [HT.sIx_nat, HT.sIx_none]
  congr 2
  rw [List.take_of_length_le (by rw [List.length_drop]; omega)]
  by_cases h : n ≤ xs.length
  · rw [Nat.min_eq_left h]
  · rw [Nat.min_eq_right (by omega), List.drop_of_length_le (Nat.le_refl _), List.drop_of_length_le (by omega)]
@[simp] theorem dSl_to {xs : List D} {n : Nat} : dSl (.tup xs) none (some (n : Int)) = some (.tup (xs.take n)) := by
  show some (D.tup (cutD xs none (some (n : Int)))) = _
  unfold cutD
  rw [HT.sIx_nat, HT.sIx_none, Nat.sub_zero, List.drop_zero]
  congr 2
  by_cases h : n ≤ xs.length
  · rw [Nat.min_eq_left h]
  · rw [Nat.min_eq_right (by omega), List.take_of_length_le (Nat.le_refl _), List.take_of_length_le (by omega)]
@[simp] theorem dSl_1 {xs : List D} : dSl (.tup xs) (some 1) none = some (.tup (xs.drop 1)) := dSl_from (n := 1)
/-! rising -/
@[simp] theorem itZip_tup {xs ys : List D} : itZip (.tup xs) (.tup ys) = some (zipD xs ys) := rfl
/-! the defs about standings -/
end Tv
end

section
set_option autoImplicit false
set_option maxHeartbeats 1000000
/-! What may be, what it sells, what stands behind. -/
namespace Tv
open PySem
/-! what a catch does -/
end Tv
end

section
set_option autoImplicit false
set_option maxHeartbeats 1000000
/-! Courses. -/
namespace Tv
open PySem
def lN (xs : List Nat) : D := .lst (xs.map fun n : Nat => .int n)
def oD : Option Nat → D
  | none => .non
  | some n => .int n
def tC (cs : List (List Nat)) : D := .tup (cs.map tN)
@[simp] theorem lN_hand {xs : List Nat} : (lN xs).hand = lN xs := rfl
@[simp] theorem lN_keep {xs : List Nat} : (lN xs).keep = true := rfl
@[simp] theorem tC_hand {xs : List (List Nat)} : (tC xs).hand = tC xs := rfl
@[simp] theorem tC_keep {xs : List (List Nat)} : (tC xs).keep = true := rfl
@[simp] theorem tC_nb {b : Bool} {xs : List (List Nat)} : nb b (tC xs) = some (tC xs) := nb_keep rfl
@[simp] theorem tC_it {xs : List (List Nat)} : itSeq (tC xs) = some (xs.map tN) := rfl
@[simp] theorem tC_sq {xs : List (List Nat)} : (tC xs).sq? = some (xs.map tN) := rfl
@[simp] theorem tC_len {xs : List (List Nat)} : dLen (tC xs) = some (.int xs.length) := by unfold tC; simp
@[simp] theorem enmD_nil {n : Nat} : enmD n [] = [] := rfl
@[simp] theorem enmD_cons {n : Nat} {x : D} {xs : List D} : enmD n (x :: xs) = .tup [.int n, x] :: enmD (n + 1) xs := rfl
@[simp] theorem dMin2_int {i j : Int} : dBi .min2 [.int i, .int j] = some (.int (if j < i then j else i)) := rfl
@[simp] theorem dMin4_int {i j k l : Int} : dBi .min4 [.int i, .int j, .int k, .int l] = some (.int (m4 i j k l)) := rfl
@[simp] theorem dMax2_int {i j : Int} : dBi .max2 [.int i, .int j] = some (.int (if j > i then j else i)) := rfl
@[simp] theorem dTuple_bor {xs : List D} : dBi .tuple [.bor xs] = some (.tup xs) := rfl
@[simp] theorem dTuple_lst {xs : List D} : dBi .tuple [.lst xs] = some (.tup xs) := rfl
@[simp] theorem dTuple_scr {xs : List D} : dBi .tuple [.scr xs] = some (.tup xs) := rfl
@[simp] theorem dList_tup {xs : List D} : dBi .list [.tup xs] = some (.lst xs) := rfl
@[simp] theorem dList_tN {xs : List Nat} : dBi .list [tN xs] = some (.lst (xs.map fun n : Nat => .int n)) := rfl
/-! courses -/
def goneD (r : List Nat × List Nat × Option Nat) : D := .tup [lN r.1, tN r.2.1, oD r.2.2]
@[simp] theorem goneD_2 {r : List Nat × List Nat × Option Nat} {h : Hs} : ixR (goneD r) (.int 2) h = .ok (oD r.2.2) h := by unfold goneD; simp
end Tv
end

section
set_option autoImplicit false
set_option maxHeartbeats 1000000
/-! The laws' own draws: boxes, digits, grounds. -/
namespace Tv
open PySem
/-- what else of the heap is to stay as it is -/
class Fr where
  at_ : Nat → Option Ob
/-- nothing else -/
instance (priority := low) frT : Fr := ⟨fun _ => none⟩
def BoxAt [F : Fr] (h : Hs) (i : Nat) : Prop := ∃ a b : Nat, h[i]? = some (.lst [.int a, .int b]) ∧ ∀ j o, F.at_ j = some o → j ≠ i ∧ h[j]? = some o
theorem fr_set [F : Fr] {h : Hs} {i : Nat} {ob : Ob} (q : ∀ j o, F.at_ j = some o → j ≠ i ∧ h[j]? = some o) : ∀ j o, F.at_ j = some o → j ≠ i ∧ (h.set i ob)[j]? = some o := fun j o z => by
  obtain ⟨h1, h2⟩ := q j o z
  refine ⟨h1, ?_⟩
  rw [List.getElem?_set_ne (fun e => h1 e.symm)]
  exact h2
theorem ix_box0 {h : Hs} {i : Nat} {x y : D} (q : h[i]? = some (.lst [x, y])) : ixR (.ref i) (.int 0) h = .ok x h := by
  unfold ixR; simp [q, L2.atI, L2.ixN]
theorem ix_box1 {h : Hs} {i : Nat} {x y : D} (q : h[i]? = some (.lst [x, y])) : ixR (.ref i) (.int 1) h = .ok y h := by
  unfold ixR; simp [q, L2.atI, L2.ixN]
theorem st_box0 {h : Hs} {i : Nat} {x y z : D} (q : h[i]? = some (.lst [x, y])) : stR (.ref i) (.int 0) z h = some (h.set i (.lst [z, y])) := by
  unfold stR; simp [q, setL, L2.ixN]
theorem st_box1 {h : Hs} {i : Nat} {x y z : D} (q : h[i]? = some (.lst [x, y])) : stR (.ref i) (.int 1) z h = some (h.set i (.lst [x, z])) := by
  unfold stR; simp [q, setL, L2.ixN]
theorem set_at {h : Hs} {i : Nat} {o p : Ob} (q : h[i]? = some p) : (h.set i o)[i]? = some o := by
  have l := (List.getElem?_eq_some_iff.mp q).1
  simp [l]
@[simp] theorem dDivmod_nat {a m : Nat} (h : 0 < m) (h2 : m < 1073741824) : dBi .divmod [.int a, .int m] = some (.tup [.int (a / m : Nat), .int (a % m : Nat)]) := by
  show dDivmod (.int a) (.int m) = _
  unfold dDivmod
  simp only
  rw [if_pos (by omega)]
  simp
@[simp] theorem dDiv_nat {a m : Nat} (h : 0 < m) (h2 : m < 1073741824) : dDiv (.int a) (.int m) = some (.int (a / m : Nat)) := by
  show (if _ then _ else _) = _
  rw [if_pos (by omega)]
  simp
@[simp] theorem dMod_nat {a m : Nat} (h : 0 < m) : dMod (.int a) (.int m) = some (.int (a % m : Nat)) := by
  show (if _ then _ else _) = _
  rw [if_pos (by omega)]
  simp
theorem dMod_int {i m : Int} (h : 0 < m) : dMod (.int i) (.int m) = some (.int (i % m)) := by
  show (if _ then _ else _) = _
  rw [if_pos h]
/-- the digit that a mixed number gives -/
def mixD (b m : Nat) : Nat := ((b / 1009 + 1) * (b / 1009 + 1) * (b / 1009 + 1) % 2147483629) / 61 % m
theorem r_take [Fr] {k : Nat} {h : Hs} {i m : Nat} {M : Int} (eM : M = m) (q : BoxAt h i) (h1 : 0 < m) (h2 : m < 1073741824) : ∃ d h', runF G (k + 1) n_l_take [.ref i, .int M] h = .ok (.int (d : Nat)) h' ∧ d < m ∧ BoxAt h' i := by
  subst eM
  obtain ⟨a, b, e, fr⟩ := q
  rw [run_eq (fn := f_l_take) rfl]
  by_cases z : 0 < a
  · refine ⟨a % m, h.set i (.lst [.int (a / m : Nat), .int b]), ?_, Nat.mod_lt _ h1, ⟨_, _, set_at e, fr_set fr⟩⟩
    simp [f_l_take, ix_box0 e, z, dDivmod_nat h1 h2, sd2R_some (st_box0 e)]
  · have ea : a = 0 := by omega
    subst ea
    refine ⟨mixD ((b * 48271 + 11) % 2147483647) m, h.set i (.lst [.int (0 : Nat), .int ((b * 48271 + 11) % 2147483647 : Nat)]), ?_, Nat.mod_lt _ h1, ⟨_, _, set_at e, fr_set fr⟩⟩
    have l : (b * 48271 + 11) % 2147483647 < 2147483647 := Nat.mod_lt _ (by omega)
    have e1 : dMul (.int b) (.int 48271) = some (.int ((b : Int) * 48271)) := dMul_s (by omega)
    have e2 : dMod (.int ((b : Int) * 48271 + 11)) (.int 2147483647) = some (.int ((b * 48271 + 11) % 2147483647 : Nat)) := by
      rw [dMod_int (by omega)]; simp
    generalize hb : (b * 48271 + 11) % 2147483647 = b' at *
    have e4 := set_at (o := .lst [.int (0 : Nat), .int (b' : Nat)]) e
    have e5 : dDiv (.int b') (.int 1009) = some (.int (b' / 1009 : Nat)) := dDiv_nat (m := 1009) (by omega) (by omega)
    have l3 : b' / 1009 + 1 ≤ 2147483647 := by omega
    have e6 : dMul (.int ((b' / 1009 : Nat) + 1 : Int)) (.int ((b' / 1009 : Nat) + 1 : Int)) = some (.int (((b' / 1009 : Nat) + 1 : Int) * ((b' / 1009 : Nat) + 1 : Int))) := dMul_s (by omega)
    have e7 : dMul (.int (((b' / 1009 : Nat) + 1 : Int) * ((b' / 1009 : Nat) + 1 : Int))) (.int ((b' / 1009 : Nat) + 1 : Int)) = some (.int (((b' / 1009 : Nat) + 1 : Int) * ((b' / 1009 : Nat) + 1 : Int) * ((b' / 1009 : Nat) + 1 : Int))) := dMul_s (by omega)
    generalize hc : b' / 1009 = c at *
    have e8 : dMod (.int (((c : Nat) + 1 : Int) * ((c : Nat) + 1 : Int) * ((c : Nat) + 1 : Int))) (.int 2147483629) = some (.int ((c + 1) * (c + 1) * (c + 1) % 2147483629 : Nat)) := by
      rw [dMod_int (by omega)]; simp
    have e3 : ∀ z, stR (.ref i) (.int 1) z h = some (h.set i (.lst [.int (0 : Nat), z])) := fun z => st_box1 e
    have e10 : ∀ z, srR (.int b') z (.ref i) (.int 1) h = .ok (.nx z) (h.set i (.lst [.int (0 : Nat), .int b'])) := fun z => srR_some rfl (e3 _)
    have e11 := ix_box1 e4
    unfold mixD
    rw [hc]
    generalize (c + 1) * (c + 1) * (c + 1) % 2147483629 = n1 at *
    have e9 : dDiv (.int n1) (.int 61) = some (.int (n1 / 61 : Nat)) := dDiv_nat (m := 61) (by omega) (by omega)
    generalize n1 / 61 = n2 at *
    have e12 : dMod (.int n2) (.int m) = some (.int (n2 % m : Nat)) := dMod_nat h1
    generalize n2 % m = n3 at *
    generalize h.set i (.lst [.int (0 : Nat), .int b']) = h' at *
    simp [f_l_take, ix_box0 e, ix_box1 e, e1, e2, e10, e11, e5, e6, e7, e8, e9, e12]
def boxTail : Ss := (.cons (.ite (.cmp .eq (.bin .mod (.v 2) (.c (.int 2))) (.c (.int 0))) (.cons (.ret (.mls (.cons (.bin .fdiv (.bi .abs (.cons (.v 2) .nil)) (.c (.int 2))) (.cons (.bin .add (.bin .add (.bin .mod (.v 2) (.c (.int 1000003))) (.bin .mul (.c (.int 7919)) (.v 1))) (.c (.int 1))) .nil)))) .nil) .nil) (.cons (.ret (.mls (.cons (.c (.int 0)) (.cons (.bin .add (.bin .add (.bin .mod (.v 2) (.c (.int 2147483563))) (.bin .mul (.c (.int 7919)) (.v 1))) (.c (.int 1))) .nil)))) .nil))
theorem f_l_box_eq : f_l_box = ⟨2, 3, (.cons (.set 2 (.bin .add (.bin .mul (.c (.int 6151)) (.v 1)) (.c (.int 29)))) (.cons (.ite (.cmp .lt (.v 1) (.bi .len (.cons (.v 0) .nil))) (.cons (.set 2 (.ix (.v 0) (.v 1))) .nil) .nil) boxTail))⟩ := rfl
theorem r_box {k : Nat} {h : Hs} {is : List Int} {n : Nat} (hn : n < 1000) : ∃ h', runF G (k + 1) n_l_box [.scr (is.map .int), .int n] h = .ok (.ref h.length) h' ∧ BoxAt h' h.length := by
  rw [run_eq (fn := f_l_box) rfl]
  have e1 : dMul (.int 6151) (.int n) = some (.int (6151 * n)) := dMul_s (by omega)
  have e2 : dMul (.int 7919) (.int n) = some (.int (7919 * n)) := dMul_s (by omega)
  have fin : ∀ cell : Int, ∃ h', exB (runF G k) boxTail [.v (.scr (is.map .int)), .v (.int n), .v (.int cell)] h = .ok (.rt (.ref h.length)) h' ∧ BoxAt h' h.length := by
    intro cell
    have m1 : 0 ≤ cell % 1000003 := Int.emod_nonneg _ (by omega)
    have m2 : 0 ≤ cell % 2147483563 := Int.emod_nonneg _ (by omega)
    have ab : dBi .abs [.int cell] = some (.int cell.natAbs) := by
      show some (D.int (if cell < 0 then -cell else cell)) = _
      congr 2
      split <;> omega
    have ab2 : dDiv (.int cell.natAbs) (.int 2) = some (.int (cell.natAbs / 2 : Nat)) := dDiv_nat (m := 2) (by omega) (by omega)
    have at_ : ∀ o : Ob, (h ++ [o])[h.length]? = some o := fun o => by simp
    by_cases z : cell % 2 = 0
    · refine ⟨h ++ [.lst [.int (cell.natAbs / 2 : Nat), .int (cell % 1000003 + 7919 * n + 1)]], ?_, cell.natAbs / 2, (cell % 1000003 + 7919 * n + 1).toNat, ?_, fun _ _ z => by cases z⟩
      · generalize cell.natAbs = c1 at *
        generalize c1 / 2 = c2 at *
        simp [boxTail, dMod_int, z, e2, ab, ab2]
      · rw [at_, show (((cell % 1000003 + 7919 * n + 1).toNat : Nat) : Int) = cell % 1000003 + 7919 * n + 1 by omega]
    · refine ⟨h ++ [.lst [.int 0, .int (cell % 2147483563 + 7919 * n + 1)]], ?_, 0, (cell % 2147483563 + 7919 * n + 1).toNat, ?_, fun _ _ z => by cases z⟩
      · have z2 : (cell % 2 == 0) = false := by rw [beq_eq_false_iff_ne]; exact z
        simp [boxTail, dMod_int, z2, e2]
      · rw [at_, show (((cell % 2147483563 + 7919 * n + 1).toNat : Nat) : Int) = cell % 2147483563 + 7919 * n + 1 by omega]
        rfl
  by_cases l : n < is.length
  · obtain ⟨h', f1, f2⟩ := fin (is[n]'l)
    refine ⟨h', ?_, f2⟩
    have e3 : dIx (.scr (is.map .int)) (.int n) = some (.int (is[n]'l)) := by
      simp [dIx, D.sq?, atI_nat (show n < (is.map D.int).length by simpa using l)]
    rw [f_l_box_eq]
    simp [e1, l, e3, f1]
  · obtain ⟨h', f1, f2⟩ := fin (6151 * n + 29)
    refine ⟨h', ?_, f2⟩
    rw [f_l_box_eq]
    simp [e1, l, f1]
/-! grounds -/
variable [Fr]
@[simp] theorem rangeL_nat {lo : Int} {n : Nat} : rangeL lo (n + 1) = .int lo :: rangeL (lo + 1) n := rfl
@[simp] theorem rangeL_z {lo : Int} : rangeL lo 0 = [] := rfl
theorem rangeL_map : ∀ {n : Nat} {a : Nat}, rangeL a n = (List.range' a n).map fun i : Nat => D.int i
  | 0, _ => rfl
  | n + 1, a => by
    have e : ((a : Int) + 1) = ((a + 1 : Nat) : Int) := by omega
    rw [rangeL_nat, List.range'_succ, List.map_cons, e, rangeL_map]
theorem itRng_nat {n : Nat} (h : n ≤ 1000000) : itRng (.int 0) (.int n) = some ((List.range n).map fun i : Nat => D.int i) := by
  have b1 : inB 0 = true := by unfold inB; decide
  have b2 : inB (n : Int) = true := by unfold inB; simp; omega
  unfold itRng
  simp only [b1, b2, Bool.true_and, decide_eq_true_eq]
  rw [if_pos (by omega), List.range_eq_range', ← rangeL_map, show ((n : Int) - 0).toNat = n by omega]
  rfl
end Tv
end

section
set_option autoImplicit false
set_option maxHeartbeats 1000000
/-! The laws' own standings, catches, courses. -/
namespace Tv
open PySem
variable [Fr]
/-! what may be, behind, sold: by the law -/
/-! the standing behind, as a law tells it -/
@[simp] theorem dInt_bl {b : Bool} : dBi .int [.bl b] = some (.int (b2 b)) := rfl
end Tv
end

section
set_option autoImplicit false
set_option maxHeartbeats 1000000
/-! The catches in order; courses drawn. -/
namespace Tv
open PySem
variable [Fr]
end Tv
end

section
set_option autoImplicit false
set_option maxHeartbeats 1000000
/-! Things of whatever kind, things spoilt: small enough to be shown. -/
namespace Tv
open PySem
mutual
/-- small: whole numbers to B, signs, nothing of one's own -/
def D.nic (B : Nat) : D → Bool
  | .non => true | .bl _ => true
  | .int i => decide (i.natAbs ≤ B)
  | .str s => s.cps.toList.all fun c => decide (c < 16 ^ 8)
  | .tup xs => D.nics B xs | .lst xs => D.nics B xs
  | .dct kvs => kvs.all fun p => decide (p.1.natAbs ≤ B) && decide (p.2.natAbs ≤ B)
  | .bor _ => false | .scr _ => false | .ref _ => false | .exc _ _ => false
def D.nics (B : Nat) : List D → Bool
  | [] => true
  | x :: xs => D.nic B x && D.nics B xs
end
theorem log_lt {i : Int} {B : Nat} (hB : B < 10 ^ 30) (h : i.natAbs ≤ B) : i.natAbs.log2 < 1920 := by
  by_cases z : i.natAbs = 0
  · rw [z]; decide
  · exact Nat.lt_trans ((Nat.log2_lt (k := 100) z).mpr (Nat.lt_of_le_of_lt h (Nat.lt_trans hB (by decide)))) (by decide)
theorem len_le {i : Int} {B : Nat} (hB : B < 10 ^ 30) (h : i.natAbs ≤ B) : (PyData.shown (.int i)).length ≤ 31 := by
  rw [PyData.shown]
  have e := int_text_length_le10 (a := i) (k := 30) (by decide) (Nat.lt_of_le_of_lt h hB)
  rw [ofString_length]
  exact e
mutual
theorem nic_pl {B : Nat} : ∀ {d : D}, d.nic B = true → d.pl = true
  | .non, _ => rfl | .bl _, _ => rfl | .int _, _ => rfl | .str _, _ => rfl
  | .tup xs, h => by rw [D.pl]; rw [D.nic] at h; exact nics_pl h
  | .lst xs, h => by rw [D.pl]; rw [D.nic] at h; exact nics_pl h
  | .dct _, _ => rfl
  | .bor _, h => by cases h
  | .scr _, h => by cases h
  | .ref _, h => by cases h
  | .exc _ _, h => by cases h
theorem nics_pl {B : Nat} : ∀ {xs : List D}, D.nics B xs = true → D.pls xs = true
  | [], _ => rfl
  | x :: xs, h => by
    rw [D.nics, Bool.and_eq_true] at h
    rw [D.pls, nic_pl h.1, nics_pl h.2]; rfl
end
theorem kv_show {B : Nat} (hB : B < 10 ^ 30) : ∀ {kvs : List (Int × Int)}, (kvs.all fun p => decide (p.1.natAbs ≤ B) && decide (p.2.natAbs ≤ B)) = true → PyData.showableKv (kvs.map fun p => (.int p.1, .int p.2)) = true ∧ PyData.leavesShortKv 31 (kvs.map fun p => (.int p.1, .int p.2)) = true
  | [], _ => ⟨rfl, rfl⟩
  | p :: kvs, h => by
    rw [List.all_cons, Bool.and_eq_true, Bool.and_eq_true, decide_eq_true_eq, decide_eq_true_eq] at h
    obtain ⟨i1, i2⟩ := kv_show hB h.2
    refine ⟨?_, ?_⟩
    · rw [List.map_cons, PyData.showableKv, i1, PyData.showable, PyData.showable, decide_eq_true (log_lt hB h.1.1), decide_eq_true (log_lt hB h.1.2)]; rfl
    · rw [List.map_cons, PyData.leavesShortKv, i2, PyData.leavesShort, PyData.leavesShort, decide_eq_true (len_le hB h.1.1), decide_eq_true (len_le hB h.1.2)]; rfl
mutual
theorem nic_show {B : Nat} (hB : B < 10 ^ 30) : ∀ {d : D}, d.nic B = true → PyData.showable d.py = true ∧ PyData.leavesShort 31 d.py = true
  | .non, _ => ⟨rfl, rfl⟩
  | .bl _, _ => ⟨rfl, rfl⟩
  | .int i, h => by
    rw [D.nic, decide_eq_true_eq] at h
    exact ⟨by rw [D.py, PyData.showable, decide_eq_true (log_lt hB h)], by rw [D.py, PyData.leavesShort, decide_eq_true (len_le hB h)]⟩
  | .str s, h => by
    rw [D.nic] at h
    exact ⟨rfl, by rw [D.py, PyData.leavesShort, h]⟩
  | .tup xs, h => by rw [D.nic] at h; rw [D.py, PyData.showable, PyData.leavesShort]; exact nics_show hB h
  | .lst xs, h => by rw [D.nic] at h; rw [D.py, PyData.showable, PyData.leavesShort]; exact nics_show hB h
  | .dct kvs, h => by rw [D.nic] at h; rw [D.py, PyData.showable, PyData.leavesShort]; exact kv_show hB h
  | .bor _, h => by cases h
  | .scr _, h => by cases h
  | .ref _, h => by cases h
  | .exc _ _, h => by cases h
theorem nics_show {B : Nat} (hB : B < 10 ^ 30) : ∀ {xs : List D}, D.nics B xs = true → PyData.showableAll (D.pys xs) = true ∧ PyData.leavesShortAll 31 (D.pys xs) = true
  | [], _ => ⟨rfl, rfl⟩
  | x :: xs, h => by
    rw [D.nics, Bool.and_eq_true] at h
    obtain ⟨a1, a2⟩ := nic_show hB h.1
    obtain ⟨b1, b2⟩ := nics_show hB h.2
    rw [D.pys, PyData.showableAll, PyData.leavesShortAll, a1, a2, b1, b2]; exact ⟨rfl, rfl⟩
end
/-- small, of so much bulk, so deep -/
structure Fit (B w p : Nat) (d : D) : Prop where
  n : d.nic B = true
  b : PyData.bulk d.py ≤ w
  d : PyData.depth d.py ≤ p
theorem Fit.pl {B w p : Nat} {d : D} (f : Fit B w p d) : d.pl = true := nic_pl f.n
theorem Fit.shows {B w p : Nat} {d : D} (f : Fit B w p d) (hB : B < 10 ^ 30) (hw : w ≤ 400000) (hp : p ≤ 60) : d.shows = true := by
  obtain ⟨s1, s2⟩ := nic_show hB f.n
  have s3 := PyData.shown_le_bulk 31 (by decide) d.py s2
  have fb := f.b
  have fd := f.d
  have rd : d.rd = true := by
    have := f.pl
    cases d <;> first | exact this | (cases this; done)
  unfold D.shows
  rw [rd, s1, decide_eq_true (show PyData.depth d.py ≤ 60 by omega), decide_eq_true (show (PyData.shown d.py).length ≤ LIM by unfold LIM; omega)]
  rfl
theorem fit_int {B : Nat} {i : Int} (h : i.natAbs ≤ B) : Fit B 0 0 (.int i) := ⟨by rw [D.nic]; exact decide_eq_true h, Nat.le_refl _, Nat.le_refl _⟩
end Tv
end

section
set_option autoImplicit false
set_option maxHeartbeats 1000000
/-! Things spoilt at any place. -/
namespace Tv
open PySem
theorem dSl_fromto {xs : List D} {a b : Nat} (h : a ≤ b) : dSl (.tup xs) (some (a : Int)) (some (b : Int)) = some (.tup ((xs.drop a).take (b - a))) := by
  show some (D.tup (cutD xs (some (a : Int)) (some (b : Int)))) = _
  unfold cutD
  rw [HT.sIx_nat, HT.sIx_nat]
  congr 2
  by_cases h1 : a ≤ xs.length
  · rw [Nat.min_eq_left h1]
    by_cases h2 : b ≤ xs.length
    · rw [Nat.min_eq_left h2]
    · rw [Nat.min_eq_right (by omega), List.take_of_length_le (by rw [List.length_drop]; omega), List.take_of_length_le (by rw [List.length_drop]; omega)]
  · rw [Nat.min_eq_right (show xs.length ≤ b by omega), Nat.min_eq_right (show xs.length ≤ a by omega), List.drop_of_length_le (Nat.le_refl _), List.drop_of_length_le (by omega)]
    simp
@[simp] theorem dSl_from1 {xs : List D} {n : Nat} : dSl (.tup xs) (some ((n : Int) + 1)) none = some (.tup (xs.drop (n + 1))) := dSl_from (n := n + 1)
@[simp] theorem dSl_one {xs : List D} {n : Nat} : dSl (.tup xs) (some (n : Int)) (some ((n : Int) + 1)) = some (.tup ((xs.drop n).take 1)) := by
  have := dSl_fromto (xs := xs) (a := n) (b := n + 1) (by omega)
  rw [show n + 1 - n = 1 by omega] at this
  exact this
@[simp] theorem dRev_tup {xs : List D} : dRev (.tup xs) = some (.tup xs.reverse) := rfl
section
variable [Fr] {i wo po B : Nat} {odd : D}
end
end Tv
end

section
set_option autoImplicit false
set_option maxHeartbeats 1000000
/-! What the laws take for grounds, standings, catches. -/
namespace Tv
open PySem
end Tv
end

section
set_option autoImplicit false
set_option maxHeartbeats 1000000
/-! What is said of a catch, what is due. -/
namespace Tv
open PySem
def kSaid (r : R D) : R D := match r with
  | .ok d h => if d.shows then .ok (.str (PyData.shown d.py)) h else .bad
  | .exc x h => if wordFits x then .ok (.str (wordOf x)) h else .bad
  | .bad => .bad
@[simp] theorem kSaid_ok {d : D} {h : Hs} : kSaid (.ok d h) = if d.shows then .ok (.str (PyData.shown d.py)) h else .bad := id rfl
@[simp] theorem e_said {cl : Nat → List D → Hs → R D} {a : E} {e : Ev} {h : Hs} : evE cl (.said a) e h = kSaid (evE cl a e h) := id rfl
section
variable {k : Nat} {h : Hs} {a b c : D}
end
end Tv
end

section
set_option autoImplicit false
set_option maxHeartbeats 8000000
/-! k10: classes of refusals. -/
namespace Tv
open PySem
variable {h : Hs} {k i : Nat} {a0 a2 a3 a5 a6 a7 a8 a9 a10 a11 a12 : Sl}
abbrev sNo : Str := ⟨#[33, 32, 110, 111, 110, 101, 32, 111, 102, 32, 116, 104, 101, 109]⟩
abbrev sEx : Str := ⟨#[33, 32]⟩
abbrev sBk : Str := ⟨#[33, 32, 98, 114, 111, 107, 101, 110, 32]⟩
def wds : List Str := [⟨#[103, 114, 111, 117, 110, 100, 115]⟩, ⟨#[115, 116, 97, 110, 100, 105, 110, 103]⟩, ⟨#[99, 97, 116, 99, 104]⟩, ⟨#[99, 111, 117, 114, 115, 101]⟩, ⟨#[98, 101, 100]⟩, ⟨#[110, 117, 109, 98, 101, 114]⟩, ⟨#[98, 111, 111, 107]⟩, ⟨#[100, 101, 101, 100]⟩, ⟨#[116, 104, 101, 114, 101]⟩, ⟨#[103, 111, 110, 101]⟩, ⟨#[108, 97, 99, 107, 105, 110, 103]⟩, ⟨#[110, 111, 116, 104, 105, 110, 103]⟩, ⟨#[109, 97, 110, 121]⟩, ⟨#[116, 101, 120, 116]⟩, ⟨#[119, 111, 114, 100]⟩]
def wdc (c : Nat) : Str := wds.getD (c - 1) ⟨#[]⟩
theorem w_0 {x : D} : runF G (k + 1) n_l_word [.exc 0 x] h = .ok (.str sNo) h := by kernel_rfl
theorem w_1 {x : D} : runF G (k + 1) n_l_word [.exc 1 x] h = .ok (.str (sEx ++ wdc 1)) h := by kernel_rfl
theorem w_2 {x : D} : runF G (k + 1) n_l_word [.exc 2 x] h = .ok (.str (sEx ++ wdc 2)) h := by kernel_rfl
theorem w_3 {x : D} : runF G (k + 1) n_l_word [.exc 3 x] h = .ok (.str (sEx ++ wdc 3)) h := by kernel_rfl
theorem w_4 {x : D} : runF G (k + 1) n_l_word [.exc 4 x] h = .ok (.str (sEx ++ wdc 4)) h := by kernel_rfl
theorem w_5 {x : D} : runF G (k + 1) n_l_word [.exc 5 x] h = .ok (.str (sEx ++ wdc 5)) h := by kernel_rfl
theorem w_6 {x : D} : runF G (k + 1) n_l_word [.exc 6 x] h = .ok (.str (sEx ++ wdc 6)) h := by kernel_rfl
theorem w_7 {x : D} : runF G (k + 1) n_l_word [.exc 7 x] h = .ok (.str (sEx ++ wdc 7)) h := by kernel_rfl
theorem w_8 {x : D} : runF G (k + 1) n_l_word [.exc 8 x] h = .ok (.str (sEx ++ wdc 8)) h := by kernel_rfl
theorem w_9 {x : D} : runF G (k + 1) n_l_word [.exc 9 x] h = .ok (.str (sEx ++ wdc 9)) h := by kernel_rfl
theorem w_10 {x : D} : runF G (k + 1) n_l_word [.exc 10 x] h = .ok (.str (sEx ++ wdc 10)) h := by kernel_rfl
theorem w_11 {x : D} : runF G (k + 1) n_l_word [.exc 11 x] h = .ok (.str (sEx ++ wdc 11)) h := by kernel_rfl
theorem w_12 {x : D} : runF G (k + 1) n_l_word [.exc 12 x] h = .ok (.str (sEx ++ wdc 12)) h := by kernel_rfl
theorem w_13 {x : D} : runF G (k + 1) n_l_word [.exc 13 x] h = .ok (.str (sEx ++ wdc 13)) h := by kernel_rfl
theorem w_14 {x : D} : runF G (k + 1) n_l_word [.exc 14 x] h = .ok (.str (sEx ++ wdc 14)) h := by kernel_rfl
theorem w_15 {x : D} : runF G (k + 1) n_l_word [.exc 15 x] h = .ok (.str (sEx ++ wdc 15)) h := by kernel_rfl
theorem w_c {x : D} {c : Nat} (h1 : 1 ≤ c) (h2 : c ≤ 15) : runF G (k + 1) n_l_word [.exc c x] h = .ok (.str (sEx ++ wdc c)) h := by
  have : c = 1 ∨ c = 2 ∨ c = 3 ∨ c = 4 ∨ c = 5 ∨ c = 6 ∨ c = 7 ∨ c = 8 ∨ c = 9 ∨ c = 10 ∨ c = 11 ∨ c = 12 ∨ c = 13 ∨ c = 14 ∨ c = 15 := by omega
  rcases this with rfl | rfl | rfl | rfl | rfl | rfl | rfl | rfl | rfl | rfl | rfl | rfl | rfl | rfl | rfl
  · exact w_1
  · exact w_2
  · exact w_3
  · exact w_4
  · exact w_5
  · exact w_6
  · exact w_7
  · exact w_8
  · exact w_9
  · exact w_10
  · exact w_11
  · exact w_12
  · exact w_13
  · exact w_14
  · exact w_15
theorem add_s {a b : Str} (l : a.length + b.length ≤ LIM) : dAdd (.str a) (.str b) = some (.str (a ++ b)) := by
  show ofLen (a.length + b.length) (.str (a ++ b)) = _
  unfold ofLen
  rw [if_pos l]
theorem eq_s {a b : Str} : dEq (.str a) (.str b) = some (decide (a = b)) := by
  show some (PyData.eqv (.str a) (.str b)) = _
  rw [PyData.eqv, Bool.beq_eq_decide_eq]
theorem shown_y {y : Nat} (l : y < 150) : dBi .rep [.int y] = some (.str (PyData.shown (.int y))) ∧ dBi .str [.int y] = some (.str (PyData.shown (.int y))) ∧ (PyData.shown (.int y)).length ≤ 100 := by
  have f : Fit 150 0 0 (.int y) := fit_int (by omega)
  have s := f.shows (by decide) (by decide) (by decide)
  refine ⟨?_, ?_, ?_⟩
  · show (if (D.int y).shows then some (D.str (PyData.shown (D.int y).py)) else none) = _
    rw [if_pos s]; rfl
  · have q : ∀ y < 150, ((y : Nat) : Int).natAbs.log2 < 1920 := by decide
    show (if ((y : Nat) : Int).natAbs.log2 < 1920 then some (D.str (toString ((y : Nat) : Int))) else none) = _
    rw [if_pos (q y l)]; rfl
  · obtain ⟨s1, s2⟩ := nic_show (show 150 < 10 ^ 30 by decide) f.n
    have s3 := PyData.shown_le_bulk 31 (by decide) (D.int y).py s2
    have fb := f.b
    have s3 : (PyData.shown (.int y)).length ≤ _ := s3
    have fb : PyData.bulk (.int y) ≤ 0 := fb
    omega
theorem isx_16 {j : Nat} {x : D} : dIsi (.exc j) (.exc 16 x) = some (j == 16 || j == 0) := rfl
theorem cnt_16 : dBi .count [.lst [.bl false, .bl false, .bl false, .bl false, .bl false, .bl false, .bl false, .bl false, .bl false, .bl false, .bl false, .bl false, .bl false, .bl false, .bl false, .bl true], .bl true] = some (.int 1) := by kernel_rfl
theorem w_16 {y : Nat} (l : y < 150) : runF G (k + 1) n_l_word [.exc 16 (.int y)] h = .ok (.str (sBk ++ PyData.shown (.int y))) h := by
  obtain ⟨e1, _, e3⟩ := shown_y l
  have e2 := add_s (a := sBk) (b := PyData.shown (.int y)) (by have : sBk.length = 9 := rfl; unfold LIM; omega)
  rw [run_eq (fn := f_l_word) rfl]
  have ha : (D.exc 16 (.int y)).hand = .exc 16 (.int y) := rfl
  have hv : dIsi .value (.exc 16 (.int y)) = some true := rfl
  have a1 : ∀ a b c d e f g i : D, dAdd (.lst [a, b, c, d]) (.lst [e, f, g, i]) = some (.lst [a, b, c, d, e, f, g, i]) := fun _ _ _ _ _ _ _ _ => rfl
  have a2 : ∀ a b c d e f g i j l m n : D, dAdd (.lst [a, b, c, d, e, f, g, i]) (.lst [j, l, m, n]) = some (.lst [a, b, c, d, e, f, g, i, j, l, m, n]) := fun _ _ _ _ _ _ _ _ _ _ _ _ => rfl
  have a3 : ∀ a b c d e f g i j l m n o p q r : D, dAdd (.lst [a, b, c, d, e, f, g, i, j, l, m, n]) (.lst [o, p, q, r]) = some (.lst [a, b, c, d, e, f, g, i, j, l, m, n, o, p, q, r]) := fun _ _ _ _ _ _ _ _ _ _ _ _ _ _ _ _ => rfl
  have x15 : ∀ a b c d e f g i j l m n o p q r : D, dIx (.lst [a, b, c, d, e, f, g, i, j, l, m, n, o, p, q, r]) (.int 15) = some r := fun _ _ _ _ _ _ _ _ _ _ _ _ _ _ _ _ => rfl
  have xa : xatO (.exc 16 (.int y)) = some (.int y) := rfl
  have rc : ∀ xs, rcvOk .count (.lst xs) = true := fun _ => rfl
  simp [f_l_word, ha, isx_16, a1, a2, a3, hv, rc, cnt_16, x15, xa, e1, e2, dEq_int]
/-! the law -/
abbrev sgn : Str := ⟨#[32, 33, 34, 35, 36, 38, 39, 40, 41, 42, 43, 44, 45, 46, 47, 48, 49, 50, 51, 52, 53, 54, 55, 56, 57, 58, 59, 60, 61, 62, 63, 64, 65, 66, 67, 68, 69, 70, 71, 72, 73, 74, 75, 76, 77, 78, 79, 80, 81, 82, 83, 84, 85, 86, 87, 88, 89, 90, 91, 92, 93, 94, 95, 96, 97, 98, 99, 100, 101, 102, 103, 104, 105, 106, 107, 108, 109, 110, 111, 112, 113, 114, 115, 116, 117, 118, 119, 120, 121, 122, 123, 124, 125, 126, 10, 9]⟩
theorem sgn_all : ((List.range 96).all fun m => match dIx (.str sgn) (.int (m : Nat)) with
  | some (.str s) => s.length == 1
  | _ => false) = true := by decide +kernel
theorem sgn_at {m : Nat} (l : m < 96) : ∃ s : Str, dIx (.str sgn) (.int m) = some (.str s) ∧ s.length = 1 := by
  have q := List.all_eq_true.mp sgn_all m (List.mem_range.mpr l)
  split at q
  · rename_i s e
    exact ⟨s, e, by simpa using q⟩
  · cases q
theorem cb_10 : ∀ {xs : List Nat} {h : Hs}, BoxAt h i → ∃ (ss : List Str) (h' : Hs), (∀ s ∈ ss, s.length = 1) ∧ ss.length = xs.length ∧ BoxAt h' i ∧
    compB (runF G (k + 6)) (.n 6) (.c (.bl true)) x_law_k10_2_0 (xs.map fun n : Nat => .int n) [a0, .v (.str sgn), a2, a3, .v (.ref i), a5, .u, a7, a8, a9, a10, a11, a12] h = .ok (ss.map .str) h'
  | [], h, q => ⟨[], h, fun s hs => (by cases hs), rfl, q, rfl⟩
  | x :: xs, h, q => by
    obtain ⟨m, h1, e1, l1, q1⟩ := r_take (k := k + 5) (m := 96) (M := 96) rfl q (by omega) (by omega)
    obtain ⟨s, e2, l2⟩ := sgn_at l1
    obtain ⟨ss, h2, w, ln, q2, e3⟩ := cb_10 (xs := xs) (h := h1) q1
    refine ⟨s :: ss, h2, fun z hz => ?_, by simp [ln], q2, ?_⟩
    · rcases List.mem_cons.mp hz with rfl | hz
      · exact l2
      · exact w z hz
    · have eo : oneC (runF G (k + 6)) (.n 6) (.c (.bl true)) x_law_k10_2_0 (.int x) [a0, .v (.str sgn), a2, a3, .v (.ref i), a5, .u, a7, a8, a9, a10, a11, a12] h = .ok (some (.str s)) h1 := by
        simp [x_law_k10_2_0, e1, e2]
      rw [List.map_cons, compB_cons, eo, R.bind_ok, e3, R.bind_ok]
      rfl
theorem allS_map : ∀ {ss : List Str}, allS (ss.map .str) = some ss
  | [] => rfl
  | s :: ss => by rw [List.map_cons, allS, allS_map]; rfl
theorem sum_1 : ∀ {ss : List Str}, (∀ s ∈ ss, s.length = 1) → (ss.map fun s : Str => s.length).sum = ss.length
  | [], _ => rfl
  | s :: ss, w => by
    rw [List.map_cons, List.sum_cons, w s List.mem_cons_self, sum_1 fun z hz => w z (List.mem_cons_of_mem _ hz), List.length_cons]
    omega
theorem join_1 {ss : List Str} (w : ∀ s ∈ ss, s.length = 1) (l : ss.length ≤ 1000) : dBi .join [.str ⟨#[]⟩, .lst (ss.map .str)] = some (.str (Txt.join ⟨#[]⟩ ss)) := by
  show (match allS (ss.map .str) with
    | some ss => if (ss.map fun s : Str => s.length).sum + ss.length * (⟨#[]⟩ : Str).length ≤ LIM then some (D.str (Txt.join ⟨#[]⟩ ss)) else none
    | none => none) = _
  rw [allS_map]
  show (if (ss.map fun s : Str => s.length).sum + ss.length * 0 ≤ LIM then some (D.str (Txt.join ⟨#[]⟩ ss)) else none) = _
  rw [sum_1 w, if_pos (by unfold LIM; omega)]
theorem s_k10_0 {c : Nat} {x : D} (h1 : 1 ≤ c) (h2 : c ≤ 15) : inT (runF G (k + 6)) (.t [8, 9]) b_law_k10_2_0 (.tup [.str (wdc c), .exc c x]) [a0, .v (.str sgn), a2, a3, .v (.ref i), a5, a6, a7, a8, a9, a10, a11, a12] h = .ok (.nx [a0, .v (.str sgn), a2, a3, .v (.ref i), a5, a6, a7, .v (.str (wdc c)), .v (.exc c x), a10, a11, a12]) h := by
  have e1 := w_c (k := k + 5) (h := h) (x := x) h1 h2
  have lw : (wdc c).length ≤ 100 := by
    have : c = 1 ∨ c = 2 ∨ c = 3 ∨ c = 4 ∨ c = 5 ∨ c = 6 ∨ c = 7 ∨ c = 8 ∨ c = 9 ∨ c = 10 ∨ c = 11 ∨ c = 12 ∨ c = 13 ∨ c = 14 ∨ c = 15 := by omega
    rcases this with rfl | rfl | rfl | rfl | rfl | rfl | rfl | rfl | rfl | rfl | rfl | rfl | rfl | rfl | rfl <;> decide
  have e2 := add_s (a := sEx) (b := wdc c) (by have : sEx.length = 2 := rfl; unfold LIM; omega)
  have ha : (D.exc c x).hand = .exc c x := rfl
  have hk : (D.exc c x).keep = true := rfl
  have hi : dIsi (.exc 0) (.exc c x) = some true := by
    show some (0 == c || 0 == 0) = _
    simp
  simp [b_law_k10_2_0, putT, hk, ha, e1, e2, hi, eq_s]
theorem l_k10_0 {x : D} : ∀ {cs : List Nat} {a8 a9 : Sl}, (∀ c ∈ cs, 1 ≤ c ∧ c ≤ 15) → ∃ b8 b9, forB (runF G (k + 6)) (.t [8, 9]) b_law_k10_2_0 (cs.map fun c => .tup [.str (wdc c), .exc c x]) [a0, .v (.str sgn), a2, a3, .v (.ref i), a5, a6, a7, a8, a9, a10, a11, a12] h = .ok (.nx [a0, .v (.str sgn), a2, a3, .v (.ref i), a5, a6, a7, b8, b9, a10, a11, a12]) h
  | [], a8, a9, _ => ⟨a8, a9, forB_nil⟩
  | c :: cs, a8, a9, w => by
    obtain ⟨b8, b9, e2⟩ := l_k10_0 (x := x) (cs := cs) (a8 := .v (.str (wdc c))) (a9 := .v (.exc c x)) fun z hz => w z (List.mem_cons_of_mem _ hz)
    exact ⟨b8, b9, by rw [List.map_cons, forB_cons, s_k10_0 (w c List.mem_cons_self).1 (w c List.mem_cons_self).2, kFor_nx, e2]⟩
theorem all_no {t : Str} : kSaid (runF G (k + 6) n_all_standings [.str t] h) = .ok (.str ⟨#[33, 32, 103, 114, 111, 117, 110, 100, 115]⟩) h := by
  have e1 := r_need_grounds (k := k) (h := h) (d := .str t) rfl
  have e2 : isGr (.str t) = false := rfl
  rw [e2] at e1
  have e3 : runF G (k + 6) n_all_standings [.str t] h = .exc (.exc 1 (.str "no grounds")) h := by
    rw [run_eq (fn := f_all_standings) rfl]
    have ha : (D.str t).hand = .str t := rfl
    simp [f_all_standings, ha, e1]
  rw [e3]
  have ff : wordFits (.exc 1 (.str "no grounds")) = true := by kernel_rfl
  show (if wordFits (.exc 1 (.str "no grounds")) then R.ok (D.str (wordOf (.exc 1 (.str "no grounds")))) h else .bad) = _
  rw [if_pos ff]
  exact congrArg (fun z => R.ok (D.str z) h) (by kernel_rfl)
abbrev wdD : D := .lst (wds.map .str)
theorem s_k10_1 {is : List Int} {m : Nat} (hm : m < 1000) : ∃ b4 b5 b7 b8 b9 b10 b11 b12 h', inT (runF G (k + 6)) (.n 3) b_law_k10_2_1 (.int m) [.v (.scr (is.map .int)), .v (.str sgn), .v wdD, a3, a5, a6, .u, a7, a8, a9, a10, a11, a12] h = .ok (.nx [.v (.scr (is.map .int)), .v (.str sgn), .v wdD, .v (.int m), b4, b5, .u, b7, b8, b9, b10, b11, b12]) h' := by
  obtain ⟨h1, e1, q1⟩ := r_box (k := k + 5) (h := h) (is := is) hm
  generalize h.length = i at *
  obtain ⟨n, h2, e2, l2, q2⟩ := r_take (k := k + 5) (m := 11) (M := 11) rfl q1 (by omega) (by omega)
  obtain ⟨ss, h3, w3, l3, q3, e3⟩ := cb_10 (k := k) (xs := List.range n) (a0 := .v (.scr (is.map .int))) (a2 := .v wdD) (a3 := .v (.int m)) (a5 := a6) (a7 := a7) (a8 := a8) (a9 := a9) (a10 := a10) (a11 := a11) (a12 := a12) q2
  rw [List.length_range] at l3
  have e4 := join_1 w3 (by omega)
  have er := itRng_nat (n := n) (by omega)
  generalize Txt.join ⟨#[]⟩ ss = T at *
  obtain ⟨b8, b9, e5⟩ := l_k10_0 (k := k) (h := h3) (x := .str T) (cs := [1, 2, 3, 4, 5, 6, 7, 8, 9, 10, 11, 12, 13, 14, 15]) (a0 := .v (.scr (is.map .int))) (a2 := .v wdD) (a3 := .v (.int m)) (i := i) (a5 := .v (.str T)) (a6 := .u) (a7 := .v (.lst [.exc 1 (.str T), .exc 2 (.str T), .exc 3 (.str T), .exc 4 (.str T), .exc 5 (.str T), .exc 6 (.str T), .exc 7 (.str T), .exc 8 (.str T), .exc 9 (.str T), .exc 10 (.str T), .exc 11 (.str T), .exc 12 (.str T), .exc 13 (.str T)])) (a8 := a8) (a9 := a9) (a10 := a10) (a11 := a11) (a12 := a12) (by
    intro c hc
    simp at hc
    omega)
  have ez : itZip wdD (.lst [.exc 1 (.str T), .exc 2 (.str T), .exc 3 (.str T), .exc 4 (.str T), .exc 5 (.str T), .exc 6 (.str T), .exc 7 (.str T), .exc 8 (.str T), .exc 9 (.str T), .exc 10 (.str T), .exc 11 (.str T), .exc 12 (.str T), .exc 13 (.str T), .exc 14 (.str T), .exc 15 (.str T)]) = some (([1, 2, 3, 4, 5, 6, 7, 8, 9, 10, 11, 12, 13, 14, 15] : List Nat).map fun c => .tup [.str (wdc c), .exc c (.str T)]) := rfl
  obtain ⟨y, h4, e6, l6, q4⟩ := r_take (k := k + 5) (m := 150) (M := 150) rfl q3 (by omega) (by omega)
  obtain ⟨f1, f2, f3⟩ := shown_y l6
  have e7 := w_16 (k := k + 5) (h := h4) l6
  have e8 := add_s (a := sBk) (b := PyData.shown (.int y)) (by have : sBk.length = 9 := rfl; unfold LIM; omega)
  have e9 := w_0 (k := k + 5) (h := h4) (x := .str T)
  have e10 := all_no (k := k) (h := h4) (t := T)
  have i1 : dIsi (.exc 0) (.exc 16 (.int y)) = some true := rfl
  have i2 : dIsi .value (.exc 0 (.str T)) = some true := rfl
  have a1 : ∀ a b c d e f A B C D' E F G' : D, dAdd (.lst [a, b, c, d, e, f]) (.lst [A, B, C, D', E, F, G']) = some (.lst [a, b, c, d, e, f, A, B, C, D', E, F, G']) := fun _ _ _ _ _ _ _ _ _ _ _ _ _ => rfl
  have a2 : ∀ a b c d e f A B C D' E F G' x y : D, dAdd (.lst [a, b, c, d, e, f, A, B, C, D', E, F, G']) (.lst [x, y]) = some (.lst [a, b, c, d, e, f, A, B, C, D', E, F, G', x, y]) := fun _ _ _ _ _ _ _ _ _ _ _ _ _ _ _ => rfl
  have kx : ∀ c x, (D.exc c x).keep = true := fun _ _ => rfl
  have hx : ∀ c x, (D.exc c x).hand = .exc c x := fun _ _ => rfl
  have nw : ∀ t, nb t wdD = some wdD := fun t => by cases t <;> rfl
  have kw : wdD.keep = true := rfl
  have hT : (D.str T).hand = .str T := rfl
  have lr : n ≤ LIM := by unfold LIM; omega
  refine ⟨.v (.ref i), .v (.str T), .v (.lst [.exc 1 (.str T), .exc 2 (.str T), .exc 3 (.str T), .exc 4 (.str T), .exc 5 (.str T), .exc 6 (.str T), .exc 7 (.str T), .exc 8 (.str T), .exc 9 (.str T), .exc 10 (.str T), .exc 11 (.str T), .exc 12 (.str T), .exc 13 (.str T)]), b8, b9, .v (.int y), .v (.exc 16 (.int y)), .v (.exc 0 (.str T)), h4, ?_⟩
  generalize PyData.shown (.int y) = S at *
  simp only [List.map_cons, List.map_nil] at e5
  have rj : ∀ s, rcvOk .join (.str s) = true := fun _ => rfl
  simp [b_law_k10_2_1, rj, e1, e2, er, e3, lr, e4, kx, hx, a1, a2, nw, ez, e5, e6, e7, f2, e8, i1, e9, i2, hT, e10, eq_s]
theorem l_k10_1 {is : List Int} {xs : List Nat} : ∀ {h : Hs} {v3 v4 v5 v7 v8 v9 v10 v11 v12 : Sl}, (∀ x ∈ xs, x < 1000) →
    ∃ b3 b4 b5 b7 b8 b9 b10 b11 b12 h', forB (runF G (k + 6)) (.n 3) b_law_k10_2_1 (xs.map fun j : Nat => .int j) [.v (.scr (is.map .int)), .v (.str sgn), .v wdD, v3, v4, v5, .u, v7, v8, v9, v10, v11, v12] h = .ok (.nx [.v (.scr (is.map .int)), .v (.str sgn), .v wdD, b3, b4, b5, .u, b7, b8, b9, b10, b11, b12]) h' := by
  induction xs with
  | nil => exact fun {h v3 v4 v5 v7 v8 v9 v10 v11 v12} _ => ⟨_, _, _, _, _, _, _, _, _, _, by rw [List.map_nil, forB_nil]⟩
  | cons x xs ih =>
    intro h v3 v4 v5 v7 v8 v9 v10 v11 v12 hx
    obtain ⟨b4, b5, b7, b8, b9, b10, b11, b12, h1, e1⟩ := s_k10_1 (k := k) (h := h) (is := is) (hx x List.mem_cons_self) (a3 := v3) (a5 := v4) (a6 := v5) (a7 := v7) (a8 := v8) (a9 := v9) (a10 := v10) (a11 := v11) (a12 := v12)
    obtain ⟨c3, c4, c5, c7, c8, c9, c10, c11, c12, h2, e2⟩ := ih (h := h1) (v3 := .v (.int x)) (v4 := b4) (v5 := b5) (v7 := b7) (v8 := b8) (v9 := b9) (v10 := b10) (v11 := b11) (v12 := b12) fun y hy => hx y (List.mem_cons_of_mem _ hy)
    refine ⟨c3, c4, c5, c7, c8, c9, c10, c11, c12, h2, ?_⟩
    rw [List.map_cons, forB_cons, e1, kFor_nx, e2]
theorem p_k10 (k : Nat) (is : List Int) (h : Hs) : ∃ h', runF G (k + 7) n_law_k10_2 [.scr (is.map .int)] h = .ok (.bl true) h' := by
  rw [run_eq (fn := f_law_k10_2) rfl]
  obtain ⟨m, em, lm⟩ : ∃ m : Nat, (if (if (4 : Int) < (is.length : Int) then (4 : Int) else (is.length : Int)) > 1 then (if (4 : Int) < (is.length : Int) then (4 : Int) else (is.length : Int)) else 1) = (m : Int) ∧ m ≤ 4 := by
    refine ⟨max 1 (min is.length 4), ?_, by omega⟩
    split <;> (try split) <;> omega
  obtain ⟨c3, c4, c5, c7, c8, c9, c10, c11, c12, h2, e2⟩ := l_k10_1 (k := k) (is := is) (xs := List.range m) (h := h) (v3 := .u) (v4 := .u) (v5 := .u) (v7 := .u) (v8 := .u) (v9 := .u) (v10 := .u) (v11 := .u) (v12 := .u) fun x hx => by
    have := List.mem_range.mp hx
    omega
  refine ⟨h2, ?_⟩
  have er := itRng_nat (n := m) (by omega)
  simp only [gt_iff_lt] at em
  have aw : dAdd (.lst [.str ⟨#[103, 114, 111, 117, 110, 100, 115]⟩, .str ⟨#[115, 116, 97, 110, 100, 105, 110, 103]⟩, .str ⟨#[99, 97, 116, 99, 104]⟩, .str ⟨#[99, 111, 117, 114, 115, 101]⟩, .str ⟨#[98, 101, 100]⟩, .str ⟨#[110, 117, 109, 98, 101, 114]⟩, .str ⟨#[98, 111, 111, 107]⟩, .str ⟨#[100, 101, 101, 100]⟩, .str ⟨#[116, 104, 101, 114, 101]⟩, .str ⟨#[103, 111, 110, 101]⟩, .str ⟨#[108, 97, 99, 107, 105, 110, 103]⟩]) (.lst [.str ⟨#[110, 111, 116, 104, 105, 110, 103]⟩, .str ⟨#[109, 97, 110, 121]⟩, .str ⟨#[116, 101, 120, 116]⟩, .str ⟨#[119, 111, 114, 100]⟩]) = some wdD := rfl
  have kw : wdD.keep = true := rfl
  simp only [f_law_k10_2]
  generalize wdD = WD at *
  simp [aw, kw, em, er, e2]
end Tv
end
set_option maxHeartbeats 0
open PySem PySem.W PySem.Calls PyProof.Rows
theorem PySem.Challenge.cw_shellturns_k10_classes_of_refusals_holds : PySem.Challenge.rw_shellturns_k10_classes_of_refusals.Holds := by
  w_on; o_law
  refine HandSHeadRun.head_any (r := K10.Rw) (q := K10.qv) (H := K10.hk) (ob := Tv.obV 5 K10.fa K10.fn K10.tf K10.exs) (M := K10.steps) (loose := K10.loose) (d := HandSHeadRun.topDef K10.Rw.prog 38) (kwd := []) Tv.obV_eq
    (by kernel_rfl) (fun s => by kernel_rfl) K10.run (by kernel_rfl) (by kernel_rfl) (by kernel_rfl) (by rfl) (by first | assumption | decide +kernel) (by decide +kernel) ⟨rfl, rfl, rfl, rfl, rfl, by decide +kernel⟩ ?hw ?hc
  case hw => w_witness2
  case hc =>
    refine Tv.walk_V (l := K10.rowL) (n := 63) (k := 27) (x := "_law_script") (F := Tv.runF Tv.G 27 Tv.n_law_k10_2) rfl (by decide) (by kernel_rfl) ⟨rfl, by decide, by decide⟩ ?G (fun is _ _ => Tv.p_k10 20 is [])
    have e : (HandSHeadRun.topDef K10.Rw.prog 38).name = ("law" : PySem.Str) := by kernel_rfl
    rw [e]
    exact fun w mg f h K c g hf => Tv.law_G K10.bs K10.gs K10.cks K10.one K10.sdOk K10.bS K10.bW K10.bB K10.atLaw rfl rfl rfl K10.lawAt w mg f h K c g hf
