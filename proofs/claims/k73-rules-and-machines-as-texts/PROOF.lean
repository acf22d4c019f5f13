import PyProof.Rows.All
import Wide.All
import OpenK.AllK
import Wide.FinOn
import HandS.ForMost
import HandS.ForExc
import HandS.More
import HandS.Codes
import KE.LtData
import HandS.TupAny
import HandS.Text
import HandS.CallLocal
import OpenK.KMore
import HandS.Wide
import HandS.Deep
import HandS.IsInst
import HandS.FStr
import HandS.RaiseMore
import HandS.Iter
import HandS.Comp
import HandS.Zip
import KE.GoesNew
import KE.GoesMore
import HandS.DictComp
import HandS.Small
import HandS.Style
import HandS.Exc
import KE.KDictPairs
import KE.SortData
import KE.KExcSuper
import KE.KSuper
import HandS.ExcSuper
import HandS.ExcInit
import HandS.HeadHook3
import KE.KExcIs
import HandS.ExcField
import HandS.ExcOwn
import HandS.Head2
import HandS.HeadEnd
import HandS.Ends
import PySem.Challenge.RW_tonguerules_k73_rules_and_machines_as_te
section
set_option Elab.async false
set_option linter.all false
set_option maxRecDepth 100000
/-! Values, code and its meaning: a small evaluator of the Python that the program is written in. -/
namespace Tg
open PySem

inductive KP where
  | i (n : Int) | s (l : List Nat)
  deriving DecidableEq, Inhabited
inductive PV where
  | non | bl (b : Bool) | int (i : Int) | str (s : List Nat)
  | tup (xs : List PV) | lst (xs : List PV) | dct (kvs : List (KP × PV)) | kdc (kvs : List (KP × PV))
  | fn (i : Nat) | cell (i : Nat)
  deriving Inhabited

abbrev Store := List (List PV)

inductive Rs (α : Type) where
  | ok (a : α) (S : Store)
  | exc (c : Nat) (v : PV) (S : Store)
  | bad

def Rs.bnd {α β : Type} (r : Rs α) (k : α → Store → Rs β) : Rs β := match r with
  | .ok a S => k a S
  | .exc c v S => .exc c v S
  | .bad => .bad

inductive Sl where
  | no | val (v : PV) | own (v : PV)
  deriving Inhabited
abbrev Env := List Sl
abbrev Den := Env → Store → Rs PV

def okv (v : Option PV) (S : Store) : Rs PV := match v with
  | some v => .ok v S
  | none => .bad

def look (ρ : Env) (i : Nat) : Sl := (ρ[i]?).getD .no

def dVar (i : Nat) : Den := fun ρ S => match look ρ i with
  | .val v => .ok v S
  | _ => .bad
def dBor (i : Nat) : Den := fun ρ S => match look ρ i with
  | .val v => .ok v S
  | .own v => .ok v S
  | .no => .bad
def dC (v : PV) : Den := fun _ S => .ok v S
def dNil : Den := fun _ S => .ok (.lst []) S
def asL : PV → List PV
  | .lst l => l
  | _ => []
def consV (v vs : PV) : PV := .lst (v :: asL vs)
def dCons (a r : Den) : Den := fun ρ S => (a ρ S).bnd fun v S1 => (r ρ S1).bnd fun vs S2 => .ok (consV v vs) S2
/-- no list is longer than the line -/
def okN (l : List PV) (v : PV) (S : Store) : Rs PV := if l.length ≤ sizeLine then .ok v S else .bad
def dTup (r : Den) : Den := fun ρ S => (r ρ S).bnd fun vs S1 => okN (asL vs) (.tup (asL vs)) S1
def dLst (r : Den) : Den := fun ρ S => (r ρ S).bnd fun vs S1 => okN (asL vs) (.lst (asL vs)) S1

/-- a new cell -/
def cellK (vs : PV) (S : Store) : Rs PV := if (asL vs).length ≤ sizeLine then .ok (.cell S.length) (S ++ [asL vs]) else .bad
def dLstC (r : Den) : Den := fun ρ S => (r ρ S).bnd cellK

def dB1 (f : PV → Option PV) (a : Den) : Den := fun ρ S => (a ρ S).bnd fun v S1 => okv (f v) S1
def dB2 (f : PV → PV → Option PV) (a b : Den) : Den := fun ρ S => (a ρ S).bnd fun v S1 => (b ρ S1).bnd fun u S2 => okv (f v u) S2

def truth : PV → Option Bool
  | .non => some false
  | .bl b => some b
  | .int i => some (i != 0)
  | .str s => if s.length ≤ sizeLine then some (!s.isEmpty) else none
  | .tup xs => some (!xs.isEmpty)
  | .lst xs => some (!xs.isEmpty)
  | _ => none

def tst (v : PV) (k : Bool → Rs PV) : Rs PV := match truth v with
  | some b => k b
  | none => .bad
def dIte (t a b : Den) : Den := fun ρ S => (t ρ S).bnd fun v S1 => tst v fun c => if c = true then a ρ S1 else b ρ S1
def onBl (v : PV) (k : Bool → Rs PV) : Rs PV := match v with
  | .bl c => k c
  | _ => .bad
def dAnd (a b : Den) : Den := fun ρ S => (a ρ S).bnd fun v S1 => onBl v fun c => if c = true then b ρ S1 else .ok (.bl false) S1
def dOr (a b : Den) : Den := fun ρ S => (a ρ S).bnd fun v S1 => onBl v fun c => if c = true then .ok (.bl true) S1 else b ρ S1
def dNot (a : Den) : Den := fun ρ S => (a ρ S).bnd fun v S1 => onBl v fun c => .ok (.bl (!c)) S1


/-! ### operators on values -/
def isz (n : Nat) (v : PV) : Option PV := if n ≤ sizeLine then some v else none
def small (i : Int) : Bool := decide (-(2 ^ 64) < i) && decide (i < 2 ^ 64)
def mulOk (i j : Int) : Bool := small i || (small j || decide (i.natAbs.log2 + j.natAbs.log2 < 1000000))
def vAdd : PV → PV → Option PV
  | .int i, .int j => some (.int (i + j))
  | .str s, .str t => isz (s.length + t.length) (.str (s ++ t))
  | .lst xs, .lst ys => isz (xs.length + ys.length) (.lst (xs ++ ys))
  | .tup xs, .tup ys => isz (xs.length + ys.length) (.tup (xs ++ ys))
  | _, _ => none
def vSub : PV → PV → Option PV
  | .int i, .int j => some (.int (i - j))
  | _, _ => none
def vMul : PV → PV → Option PV
  | .int i, .int j => if mulOk i j = true then some (.int (i * j)) else none
  | _, _ => none
def vDiv : PV → PV → Option PV
  | .int i, .int j => if 0 < j ∧ j.natAbs.log2 < 9000 then some (.int (i / j)) else none
  | _, _ => none
def vMod : PV → PV → Option PV
  | .int i, .int j => if 0 < j then some (.int (i % j)) else none
  | _, _ => none
def vPow : PV → PV → Option PV
  | .int i, .int j => if 0 ≤ j ∧ j ≤ 1000000 ∧ i.natAbs < 2 ^ 64 then some (.int (i ^ j.toNat)) else none
  | _, _ => none
def vNeg : PV → Option PV
  | .int i => some (.int (-i))
  | _ => none
/-! data -/
mutual
def toD : PV → Option PyData
  | .non => some .none
  | .bl b => some (.bool b)
  | .int i => some (.int i)
  | .str s => some (.str ⟨s.toArray⟩)
  | .tup xs => match toDs xs with
    | some ds => some (.tuple ds)
    | none => none
  | .lst xs => match toDs xs with
    | some ds => some (.list ds)
    | none => none
  | .dct _ => none
  | .kdc _ => none
  | .fn _ => none
  | .cell _ => none
def toDs : List PV → Option (List PyData)
  | [] => some []
  | x :: xs => match toD x with
    | some d => match toDs xs with
      | some ds => some (d :: ds)
      | none => none
    | none => none
end
def vEqD (a b : PV) : Option Bool := match toD a, toD b with
  | some d, some e => if (SeqAt.shaped d && SeqAt.shaped e) = true then some (PyData.eqv d e) else none
  | _, _ => none
def eqB : PV → PV → Option Bool
  | .str s, .str t => some (decide (s = t))
  | .int i, .int j => some (decide (i = j))
  | .bl i, .bl j => some (decide (i = j))
  | .non, .non => some true
  | .dct a, .dct [] => some a.isEmpty
  | a, b => vEqD a b
def vEq (a b : PV) : Option PV := (eqB a b).map .bl
def vNe (a b : PV) : Option PV := (eqB a b).map fun c => .bl (!c)
def lexB : List Int → List Int → Bool
  | [], [] => false
  | [], _ :: _ => true
  | _ :: _, [] => false
  | x :: xs, y :: ys => if x = y then lexB xs ys else decide (x < y)
def asInts : List PV → Option (List Int)
  | [] => some []
  | .int i :: r => (asInts r).map (i :: ·)
  | _ :: _ => none
def asBls : List PV → Option (List Bool)
  | [] => some []
  | .bl i :: r => (asBls r).map (i :: ·)
  | _ :: _ => none
def asStrs : List PV → Option (List (List Nat))
  | [] => some []
  | .str i :: r => (asStrs r).map (i :: ·)
  | _ :: _ => none
def ltD (a b : PV) : Option Bool := match toD a, toD b with
  | some d, some e => if (PySem.W.alike d e && (notN d && decide (d.depth < 60))) = true then some (PySem.W.dataLt d e) else none
  | _, _ => none
where notN : PyData → Bool
  | .none => false
  | _ => true
def ltB : PV → PV → Option Bool
  | .int i, .int j => some (decide (i < j))
  | .str s, .str t => some (decide (s < t))
  | .tup xs, .tup ys => match asInts xs, asInts ys with
    | some a, some b => some (lexB a b)
    | _, _ => ltD (.tup xs) (.tup ys)
  | a, b => ltD a b
def vLt (a b : PV) : Option PV := (ltB a b).map .bl
def vLe : PV → PV → Option PV
  | .int i, .int j => some (.bl (decide (i ≤ j)))
  | _, _ => none
def vGt : PV → PV → Option PV
  | .int i, .int j => some (.bl (decide (j < i)))
  | _, _ => none
def vGe : PV → PV → Option PV
  | .int i, .int j => some (.bl (decide (j ≤ i)))
  | _, _ => none
/-- is None -/
def vIs : PV → PV → Option PV
  | .non, .non => some (.bl true)
  | _, .non => some (.bl false)
  | _, _ => none
def vIsN : PV → PV → Option PV
  | .non, .non => some (.bl false)
  | _, .non => some (.bl true)
  | _, _ => none
def flatP : PV → Bool
  | .non => true
  | .bl _ => true
  | .int _ => true
  | .str _ => true
  | _ => false
def eqP : PV → PV → Bool
  | .non, .non => true
  | .bl a, .bl b => a == b
  | .bl a, .int b => (if a then 1 else 0) == b
  | .int a, .bl b => a == (if b then 1 else 0)
  | .int a, .int b => a == b
  | .str a, .str b => decide (a = b)
  | _, _ => false
def isNonP : PV → Bool
  | .non => true
  | _ => false
def inF (x : PV) (l : List PV) : Bool := l.any fun y => eqP y x
def flatIn (x : PV) (l : List PV) : Bool := flatP x && l.all flatP
/-- among data -/
def inD (x : PV) (l : List PV) : Option Bool := match toD x, toDs l with
  | some d, some ds => if (SeqAt.shaped d && SeqAt.shaped (.list ds)) = true then some (ds.any fun z => PyData.eqv z d) else none
  | _, _ => none
def inB : PV → PV → Option Bool
  | .str [c], .str z => some (decide (c ∈ z))
  | x, .lst l => if flatIn x l = true then some (inF x l) else inD x l
  | x, .tup l => if flatIn x l = true then some (inF x l) else inD x l
  | .str s, .dct kvs => some (kvs.any fun kv => decide (kv.1 = .s s))
  | .int n, .dct kvs => some (kvs.any fun kv => decide (kv.1 = .i n))
  | .str s, .kdc kvs => some (kvs.any fun kv => decide (kv.1 = .s s))
  | _, _ => none
def vIn (a b : PV) : Option PV := (inB a b).map .bl
def vNotIn (a b : PV) : Option PV := (inB a b).map fun c => .bl (!c)

/-! ### built-in functions of one thing -/
def uLen : PV → Option PV
  | .str s => if s.length ≤ sizeLine then some (.int s.length) else none
  | .lst l => some (.int l.length)
  | .tup l => some (.int l.length)
  | .dct l => some (.int l.length)
  | _ => none
def uTuple : PV → Option PV
  | .lst l => some (.tup l)
  | .tup l => some (.tup l)
  | _ => none
def uList : PV → Option PV
  | .lst l => some (.lst l)
  | .tup l => some (.lst l)
  | _ => none
def uAll : PV → Option PV
  | .lst l => (asBls l).map fun bs => .bl (bs.all id)
  | _ => none
def uAny : PV → Option PV
  | .lst l => (asBls l).map fun bs => .bl (bs.any id)
  | _ => none
def uStr : PV → Option PV
  | .int (.ofNat n) => if n.log2 < 1920 then some (.str (TL.numL n)) else none
  | .str s => some (.str s)
  | _ => none
/-- digits alone -/
def digit (c : Nat) : Bool := decide (48 ≤ c) && decide (c ≤ 57)
def uInt : PV → Option PV
  | .int i => some (.int i)
  | .bl k => some (.int (if k then 1 else 0))
  | .str s => if (!s.isEmpty && s.all digit && decide (s.length ≤ 640)) = true then some (.int ((NumText.digitsVal s : Nat) : Int)) else none
  | _ => none
def uAbs : PV → Option PV
  | .int i => some (.int (if i < 0 then -i else i))
  | _ => none
def uBool : PV → Option PV
  | .int i => some (.bl (i != 0))
  | .bl k => some (.bl k)
  | _ => none
def uSum : PV → Option PV
  | .lst l => (asInts l).map fun ns => .int ns.sum
  | _ => none
def leastOf (n : Int) (r : List Int) : Int := r.foldl (fun a c => if c < a then c else a) n
def mostOf (n : Int) (r : List Int) : Int := r.foldl (fun a c => if a < c then c else a) n
def uMin : PV → Option PV
  | .lst l => match asInts l with
    | some (n :: r) => some (.int (leastOf n r))
    | _ => none
  | _ => none
def uMax : PV → Option PV
  | .lst l => match asInts l with
    | some (n :: r) => some (.int (mostOf n r))
    | _ => none
  | _ => none
def vMax : PV → PV → Option PV
  | .int i, .int j => some (.int (if j > i then j else i))
  | _, _ => none
def vMin : PV → PV → Option PV
  | .int i, .int j => some (.int (if j < i then j else i))
  | _, _ => none
/-- repr of data -/
def showOk (d : PyData) : Bool := (d.showable && !d.hasDict) && (decide (d.depth < 60) && decide (d.shown.length ≤ sizeLine))
def uRepr (v : PV) : Option PV := match toD v with
  | some d => if showOk d = true then some (.str d.shown.cps.toList) else none
  | none => none
/-- sorted of a list of data that are alike -/
def isTupD : PyData → Bool
  | .tuple (_ :: _) => true
  | _ => false
def isOneD : PyData → Bool
  | .none => false
  | .tuple _ => false
  | _ => true
def sortOk (ds : List PyData) : Bool := (ds.all fun d => ds.all fun e => PySem.W.alike d e) && ((ds.all isTupD || ds.all isOneD) && ds.all fun d => decide (d.depth < 60))
def leD {α : Type} (a b : α × PyData) : Bool := !PySem.W.dataLt b.2 a.2
def sortD {α : Type} (l : List α) (ds : List PyData) : List α := ((l.zip ds).mergeSort leD).map (·.1)
def uSorted : PV → Option PV
  | .lst l => match toDs l with
    | some ds => if sortOk ds = true then some (.lst (sortD l ds)) else none
    | none => none
  | _ => none
/-! ### types -/
def tyOf : PV → Option String
  | .non => some "NoneType"
  | .bl _ => some "bool"
  | .int _ => some "int"
  | .str _ => some "str"
  | .tup _ => some "tuple"
  | .lst _ => some "list"
  | .dct _ => some "dict"
  | _ => none
def uIsi (T : String) (v : PV) : Option PV := match tyOf v with
  | some t => (kitB' t T).map .bl
  | none => none
where kitB' (a b : String) : Option Bool := if ["int", "str", "tuple", "list", "bool"].contains b = true then some (a == b || (a == "bool" && b == "int")) else none
/-! ### subscripts, slices -/
def atP (xs : List PV) (i : Int) : Option PV := if 0 ≤ i then xs[i.toNat]? else if -(xs.length : Int) ≤ i then xs[(i + xs.length).toNat]? else none
def atC (xs : List Nat) (i : Int) : Option Nat := if 0 ≤ i then xs[i.toNat]? else if -(xs.length : Int) ≤ i then xs[(i + xs.length).toNat]? else none
def dLook (k : KP) : List (KP × PV) → Option PV
  | [] => none
  | (j, v) :: r => if j = k then some v else dLook k r
def vIdx : PV → PV → Option PV
  | .str s, .int i => if s.length ≤ sizeLine then (atC s i).map fun c => .str [c] else none
  | .lst l, .int i => atP l i
  | .tup l, .int i => atP l i
  | .dct d, .str k => dLook (.s k) d
  | .dct d, .int k => dLook (.i k) d
  | .kdc d, .str k => dLook (.s k) d
  | _, _ => none
def sPl (n d : Nat) : Option Int → Nat
  | none => d
  | some v => if v < 0 then (v + (n : Int)).toNat else min v.toNat n
def cutP {α : Type} (xs : List α) (lo hi : Option Int) : List α := (xs.drop (sPl xs.length 0 lo)).take (sPl xs.length xs.length hi - sPl xs.length 0 lo)
def vCut (v : PV) (lo hi : Option Int) : Option PV := match v with
  | .str s => if s.length ≤ sizeLine then some (.str (cutP s lo hi)) else none
  | .lst l => some (.lst (cutP l lo hi))
  | .tup l => some (.tup (cutP l lo hi))
  | _ => none
/-! ### methods of texts -/
def mJoin : PV → PV → Option PV
  | .str a, .lst l => match asStrs l with
    | some ys => if (ys.map (·.length)).sum + ys.length * a.length ≤ 16777216 then some (.str (TL.joinL a ys)) else none
    | none => none
  | .str a, .tup l => match asStrs l with
    | some ys => if (ys.map (·.length)).sum + ys.length * a.length ≤ 16777216 then some (.str (TL.joinL a ys)) else none
    | none => none
  | _, _ => none
def low (S : List Nat) : Bool := S.all (· < 256)
def mSplit : PV → PV → Option PV
  | .str a, .str c => if (!c.isEmpty && low c && decide (a.length + 2 ≤ sizeLine)) = true then some (.lst ((TL.spl c 0 [] a).map .str)) else none
  | _, _ => none
def mPart : PV → PV → Option PV
  | .str a, .str c => if (!c.isEmpty && decide (a.length ≤ sizeLine)) = true then some (match TL.par c [] a with
    | some (p, q) => .tup [.str p, .str c, .str q]
    | none => .tup [.str a, .str [], .str []]) else none
  | _, _ => none
def dOf : PV → Option (List (KP × PV))
  | .dct d => some d
  | .kdc d => some d
  | _ => none
def kOf : PV → Option KP
  | .str k => some (.s k)
  | .int k => some (.i k)
  | _ => none
def mGet2 (v u w : PV) : Option PV := match dOf v, kOf u with
  | some d, some k => some ((dLook k d).getD w)
  | _, _ => none
def mGet (v u : PV) : Option PV := mGet2 v u .non

/-! ### the meanings of these -/
/-- a op b op' c -/
def dChain (f f' : PV → PV → Option PV) (a b c : Den) : Den := fun ρ S => (a ρ S).bnd fun v S1 => (b ρ S1).bnd fun u S2 => match f v u with
  | some k => onBl k fun k => if k = true then (c ρ S2).bnd fun w S3 => okv (f' u w) S3 else .ok (.bl false) S2
  | none => .bad
def onI (v : PV) (k : Int → Rs PV) : Rs PV := match v with
  | .int i => k i
  | _ => .bad
def dCutL (a l : Den) : Den := fun ρ S => (a ρ S).bnd fun v S1 => (l ρ S1).bnd fun u S2 => onI u fun i => okv (vCut v (some i) none) S2
def dCutH (a l : Den) : Den := fun ρ S => (a ρ S).bnd fun v S1 => (l ρ S1).bnd fun u S2 => onI u fun i => okv (vCut v none (some i)) S2
def dCutB (a l h : Den) : Den := fun ρ S => (a ρ S).bnd fun v S1 => (l ρ S1).bnd fun u S2 => onI u fun i => (h ρ S2).bnd fun w S3 => onI w fun j => okv (vCut v (some i) (some j)) S3
def onS (v : PV) (k : Rs PV) : Rs PV := match v with
  | .str _ => k
  | _ => .bad
/-- a method of a text -/
def dM1 (f : PV → PV → Option PV) (a b : Den) : Den := fun ρ S => (a ρ S).bnd fun v S1 => onS v ((b ρ S1).bnd fun u S2 => okv (f v u) S2)
def onD (v : PV) (k : Rs PV) : Rs PV := match dOf v with
  | some _ => k
  | none => .bad
def dMD (f : PV → PV → Option PV) (a b : Den) : Den := fun ρ S => (a ρ S).bnd fun v S1 => onD v ((b ρ S1).bnd fun u S2 => okv (f v u) S2)
def dMD2 (f : PV → PV → PV → Option PV) (a b c : Den) : Den := fun ρ S => (a ρ S).bnd fun v S1 => onD v ((b ρ S1).bnd fun u S2 => (c ρ S2).bnd fun w S3 => okv (f v u w) S3)
/-- the parts of an f-string: texts and numbers -/
def fText : PV → Option (List Nat)
  | .str s => if s.length ≤ sizeLine then some s else none
  | .int (.ofNat n) => if n.log2 < 1920 then some (TL.numL n) else none
  | _ => none
/-- acc: the text so far is the store's head of a list of one text -/
def dFs (a r : Den) : Den := fun ρ S => (a ρ S).bnd fun v S1 => match fText v with
  | some s => (r ρ S1).bnd fun u S2 => match u with
    | .str t => isz' (s.length + t.length) (.str (s ++ t)) S2
    | _ => .bad
  | none => .bad
where isz' (n : Nat) (v : PV) (S : Store) : Rs PV := if n ≤ sizeLine then .ok v S else .bad

abbrev CallT := Nat → List PV → Store → Rs PV
def dCall (C : CallT) (f : Nat) (r : Den) : Den := fun ρ S => (r ρ S).bnd fun vs S1 => C f (asL vs) S1

end Tg
end
section
set_option Elab.async false
set_option linter.all false
set_option autoImplicit false
set_option maxRecDepth 100000
set_option maxHeartbeats 0
namespace Tg
open PySem PySem.Spec PyProof.Rows L2
def kK : KP → Key
  | .i n => .inl n
  | .s l => .inr ⟨l.toArray⟩
/-- a name of the top: a def, a constant; a name that the top has not -/
inductive GV where
  | fn (i : Nat) | val (p : PV) | none | kw (i : Nat) (ns : List Str)
def TE.iS : Scope := { kind := .function, names := [(PySem.Str.ofString "self", .local), (PySem.Str.ofString "value", .local), (PySem.Str.ofString "__class__", .free), (PySem.Str.ofString "super", .globalImplicit)], isGenerator := false, isCoroutine := false, more := [] }
def atomB : PV → Value → Bool
  | .non, .none => true
  | .bl x, .bool y => x == y
  | .int i, .int j _ => decide (i = j)
  | .str l, .str x _ => decide (x = ⟨l.toArray⟩)
  | _, _ => false
def atomsB : List PV → List Value → Bool
  | [], [] => true
  | p :: ps, u :: us => atomB p u && atomsB ps us
  | _, _ => false
def keyB : KP → Value → Bool
  | .s l, .str x _ => decide (x = ⟨l.toArray⟩)
  | _, _ => false
def entB : List (KP × PV) → List DictEntry → Bool
  | [], [] => true
  | q :: qs, e :: es => (keyB q.1 e.key && atomB q.2 e.val) && entB qs es
  | _, _ => false
def dicB (K : PySem.W.Frag) (a : Addr) (qs : List (KP × PV)) : Bool := match K.lookup a with
  | some ⟨.type c, none, .dict es _, sl⟩ => (decide (c = "dict") && (sl.isEmpty && !(a == sysModules))) && ((decide (es.size ≤ sizeLine) && decide ((qs.map fun q => kK q.1).Nodup)) && entB qs es.toList)
  | _ => false
def tupB (K : PySem.W.Frag) (a : Addr) (ps : List PV) : Bool := match K.lookup a with
  | some ⟨.type c, none, .seq its _, _⟩ => (decide (c = "tuple") && decide (its.size ≤ sizeLine)) && atomsB ps its.toList
  | _ => false
def exB (K : PySem.W.Frag) (C0 : Addr) (DS : List Addr) (C : Addr) : Bool := (xfB K C && ((PySem.W.clsIn K C).isSome && He.eqO (PySem.W.findIn K (.ref C) "__class__") (some (some (.builtin "object.__class__"))))) &&
  ((decide (PySem.W.mroIn K C (.type "object") = some true) && (He.eqO (PySem.W.findIn K (.ref C) "value") (some none) && decide (PySem.W.exmOne K (.ref C) (.ref C0) = some true))) &&
    DS.all fun D => decide (PySem.W.kitOne K (.ref C) (.ref D) = some (decide (C = D) || decide (D = C0))))
def exB0 (K : PySem.W.Frag) : Bool := He.eqO (PySem.W.specialIn K (.builtin "object.__class__") "__get__") (some (some (.builtin "getset_descriptor.__get__"))) && decide (PySem.W.takesIn K (.builtin "object.__class__") = some true)
def isNon : Value → Bool
  | .none => true
  | _ => false
abbrev DV : Type := Option (Arguments × List Stmt × Scope)
/-- a def stands at a: all but its text -/
def ck1 (K : PySem.W.Frag) (a : Addr) : Bool := PySem.W.keepIn K (.ref a) && match K.lookup a with
  | some ⟨_, _, .func ⟨_, qual, _, .stmts _, _, gl, cl, dV, _, _, _, _, cdv, _, bi⟩, _⟩ =>
    ((isNon dV && decide (gl = mainGlobals)) && (cl.isEmpty && decide (bi = builtinsNs))) && PySem.W.codeIn K cdv qual
  | _ => false
/-- its text -/
def fnV (K : PySem.W.Frag) (a : Addr) : DV := match K.lookup a with
  | some ⟨_, _, .func ⟨_, _, params, .stmts b, sc, _, _, _, _, _, _, _, _, _, _⟩, _⟩ => some (params, b, sc)
  | _ => none
/-- the text of a statement's def -/
def dvOf : Option Stmt → DV
  | some (.FunctionDef _ ar b _ _ _ sc ..) => some (ar, b, sc)
  | _ => none
/-- a name of the top -/
def gB (K : PySem.W.Frag) (fa : Nat → Addr) (pn : Nat → List Str) (nf : Nat) (e : Str × GV) : Bool := match e.2 with
  | .kw i ns => decide (pn i = ns)
  | .fn i => decide (i < nf) && He.eqO (PySem.W.nsIn K mainGlobals e.1) (some (some (.ref (fa i))))
  | .none => He.eqO (PySem.W.nsIn K mainGlobals e.1) (some none)
  | .val (.tup ps) => (match PySem.W.nsIn K mainGlobals e.1 with
    | some (some (.ref a)) => tupB K a ps
    | _ => false)
  | .val (.kdc qs) => (match PySem.W.nsIn K mainGlobals e.1 with
    | some (some (.ref a)) => dicB K a qs
    | _ => false)
  | .val p => (match PySem.W.nsIn K mainGlobals e.1 with
    | some (some u) => atomB p u
    | _ => false)
def kStr : KP → Str
  | .s l => ⟨l.toArray⟩
  | _ => ⟨#[]⟩
abbrev HsT : Type := List (Option (List (Option (Str × Int))))
def hsO (K : PySem.W.Frag) (e : Str × GV) : Option (List (Option (Str × Int))) := match e.2 with
  | .val (.kdc _) => He.dicW K (He.ga K e.1)
  | _ => none
def hsV (w : World) (e : Str × GV) : Option (List (Option (Str × Int))) := match e.2 with
  | .val (.kdc qs) => some (He.keysIn w.params (qs.map fun q => kStr q.1))
  | _ => none
def clObjB (K : PySem.W.Frag) (C : Addr) : Bool := match K.lookup C with
  | some ⟨.type c, _, .cls cd, sl⟩ => decide (c = "type") && (match cd.mro, sl.toList with
    | .ref C' :: bm, [_, _, _, _, some (.builtin n), _] => (decide (C' = C) && decide (n = "ValueError.__new__")) && (!cd.hasDel && (cd.hasDict && PySem.HandSPX.refsVE bm))
    | _, _ => false)
  | _ => false
def clB (K : PySem.W.Frag) (C0 fI C : Addr) : Bool := clObjB K C && ((He.eqO (PySem.W.findIn K (.ref C) "__setattr__") (some (some (.builtin "object.__setattr__"))) && (He.eqO (PySem.W.findIn K (.ref C) "value") (some none) &&
  He.eqO (PySem.W.findIn K (.ref C) "__init__") (some (some (.ref fI))))) && ((decide (PySem.W.typeIn K (.ref fI) = some (.type "function")) && (PySem.W.keepIn K (.ref C) && decide (PySem.W.subIn K (.ref C) (.type "BaseException") = some true))) &&
    ((decide (PySem.W.subIn K (.ref C) (.type "ValueError") = some true) && decide (PySem.W.typeIn K (.ref C) = some (.type "type"))) && (decide (PySem.W.mroIn K C (.ref C0) = some true) &&
      He.eqO (PySem.W.ks_superIn K C C0 "__init__") (some (some (.builtin "ValueError.__init__")))))))
def iBB : Arguments → List Stmt → Bool
  | ⟨[], [⟨s1, none, _⟩, ⟨s2, none, _⟩], none, [], [], none, []⟩, [.Expr (.Call (.Attribute (.Call (.Name x _) [] [] _) m a3) [.Constant (.str _) _ _] [] a5) _, .Assign [.Attribute (.Name y _) m2 _] (.Name z _) _] =>
    ((decide (s1 = "self") && decide (s2 = "value")) && (decide (x = "super") && decide (m = "__init__"))) && ((decide (y = "self") && decide (m2 = "value")) && (decide (z = "value") && a3.endLine == a5.line))
  | _, _ => false
def scB (sc : Scope) : Bool := decide (sc.kind = .function) && (decide (sc.names = TE.iS.names) && ((!sc.isGenerator && !sc.isCoroutine) && sc.more.isEmpty))
def cellB (K : PySem.W.Frag) (C0 : Addr) : List (Str × Addr) → Bool
  | [(x, c)] => decide (x = "__class__") && (match K.lookup c with
    | some ⟨_, _, .cell (some (.ref D)), _⟩ => decide (D = C0)
    | _ => false)
  | _ => false
def codB (P : Program) (K : PySem.W.Frag) : Value → Bool
  | .ref cc => (match K.lookup cc with
    | some ⟨_, _, .fields vs, _⟩ => (match (vs.toList[2]? : Option Value) with
      | some (.str file _) => ((P.main.file : Str) == file)
      | _ => false)
    | _ => false)
  | _ => false
def teB (P : Program) (K : PySem.W.Frag) (C0 fI : Addr) : Bool := (match K.lookup fI with
  | some ⟨_, _, .func ⟨nm, qual, params, .stmts b, sc, gl, cl, dV, _, _, _, _, cdv, _, bi⟩, _⟩ =>
    ((decide (nm = "__init__") && (iBB params b && scB sc)) && (decide (gl = mainGlobals) && (cellB K C0 cl && isNon dV))) && ((PySem.W.codeIn K cdv qual && codB P K cdv) && decide (bi = builtinsNs))
  | _ => false) && ((!(P.main.scope.names.lookup ("super" : Str)).isSome && (PySem.W.clsIn K C0).isSome) && He.eqO (PySem.W.nsIn K cStatics "thirdparty.any") (some none))
/-- a law's data: the defs' addresses, the classes', the first class and its __init__ -/
structure LD where
  P : Program
  G : List (Str × GV)
  R : List (Str × Nat)
  nf : Nat
  A : List Addr
  CA : List Addr
  C0 : Addr
  fI : Addr
  D : List DV
  AS : List Addr
def LD.fa (L : LD) (i : Nat) : Addr := L.A.getD i 0
def LD.ca (L : LD) (c : Nat) : Addr := L.CA.getD c 0
def LD.pn (L : LD) (i : Nat) : List Str := match L.D[i]? with
  | some (some (ar, _, _)) => ar.args.map (·.arg)
  | _ => []
def rB (L : LD) (K : PySem.W.Frag) (e : Str × Nat) : Bool := He.eqO (PySem.W.nsIn K mainGlobals e.1) (some (some (.ref (L.ca e.2)))) && clB K L.C0 L.fI (L.ca e.2)
def ckB (L : LD) (K : PySem.W.Frag) : Bool := (L.A.all (ck1 K) && (L.G.all (gB K L.fa L.pn L.nf) && (exB0 K && L.CA.all (exB K L.C0 L.CA)))) && (L.R.all (rB L K) && (teB L.P K L.C0 L.fI && He.eqO (PySem.W.nsIn K mainGlobals "super") (some none)))
abbrev AlV : Type := Bool × List DV × HsT
def obsV (L : LD) (K : PySem.W.Frag) : AlV := (ckB L K, L.A.map (fnV K), L.G.map (hsO K))
def valLD (L : LD) (w : World) : AlV := (true, L.D, L.G.map (hsV w))
def obsVG (L : LD) (g : Addr → Option Obj) : AlV := obsV L (He.frG g L.AS)
def hookV (L : LD) : PySem.W.Hook where
  α := AlV
  obs := fun s => obsVG L s.heap.get?
  val := fun w => valLD L w
  says := fun w h => ∃ K : PySem.W.Frag, K.In h ∧ obsV L K = valLD L w
  of := fun _ _ e => ⟨_, He.frG_in, e⟩
  keeps := fun _ _ _ ⟨K, hK, c⟩ k => ⟨K, PySem.W.Frag.In.keeps hK k, c⟩
theorem obsVG_eq {L : LD} {g : Addr → Option Obj} {s : Shared} (h : ∀ a, g a = s.heap.get? a) : obsVG L g = (hookV L).obs s := by
  have e : g = s.heap.get? := funext h
  rw [e] <;> rfl
end Tg
end
section
set_option Elab.async false
set_option linter.all false
set_option autoImplicit false
set_option maxRecDepth 100000
set_option maxHeartbeats 0
namespace K73
open PySem PySem.Spec PyProof.Rows L2
open Tg
def gf (x : String) (i : Nat) : Str × GV := (Str.ofString x, .fn i)
def gw (x : String) (p : PV) : Str × GV := (Str.ofString x, .val p)
def gn (x : String) : Str × GV := (Str.ofString x, .none)
def sL (xs : List String) : List Str := xs.map Str.ofString
def G0 : List (Str × GV) := [
  gw "ALPHABET" (.str [97, 98, 99, 100, 101, 102, 103, 104, 105, 106, 107, 108]),
  gw "DIGITS" (.str [48, 49, 50, 51, 52, 53, 54, 55, 56, 57]),
  gw "EDGE" (.tup [.str [101, 100, 103, 101]]),
  gw "FORCES" (.tup [.str [109, 97, 121], .str [109, 117, 115, 116]]),
  gw "KINDS_finding" (.kdc [(.s [63], .str [109, 97, 121, 98, 101]), (.s [42], .str [97, 110, 121])]),
  gw "KINDS_patterns" (.tup [.str [97, 110, 121], .str [109, 97, 121, 98, 101], .str [111, 110, 101]]),
  gw "MARKS" (.kdc [(.s [111, 110, 101], .str []), (.s [109, 97, 121, 98, 101], .str [63]), (.s [97, 110, 121], .str [42])]),
  gw "MOST_DIGITS" (.int 30),
  gw "MOST_ITEMS" (.int 6),
  gw "MOST_ROWS" (.int 8),
  gw "MOST_RULES" (.int 8),
  gw "MOST_TEXT" (.int 2),
  gw "WAYS" (.tup [.str [97, 116, 32, 111, 110, 99, 101], .str [98, 97, 99, 107, 119, 97, 114, 100], .str [111, 110, 119, 97, 114, 100]]),
  gf "_law_any_rule" 62,
  gf "_law_draw" 57,
  gf "_law_letters" 58,
  gf "_law_machine" 61,
  gf "_law_machine_text" 66,
  gf "_law_machines_right" 71,
  gf "_law_pattern" 60,
  gf "_law_pattern_text" 64,
  gf "_law_patterns_right" 69,
  gf "_law_row" 59,
  gf "_law_rule_text" 65,
  gf "_law_rules_right" 70,
  gf "_law_well" 56,
  gf "_law_word" 67,
  gf "_law_word_text" 63,
  gf "_law_words_right" 68,
  gn "abs",
  gn "all",
  gf "all_or_none" 34,
  gf "anew" 16,
  gf "are_changes" 29,
  gn "bool",
  gf "cascade_from" 44,
  gf "change_from" 41,
  gn "int",
  gf "integer_from" 33,
  gf "is_between" 11,
  gf "is_cascade" 32,
  gf "is_change" 28,
  gf "is_edge" 24,
  gf "is_integer" 10,
  gf "is_letter_item" 23,
  gf "is_letters" 18,
  gf "is_machine" 22,
  gf "is_one_of" 15,
  gf "is_pattern" 27,
  gf "is_pattern_of" 26,
  gf "is_place" 21,
  gf "is_rising" 13,
  gf "is_row" 25,
  gf "is_rule" 31,
  gf "is_rule_of" 30,
  gf "is_text" 14,
  gf "is_tuple" 12,
  gf "is_word" 20,
  gn "isinstance",
  gf "item_from" 38,
  gf "item_text" 3,
  gf "law" 72,
  gn "len",
  gf "letters_of" 17,
  gn "list",
  gf "listed" 0,
  gf "machine_from" 47,
  gn "max",
  gn "min",
  gf "need_n" 19,
  gf "needed" 48,
  gf "number_from" 35,
  gf "pattern_from" 40,
  gf "pattern_in" 39,
  gf "place_from" 46,
  gf "place_text" 8,
  gn "range",
  gf "read_by" 49,
  gf "read_cascade" 54,
  gf "read_machine" 55,
  gf "read_pattern" 52,
  gf "read_rule" 53,
  gf "read_with" 50,
  gf "read_word" 51,
  gn "repr",
  gf "row_text" 4,
  gf "rule_from" 43,
  gf "rule_in" 42,
  gf "show_cascade" 7,
  gf "show_machine" 9,
  gf "show_pattern" 5,
  gf "show_rule" 6,
  gf "show_word" 1,
  gf "show_words" 2,
  gn "sorted",
  gf "step_from" 45,
  gn "str",
  gf "text_from" 36,
  gn "tuple",
  gf "word_from" 37,
  gn "zip",
  (Str.ofString "read_cascade", .kw 54 [Str.ofString "text"]),
  (Str.ofString "read_machine", .kw 55 [Str.ofString "text"]),
  (Str.ofString "read_pattern", .kw 52 [Str.ofString "n", Str.ofString "text"]),
  (Str.ofString "read_rule", .kw 53 [Str.ofString "n", Str.ofString "text"]),
  (Str.ofString "read_word", .kw 51 [Str.ofString "n", Str.ofString "text"]),
  (Str.ofString "show_cascade", .kw 7 [Str.ofString "cascade"]),
  (Str.ofString "show_machine", .kw 9 [Str.ofString "machine"]),
  (Str.ofString "show_pattern", .kw 5 [Str.ofString "pattern"]),
  (Str.ofString "show_rule", .kw 6 [Str.ofString "rule"]),
  (Str.ofString "show_word", .kw 1 [Str.ofString "word"]),
  (Str.ofString "show_words", .kw 2 [Str.ofString "words"])]
def R0 : List (Str × Nat) := [(Str.ofString "TongueError", 0), (Str.ofString "InvalidNumber", 1), (Str.ofString "Unreadable", 2)]

def b0 : List Nat := [2, 3, 4, 5, 6, 7, 8, 9, 10, 11, 13, 14, 15, 16, 17, 18, 19, 26, 27, 28, 29, 31, 32, 38, 39, 40, 41, 42, 47, 48, 49, 50, 53, 57, 58, 59, 60, 63, 64, 65, 66, 67, 68, 69, 70, 71, 72, 73, 75, 76, 77, 78, 79, 80, 81, 82, 84, 85, 86, 87, 88, 89, 90, 91, 92, 93, 94, 95, 96, 97, 98, 99, 100]

def bodyL : List Stmt := PySem.Challenge.pw_tonguerules_k73_rules_and_machines_as_te.main.body
/-- the texts of the defs -/
def D0 : List DV := b0.map fun q => dvOf bodyL[q]?
end K73
end
section
set_option Elab.async false
set_option linter.all false
set_option autoImplicit false
set_option maxRecDepth 100000
set_option maxHeartbeats 0
namespace K73
open PySem PySem.Spec PyProof.Rows L2 Tg
abbrev RW : PySem.W.OpenRow := PySem.W.OpenLaw.row PySem.Challenge.rw_tonguerules_k73_rules_and_machines_as_te
def L0 : LD := ⟨RW.prog, G0, R0, 73, [22, 29, 34, 41, 46, 51, 56, 61, 66, 71, 78, 85, 92, 97, 102, 109, 114, 167, 174, 181, 186, 191, 196, 203, 210, 215, 220, 227, 236, 241, 248, 255, 260, 265, 272, 279, 286, 294, 301, 306, 313, 320, 325, 332, 337, 344, 349, 354, 361, 368, 375, 382, 389, 396, 403, 410, 417, 424, 429, 436, 441, 448, 453, 460, 465, 470, 475, 480, 485, 492, 497, 504, 511], [133, 146, 158], 133, 130, D0, mainGlobals :: [2, 4, 6, 15, 21, 22, 28, 29, 33, 34, 40, 41, 45, 46, 50, 51, 55, 56, 60, 61, 65, 66, 70, 71, 77, 78, 84, 85, 91, 92, 96, 97, 101, 102, 108, 109, 113, 114, 118, 129, 130, 132, 133, 145, 146, 157, 158, 166, 167, 173, 174, 180, 181, 185, 186, 190, 191, 195, 196, 197, 198, 202, 203, 209, 210, 214, 215, 219, 220, 226, 227, 228, 229, 235, 236, 240, 241, 247, 248, 254, 255, 259, 260, 264, 265, 271, 272, 278, 279, 285, 286, 287, 293, 294, 300, 301, 305, 306, 312, 313, 319, 320, 324, 325, 331, 332, 336, 337, 343, 344, 348, 349, 353, 354, 360, 361, 367, 368, 374, 375, 381, 382, 388, 389, 395, 396, 402, 403, 409, 410, 416, 417, 423, 424, 428, 429, 435, 436, 440, 441, 447, 448, 452, 453, 459, 460, 464, 465, 469, 470, 474, 475, 479, 480, 484, 485, 491, 492, 496, 497, 503, 504, 510, 511]⟩
abbrev hk : PySem.W.Hook := hookV L0
def ob (s : PySem.W.SharedT) : AlV := obsVG L0 (HandSHeadRun.getT s)
theorem ob_eq (s : PySem.W.SharedT) : ob s = hk.obs s.abs := obsVG_eq (HandSHeadRun.getT_eq s)
def loose0 : List Str := sL ["MARKS", "listed", "show_word", "show_words", "item_text", "row_text", "show_pattern", "show_rule", "show_cascade", "place_text", "show_machine", "is_integer", "is_between", "is_tuple", "is_rising", "is_text", "is_one_of", "anew", "TongueError", "InvalidNumber", "Unreadable", "ALPHABET", "letters_of", "is_letters", "need_n", "is_word", "is_place", "is_machine", "MOST_ROWS", "MOST_ITEMS", "KINDS_patterns", "EDGE", "is_letter_item", "is_edge", "is_row", "is_pattern_of", "is_pattern", "WAYS", "FORCES", "MOST_TEXT"]
def loose1 : List Str := sL ["is_change", "are_changes", "is_rule_of", "is_rule", "MOST_RULES", "is_cascade", "DIGITS", "MOST_DIGITS", "integer_from", "all_or_none", "number_from", "text_from", "KINDS_finding", "word_from", "item_from", "pattern_in", "pattern_from", "change_from", "rule_in", "rule_from", "cascade_from", "step_from", "place_from", "machine_from", "needed", "read_by", "read_with", "read_word", "read_pattern", "read_rule", "read_cascade", "read_machine", "_law_well", "_law_draw", "_law_letters", "_law_row", "_law_pattern", "_law_machine", "_law_any_rule", "_law_word_text"]
def loose2 : List Str := sL ["_law_pattern_text", "_law_rule_text", "_law_machine_text", "_law_word", "_law_words_right", "_law_patterns_right", "_law_rules_right", "_law_machines_right"]
def loose : List Str := loose0 ++ loose1 ++ loose2
abbrev RunAt (w : World) : Prop := HandSHeadRun.RunEq RW (PySem.W.view RW.prog [100]) hk ob 40000 loose w
theorem run_f (w : World) : RunAt (w.withFollow "special-get-raises" false) := by
  intro os
  kernel_rfl
theorem run_t (w : World) : RunAt (w.withFollow "special-get-raises" true) := by
  intro os
  kernel_rfl
theorem run (w : World) : RunAt w := PySem.W.byRow2 "special-get-raises" (P := RunAt) run_f run_t w
end K73
end
section
set_option Elab.async false
set_option linter.all false
set_option autoImplicit false
set_option maxRecDepth 100000
/-! new tuples, known to the object: no dict of their own -/
namespace Tg
open PySem PySem.Spec PyProof.Rows L2
/-- a tuple that is known: its object has no dict -/
def PTu (H : Hp) (a : Addr) (xs : List V) : Prop := ∃ o, H a = some (.frz o (.tup xs)) ∧ o.dict = none
theorem PTu.sq {H : Hp} {a : Addr} {xs : List V} (K : PySem.W.Frag) (h : PTu H a xs) : SqT K H a xs := by
  obtain ⟨o, e, _⟩ := h
  exact .inl (.inr ⟨o, e⟩)
/-- what is asked of a new tuple -/
def NewT (xs : List V) (H : Hp) (Q : VK) : Prop := ∀ p o, H p = none → o.dict = none → Q (.ref p) (upd H p (.frz o (.tup xs)))
abbrev tupObj (us : List Value) : Obj := { cls := .type "tuple", data := .seq us.toArray }
section
variable {X : Cx} {pins : List (Addr × Obj)} {σ : L2.St} {H : Hp} {s : Shared}
theorem laidT {xs : List V} {us : List Value} (I : Inv X pins σ H s) (r : Vals xs us) (hz : xs.length ≤ sizeLine) (t' : Nat) :
    Inv X pins σ (upd H s.heap.objs.size (.frz (tupObj us) (.tup xs))) { s with heap := s.heap.push (tupObj us), toks := t' } :=
  I.laid (fun b u e => Heap.get?_push_of_some _ e) (Nat.le_refl _) ⟨Heap.get?_push_size _ rfl, hz, us, r, IsTup.new _ _⟩
theorem newT_end {xs : List V} {us : List Value} {Q : VK} {t' : Nat} (I : Inv X pins σ H s) (r : Vals xs us) (hz : xs.length ≤ sizeLine) (q : NewT xs H Q) : EP X pins σ Q (.ref s.heap.objs.size) { s with heap := s.heap.push (tupObj us), toks := t' } :=
  ⟨.ref s.heap.objs.size, _, laidT I r hz t', rfl, q _ _ (I.hok.fresh (Nat.le_refl _)) rfl⟩
end
section
variable {X : Cx}
def tTupF (t : TA) : TE := fun σ H Q => t σ H fun xs H1 => xs.length ≤ sizeLine ∧ NewT xs H1 Q
theorem pe_tupF {es : List Expr} {t : TA} {k : Nat} {pos : Pos} (h : PA X es t) : PE X (.Tuple es k pos) (tTupF t) := ⟨fun pins s σ H Q I hq =>
  wpAny_Tuple_spliced (thn (h.run pos pins s σ H _ I hq) fun us s1 ⟨xs, H1, I1, r, z, q⟩ => ⟨by rw [← r.length]; exact z, newT_end (t' := s1.toks) I1 r z q⟩)⟩
theorem call_tupleF : CallR X (.type "tuple") (fun xs H Q => ∃ p ys, xs = [.ref p] ∧ ((SqL X.K H p ys ∧ NewT ys H Q) ∨ (SqT X.K H p ys ∧ Q (.ref p) H))) := by
  intro pins s σ H xs us Q I r h
  obtain ⟨p, ys, rfl, h⟩ := h
  obtain ⟨u, rfl, rx⟩ := vals1 r
  cases rx
  rcases h with ⟨hq, q⟩ | ⟨hq, q⟩
  · obtain ⟨zs, r', pl, hz⟩ := I.list hq
    have hn := r'.length
    exact PySem.call_tuple_list pl.isList (fun h' kp => newT_end (t' := s.toks) (I.kept (t' := s.toks) kp) r' hz q) (by simp only [List.size_toArray]; omega)
  · obtain ⟨zs, _, pl, _⟩ := I.tuple hq
    exact PySem.call_tuple_same pl ⟨.ref p, _, I, rfl, q⟩
/-- t + u -/
def rCatF (K : PySem.W.Frag) : R2 := fun x y H Q => ∃ a b xs ys, x = .ref a ∧ y = .ref b ∧ (SqT K H a xs ∧ SqT K H b ys) ∧ xs.length + ys.length ≤ sizeLine ∧
  (xs = [] → Q (.ref b) H) ∧ (xs ≠ [] → ys = [] → Q (.ref a) H) ∧ (xs ≠ [] → ys ≠ [] → NewT (xs ++ ys) H Q)
theorem op_catF : OpR X (binaryOp .Add) (rCatF X.K) := by
  intro pins s σ H x y v u Q I rx ry h
  obtain ⟨a, b, xs, ys, rfl, rfl, ⟨ha, hb⟩, hz, q0, q1, q2⟩ := h
  by_cases hx : xs = []
  · exact op_catA pins s σ H _ _ v u Q I rx ry ⟨a, b, xs, ys, rfl, rfl, ha, hb, hz, q0, q1, fun z => absurd hx z⟩
  · cases rx
    cases ry
    obtain ⟨ts, r1, p1, _⟩ := I.tuple ha
    obtain ⟨zs, r2, p2, _⟩ := I.tuple hb
    exact HT.cat_tup p1 p2 (fun z => hx (r1.nil_iff.mp z)) (fun z => ⟨.ref a, _, I, rfl, q1 hx (r2.nil_iff.mp z)⟩)
      (fun z => newT_end (t' := s.toks) I (r1.append r2) (by rw [List.length_append]; exact hz) (q2 hx fun w => z (r2.nil_iff.mpr w))) (by rw [← r1.length, ← r2.length]; exact hz)
/-- t[lo:hi] -/
def rSlF (K : PySem.W.Frag) : V → Option Int → Option Int → Hp → VK → Prop := fun x lo hi H Q => ∃ a xs, x = .ref a ∧ SqT K H a xs ∧
  (HT.sIx xs.length 0 lo = 0 ∧ HT.sIx xs.length xs.length hi = xs.length → Q (.ref a) H) ∧ (¬ (HT.sIx xs.length 0 lo = 0 ∧ HT.sIx xs.length xs.length hi = xs.length) → NewT (cutV xs lo hi) H Q)
theorem sl_tupF : SlR X (rSlF X.K) := by
  intro pins s σ H x v vl vu lo hi sl Q I rx hs pl pu h
  obtain ⟨a, xs, rfl, hx, q1, q2⟩ := h
  by_cases hw : HT.sIx xs.length 0 lo = 0 ∧ HT.sIx xs.length xs.length hi = xs.length
  · exact sl_tupA pins s σ H _ v vl vu lo hi sl Q I rx hs pl pu ⟨a, xs, rfl, hx, q1, fun z => absurd hw z⟩
  · cases rx
    obtain ⟨ts, r, ht, hz⟩ := I.tuple hx
    have hn : xs.length = ts.toArray.size := by rw [List.size_toArray]; exact r.length
    refine ⟨"tuple", _, PyProof.Rows.slot_tuple_getitem.lookup, ht.typeIs, HT.getItem_tuple_cut ht hs pl pu (hn ▸ hw) ?_ (hn ▸ hz)⟩
    rw [← hn]
    exact newT_end (t' := s.toks) I ((r.drop (HT.sIx xs.length 0 lo)).take (HT.sIx xs.length xs.length hi - HT.sIx xs.length 0 lo)) (Nat.le_trans (cutV_length xs lo hi) hz) (q2 hw)
theorem relTx (x : Str) (t : Tok) : RelV (.str x) (.str x t) := ⟨t, rfl⟩
/-- x.partition(sep) -/
def partV (a b : Str) : List V := [.str (Txt.partition a b).1, .str (Txt.partition a b).2.1, .str (Txt.partition a b).2.2]
theorem mt_partF : MtR X "str.partition" (fun x xs H Q => ∃ a b, x = .str a ∧ xs = [.str b] ∧ ((b.length == 0) = false ∧ a.length ≤ sizeLine) ∧ NewT (partV a b) H Q) := by
  intro pins s σ H x xs v us Q I rx rs h
  obtain ⟨a, b, rfl, rfl, ⟨hb, hz⟩, h⟩ := h
  obtain ⟨t, rfl⟩ := rx
  cases rs with
  | cons r1 rs =>
    cases rs
    obtain ⟨u, rfl⟩ := r1
    refine call_meets PySem.F.slot_str_partition (typeIs_str _ _ _) PySem.F.entry_str_partition (PySem.F.args_str_partition_2 _ _) (meets_str_partition a b t u hb hz) ?_
    unfold partV Txt.partition at h
    revert h
    cases Builtin.Str.occurrences a b 0 a.length 1 with
    | nil => exact fun h => newT_end I (.cons (relTx _ _) (.cons (relTx _ _) (.cons (relTx _ _) .nil))) (by show 3 ≤ sizeLine; decide) h
    | cons i r => exact fun h => newT_end I (.cons (relTx _ _) (.cons (relTx _ _) (.cons (relTx _ _) .nil))) (by show 3 ≤ sizeLine; decide) h
end
/-! lists that stand as they were made: the script -/
/-- a list of the top -/
def KLst (K : PySem.W.Frag) (a : Addr) (xs : List V) : Prop := ∃ (its : List Value) (n : Nat), K.lookup a = some { cls := .type "list", data := .seq its.toArray n } ∧ its.length ≤ sizeLine ∧ Vals xs its
def LX (K : PySem.W.Frag) (H : Hp) (a : Addr) (xs : List V) : Prop := Rd H a (.lst xs) ∨ KLst K a xs
theorem LX.sq {K : PySem.W.Frag} {H : Hp} {a : Addr} {xs : List V} (h : LX K H a xs) : SqL K H a xs := by
  rcases h with h | ⟨its, n, e, l, r⟩
  · exact .inl h
  · exact .inr ⟨_, its.toArray, n, e, rfl, rfl, rfl, by rw [List.size_toArray]; exact l, by simpa using r⟩
theorem LX.at {X : Cx} {pins : List (Addr × Obj)} {σ : L2.St} {H : Hp} {s : Shared} {a : Addr} {xs : List V} (I : Inv X pins σ H s) (h : LX X.K H a xs) :
    ∃ (its : List Value) (n : Nat), Vals xs its ∧ xs.length = its.length ∧ s.heap.get? a = some { cls := .type "list", data := .seq its.toArray n } := by
  rcases h with h | ⟨its, n, e, l, r⟩
  · obtain ⟨z, its, n, r, e⟩ := h.ok I.hok
    exact ⟨its, n, r, r.length, e⟩
  · exact ⟨its, n, r, r.length, I.kIn _ _ e⟩
def rCatL (K : PySem.W.Frag) : R2 := fun x y H Q => ∃ l b xs zs, x = .ref l ∧ y = .ref b ∧ (LX K H l xs ∧ LX K H b zs) ∧ xs.length + zs.length ≤ sizeLine ∧ ∀ p, H p = none → Q (.ref p) (upd H p (.lst (xs ++ zs)))
theorem op_catL {X : Cx} : OpR X (binaryOp .Add) (rCatL X.K) := by
  rintro pins s σ H x y v u Q I rx ry ⟨l, b, xs, zs, rfl, rfl, ⟨h1, h2⟩, hz, q⟩
  obtain ⟨its, n, r, e1, e⟩ := h1.at I
  obtain ⟨its2, n2, r2, e3, e4⟩ := h2.at I
  cases rx
  cases ry
  have sz : its.toArray.size + its2.toArray.size ≤ sizeLine := by rw [List.size_toArray, List.size_toArray, ← e1, ← e3]; exact hz
  refine PySem.P.add_list e e4 ?_ sz
  rw [show its.toArray ++ its2.toArray = (its ++ its2).toArray by simp]
  exact ⟨.ref _, _, I.lnew (t' := s.toks) (r.append r2) (by rw [List.length_append]; exact hz), rfl, q _ I.fresh⟩
end Tg
end
section
set_option Elab.async false
set_option linter.all false
set_option autoImplicit false
set_option maxRecDepth 100000
/-! promises of defs that are called while nothing is being shown (repr asks who is around) -/
namespace Tg
open PySem PySem.Spec PyProof.Rows L2
/-- a def's promise, at any place around that is at rest -/
structure FnG (P : Program) (w : World) (K : PySem.W.Frag) (mg : Str → Option Value) (base : Heap) (CX : CXT) (k : Nat) (f : Addr) (fd : FuncData) (ps : List Str) (sp : Sp) : Prop where
  len : ∀ vs H Q E, sp vs H Q E → vs.length = ps.length
  run : ∀ (A : Around) (outer : List PySem.Env) (s : Shared) (H : Hp) (ar : Args) (us : List Value) (vs : List V) (Q : VK) (E : XK),
    A.guards = some [] → Room k A → Env0 P w K mg base A outer s H → BindsTo s fd ar (ps.zip us) → Vals vs us → sp vs H Q E →
      codeAny (model P w) A (.call (.ref f) ar) (CR CX outer P w H s Q E) s
/-- how keywords alone bind -/
structure KBind0 (K : PySem.W.Frag) (fd : FuncData) (ps ks : List Str) (g : List Value → List Value) (gV : List V → List V) : Prop where
  to : ∀ (s : Shared) (ws : List Value), K.In s.heap → (g ws).length = ps.length → BindsTo s fd ⟨[], ks.zip ws⟩ (ps.zip (g ws))
  rel : ∀ {zs : List V} {ws : List Value}, Vals zs ws → Vals (gV zs) (g ws)
def swp {α : Type} : List α → List α
  | [a, b] => [b, a]
  | l => l
/-- by position; one by its keyword; two by theirs, the other way about -/
structure BindsX (K : PySem.W.Frag) (fd : FuncData) (ps qs : List Str) : Prop where
  b : Binds K fd ps []
  nm : ps = qs
  k1 : ∀ a, ps = [a] → KBind0 K fd ps [a] id id
  k2 : ∀ a c, ps = [a, c] → KBind0 K fd ps [c, a] swp swp
section
variable {X : Cx} {CX : CXT} {k : Nat} {f : Addr} {fd : FuncData} {ps : List Str} {sp : Sp} {E : XK} {x : Str} {p pos : Pos} {e : Expr} {es : List Expr} {t : TA}
theorem runG {pins : List (Addr × Obj)} {σ : L2.St} {H : Hp} {s : Shared} {Q : VK} {us : List Value} {vs : List V} (hg : X.A.guards = some []) (F : FnG X.prog X.w X.K X.mg X.base CX k f fd ps sp)
    (hr : Room k X.A) (hb : Binds X.K fd ps []) (hx : Passes CX X E) (I : Inv X pins σ H s) (r : Vals vs us) (h : sp vs H Q E) :
    wpAny (model X.prog X.w) X.A (call (.ref f) us) (EP X pins σ Q) X.xe s := by
  have e1 : (us ++ []).length = ps.length := by
    rw [List.append_nil, ← r.length]
    exact F.len _ _ _ _ h
  have bd := hb s us I.kIn e1
  rw [List.append_nil] at bd
  have go := F.run X.A X.stack s H ⟨us, []⟩ us vs Q E hg hr I.env0 bd r h
  refine wpAny_call (codeAny_mono go ?_)
  rintro (er | (u | _ | _ | _)) s' hq
  · exact hx pins σ H s er s' I hq
  all_goals first | exact I.after hq | exact False.elim hq
theorem callG (gd : X.A.guards = some []) (F : FnG X.prog X.w X.K X.mg X.base CX k f fd ps sp) (hr : Room k X.A) (hg : Gl X x) (hm : X.mg x = some (.ref f))
    (hk : PySem.W.keepIn X.K (.ref f) = true) (hb : Binds X.K fd ps []) (hx : Passes CX X E) (ha : PA X (e :: es) t) (hdb : (x == ("__debug__" : Str)) = false)
    (he : starEach (e :: es) X.env = (false, eval e X.env) :: starEach es X.env) (hpl : (backTo pos (starEach es X.env)).any (·.1) = false) :
    PE X (.Call (.Name x p) (e :: es) [] pos) fun σ H Q => t σ H fun vs H1 => sp vs H1 Q E := by
  constructor
  intro pins s σ H Q I h
  refine wpAny_Call_Name_kw (ld_glob I hg hm ?_ hdb)
  have go := thn (ha.run pos pins s σ H _ I h) fun us s1 ⟨vs, H1, I1, r, q⟩ => (⟨I1.kIn, runG gd F hr hb hx I1 r q⟩ : X.K.In s1.heap ∧ _)
  exact PySem.W.callWith_K (h₀ := X.base) I.ok.mod.kin hk go he hpl
theorem call0G (gd : X.A.guards = some []) (F : FnG X.prog X.w X.K X.mg X.base CX k f fd ps sp) (hr : Room k X.A) (hg : Gl X x) (hm : X.mg x = some (.ref f))
    (hk : PySem.W.keepIn X.K (.ref f) = true) (hb : Binds X.K fd ps []) (hx : Passes CX X E) (hdb : (x == ("__debug__" : Str)) = false) :
    PE X (.Call (.Name x p) [] [] pos) fun σ H Q => sp [] H Q E := by
  constructor
  intro pins s σ H Q I h
  refine wpAny_Call_Name_kw (ld_glob I hg hm ?_ hdb)
  exact PySem.W.callWith_K0 I.kIn hk (runG (us := []) gd F hr hb hx I .nil h)
theorem callLG {i : Nat} (gd : X.A.guards = some []) (F : FnG X.prog X.w X.K X.mg X.base CX k f fd ps sp) (hr : Room k X.A) (hN : X.N[i]? = some x) (hv : Vis X.env.scope x)
    (hk : PySem.W.keepIn X.K (.ref f) = true) (hb : Binds X.K fd ps []) (hx : Passes CX X E) (ha : PA X (e :: es) t) (hdb : (x == ("__debug__" : Str)) = false) (hcd : (x == ("__classdict__" : Str)) = false)
    (he : starEach (e :: es) X.env = (false, eval e X.env) :: starEach es X.env) (hpl : (backTo pos (starEach es X.env)).any (·.1) = false) :
    PE X (.Call (.Name x p) (e :: es) [] pos) fun σ H Q => σ[i]? = some (some (.ref f)) ∧ t σ H fun vs H1 => sp vs H1 Q E := by
  constructor
  rintro pins s σ H Q I ⟨hs, ht⟩
  have ld := (pe_var (pos := p) hN hv hdb hcd).run pins s σ H (fun v H1 => v = .ref f ∧ H1 = H) I ⟨.ref f, hs, rfl, rfl⟩
  refine wpAny_Call_Name_kw (thn ld fun u s1 ⟨v, H1, I1, r1, q1⟩ => ?_)
  obtain ⟨rfl, rfl⟩ := q1
  cases r1
  have go := thn (ha.run pos pins s1 σ _ _ I1 ht) fun us s2 ⟨vs, H2, I2, r, q⟩ => (⟨I2.kIn, runG gd F hr hb hx I2 r q⟩ : X.K.In s2.heap ∧ _)
  exact PySem.W.callWith_K (h₀ := X.base) I.ok.mod.kin hk go he hpl
end
/-- from a body's walk -/
theorem fnG_of {CX : CXT} {P : Program} {w : World} {K : PySem.W.Frag} {mg : Str → Option Value} {base : Heap} {k : Nat} {f : Addr} {name qual : Str} {params : Arguments} {body : List Stmt} {scope : Scope} {dV kV doc pm cdv ct oc : Value}
    {an od : Option Addr} {osl : Array (Option Value)} {N ps : List Str} {sp : Sp} (lk : K.lookup f = some ⟨oc, od, .func (PySem.W.fnOf name qual params body scope dV kV doc pm an cdv ct), osl⟩)
    (hcd : PySem.W.codeIn K cdv qual = true) (S : FnScope N ps scope) (len : ∀ vs H Q E, sp vs H Q E → vs.length = ps.length)
    (hbody : ∀ (A : Around) (outer : List PySem.Env) (s : Shared) (H : Hp) (vs : List V) (Q : VK) (E : XK), A.guards = some [] → Room k (A.deeper (envOfC qual scope s.heap.objs.size f cdv)) → sp vs H Q E →
      ∃ t, PSs (cxOf CX P w K mg base N qual scope f cdv A outer s H E) body t ∧ t { nx := fun _ H' => Q .non H', rt := Q } (start N vs) H) :
    FnG P w K mg base CX (k + 1) f (PySem.W.fnOf name qual params body scope dV kV doc pm an cdv ct) ps sp where
  len := len
  run A outer s H ar us vs Q E gd hr e0 hb r hsp := by
    have inK : K.In s.heap := e0.mod.kin.keeps fun b o e => (e0.bs b o e).1
    have lim := e0.mod.nolimit.keeps fun b o e => (e0.bs b o e).1
    refine codeAny_call_function hr.depth (inK _ _ lk) rfl S.co S.gen rfl (PySem.W.codeRec_of inK hcd) (hb _ _ _ _ ?_)
    refine wpAny_newFunctionEnv_cells S.kind ?_ fun env he s1 x => ?_
    · rintro ⟨n, v⟩ hy
      exact (S.par n (List.of_mem_zip hy).1).imp id fun q => ⟨q, PySem.W.cellsFrom_some _ _ _ (.inl q)⟩
    subst he
    refine ⟨lim.keeps x.toInCall.keep, codeAny_func ?_⟩
    obtain ⟨t, ht, hq⟩ := hbody A outer s H vs Q E gd (hr.deeper _) hsp
    have I : Inv (cxOf CX P w K mg base N qual scope f cdv A outer s H E) [] (start N vs) H s1 := inv_start S hr.hd e0 (len _ _ _ _ hsp) r x
    refine wpAny_mono (ht.run [] s1 (start N vs) H _ I hq) ?_ fun _ _ z => z
    intro fl s' hs
    cases fl with
    | next =>
      obtain ⟨σ', H', J, q⟩ := hs
      exact ⟨V.non, H', J.os, J.bare, J.base, J.hok, rfl, q⟩
    | ret u =>
      obtain ⟨v, σ', H', J, rv, q⟩ := hs
      exact ⟨v, H', J.os, J.bare, J.base, J.hok, rv, q⟩
    | _ => exact False.elim hs.choose_spec.choose_spec.2
end Tg
end
section
set_option Elab.async false
set_option linter.all false
set_option autoImplicit false
set_option maxRecDepth 100000
/-! calls with keywords -/
namespace Tg
open PySem PySem.Spec PyProof.Rows L2
theorem bind_kw1 {name qual : Str} {a : Arg} {kd : List (Option Expr)} {df : List Expr} {body : List Stmt} {scope : Scope} {kV doc pm cdv ct : Value} {an : Option Addr} {w : Value} :
    bindArgs (PySem.W.fnOf name qual ⟨[], [a], none, [], kd, none, df⟩ body scope .none kV doc pm an cdv ct) ⟨[], [(a.arg, w)]⟩ = pure [(a.arg, w)] := by
  unfold bindArgs
  simp [PySem.W.fnOf, seqItems?, List.lookup]
  rfl
theorem bind_kw2 {name qual : Str} {a b : Arg} {kd : List (Option Expr)} {df : List Expr} {body : List Stmt} {scope : Scope} {kV doc pm cdv ct : Value} {an : Option Addr} {v w : Value} (hab : (a.arg == b.arg) = false) (hba : (b.arg == a.arg) = false) :
    bindArgs (PySem.W.fnOf name qual ⟨[], [a, b], none, [], kd, none, df⟩ body scope .none kV doc pm an cdv ct) ⟨[], [(b.arg, v), (a.arg, w)]⟩ = pure [(a.arg, w), (b.arg, v)] := by
  have hab' : ¬ a.arg = b.arg := by simpa using hab
  have hba' : ¬ b.arg = a.arg := by simpa using hba
  unfold bindArgs
  simp [PySem.W.fnOf, seqItems?, List.lookup, hab, hba, hab', hba']
  rfl
section
variable {X : Cx} {CX : CXT} {k : Nat} {f : Addr} {fd : FuncData} {ps ks : List Str} {sp : Sp} {E : XK} {x : Str} {p pos : Pos} {kws : List Keyword} {tk : TA} {gV : List V → List V} {g : List Value → List Value}
theorem runGk {pins : List (Addr × Obj)} {σ : L2.St} {H : Hp} {s : Shared} {Q : VK} {ws : List Value} {zs : List V} (hg : X.A.guards = some []) (F : FnG X.prog X.w X.K X.mg X.base CX k f fd ps sp)
    (hr : Room k X.A) (hb : KBind0 X.K fd ps ks g gV) (hx : Passes CX X E) (I : Inv X pins σ H s) (r : Vals zs ws) (h : sp (gV zs) H Q E) :
    wpAny (model X.prog X.w) X.A (call (.ref f) [] (ks.zip ws)) (EP X pins σ Q) X.xe s := by
  have r2 := hb.rel r
  have hl : (g ws).length = ps.length := by rw [← r2.length]; exact F.len _ _ _ _ h
  have go := F.run X.A X.stack s H ⟨[], ks.zip ws⟩ (g ws) (gV zs) Q E hg hr I.env0 (hb.to s ws I.kIn hl) r2 h
  refine wpAny_call (codeAny_mono go ?_)
  rintro (er | (u | _ | _ | _)) s' hq
  · exact hx pins σ H s er s' I hq
  all_goals first | exact I.after hq | exact False.elim hq
theorem callGk (gd : X.A.guards = some []) (F : FnG X.prog X.w X.K X.mg X.base CX k f fd ps sp) (hr : Room k X.A) (hg : Gl X x) (hm : X.mg x = some (.ref f))
    (hk : PySem.W.keepIn X.K (.ref f) = true) (hb : KBind0 X.K fd ps ks g gV) (hx : Passes CX X E) (hkw : PK X kws tk) (hdb : (x == ("__debug__" : Str)) = false)
    (hall : (backToKw pos (keywordEach kws X.env)).all (·.1.isSome) = true) (hks : (backToKw pos (keywordEach kws X.env)).filterMap (·.1) = ks)
    (hpl : ((backTo pos (starEach [] X.env)).any (·.1) || (backToKw pos (keywordEach kws X.env)).any (·.1.isNone)) = false) :
    PE X (.Call (.Name x p) [] kws pos) fun σ H Q => tk σ H fun zs H1 => sp (gV zs) H1 Q E := by
  constructor
  intro pins s σ H Q I h
  refine wpAny_Call_Name_kw (ld_glob I hg hm ?_ hdb)
  refine PySem.W.callWith_KW0 (h₀ := X.base) I.ok.mod.kin hk hall ?_ hpl
  refine thn (hkw.run pos pins s σ H _ I h) fun ws s2 ⟨zs, H2, I2, rz, q2⟩ => ⟨I2.kIn, ?_⟩
  rw [hks]
  exact runGk gd F hr hb hx I2 rz q2
end
end Tg
end
section
set_option Elab.async false
set_option linter.all false
set_option autoImplicit false
set_option maxRecDepth 100000
namespace Tg
open PySem PySem.Spec PyProof.Rows L2

/-- what is fixed: the written part, where the defs and the classes stand -/
structure Wd where
  P : Program
  w : World
  K : PySem.W.Frag
  fa : Nat → Addr
  ca : Nat → Addr
  /-- the parameters' names -/
  pn : Nat → List Str

/-- the ban: addresses that a value may not lean on -/
structure Bn where
  B : Addr → Prop
  m : List Addr
def Bn.no (b : Bn) (a : Addr) : Prop := b.B a ∨ a ∈ b.m

def KTup (K : PySem.W.Frag) (a : Addr) (xs : List V) : Prop := ∃ (o : Obj) (its : Array Value) (n : Nat), (K.lookup a = some o ∧ o.cls = .type "tuple" ∧ o.data = .seq its n ∧ its.size ≤ sizeLine ∧ Vals xs its.toList) ∧ o.dict = none
theorem KTup.sq {K : PySem.W.Frag} {H : Hp} {a : Addr} {xs : List V} (h : KTup K a xs) : SqT K H a xs := by
  obtain ⟨o, its, n, h, _⟩ := h
  exact .inr ⟨o, its, n, h⟩
/-- a dict of the top with text keys -/
def KDic (W : Wd) (a : Addr) (kvs : List (Key × V)) : Prop := (∃ o, W.K.lookup a = some o ∧ o.cls = .type "dict") ∧ (a == sysModules) = false ∧ kvs.length ≤ sizeLine ∧ ∃ vs, KV kvs vs ∧ ∀ h : Heap, W.K.In h → h.DictOf (mixKind W.P W.w) a vs

/-- the same, or a dict that is fixed now -/
def Kd (o o' : HO) : Prop := o' = o ∨ ∃ od kvs, o = .dK kvs ∧ o' = .frz od (.dK kvs)
theorem Kd.refl {o : HO} : Kd o o := .inl rfl
theorem Kd.trans {o o1 o2 : HO} (h : Kd o o1) (k : Kd o1 o2) : Kd o o2 := by
  rcases h with rfl | ⟨od, kvs, rfl, rfl⟩
  · exact k
  · rcases k with rfl | ⟨od', kvs', z, _⟩
    · exact .inr ⟨od, kvs, rfl, rfl⟩
    · cases z
theorem Kd.lst {xs : List V} {o : HO} (h : Kd (.lst xs) o) : o = .lst xs := by
  rcases h with h | ⟨_, _, z, _⟩
  · exact h
  · cases z
theorem Kd.tup {xs : List V} {o : HO} (h : Kd (.tup xs) o) : o = .tup xs := by
  rcases h with h | ⟨_, _, z, _⟩
  · exact h
  · cases z
theorem Kd.dict {H : Hp} {a : Addr} {kvs : List (Key × V)} {o o' : HO} (h : o = .dK kvs ∨ ∃ od, o = .frz od (.dK kvs)) (k : Kd o o') (e : H a = some o') : Rd H a (.dK kvs) := by
  rcases h with rfl | ⟨od, rfl⟩
  · rcases k with rfl | ⟨od, kvs', z, rfl⟩
    · exact .inl e
    · cases z; exact .inr ⟨od, e⟩
  · rcases k with rfl | ⟨od', kvs', z, _⟩
    · exact .inr ⟨od, e⟩
    · cases z
section
variable (W : Wd) (H : Hp) (b : Bn)
mutual
inductive Rep : PV → V → Prop
  | non : Rep .non .non
  | bl (x : Bool) : Rep (.bl x) (.bl x)
  | int (i : Int) : Rep (.int i) (.int i)
  | str (s : List Nat) : Rep (.str s) (.str ⟨s.toArray⟩)
  | tup {a : Addr} {xs : List V} {ps : List PV} : (¬ b.no a ∧ PTu H a xs) ∨ KTup W.K a xs → Reps ps xs → Rep (.tup ps) (.ref a)
  | lst {a : Addr} {xs : List V} {ps : List PV} : (¬ b.no a ∧ Rd H a (.lst xs)) ∨ KLst W.K a xs → Reps ps xs → Rep (.lst ps) (.ref a)
  | dct {a : Addr} {kvs : List (Key × V)} {ps : List (KP × PV)} : (¬ b.no a ∧ Rd H a (.dK kvs)) → RepK ps kvs → Rep (.dct ps) (.ref a)
  | kdc {a : Addr} {kvs : List (Key × V)} {ps : List (KP × PV)} : KDic W a kvs → RepK ps kvs → Rep (.kdc ps) (.ref a)
  | fn (i : Nat) : Rep (.fn i) (.ref (W.fa i))
  | cell {i : Nat} {a : Addr} : b.m[i]? = some a → Rep (.cell i) (.ref a)
inductive Reps : List PV → List V → Prop
  | nil : Reps [] []
  | cons {p : PV} {x : V} {ps : List PV} {xs : List V} : Rep p x → Reps ps xs → Reps (p :: ps) (x :: xs)
inductive RepK : List (KP × PV) → List (Key × V) → Prop
  | nil : RepK [] []
  | cons {k : KP} {p : PV} {x : V} {ps : List (KP × PV)} {xs : List (Key × V)} : Rep p x → RepK ps xs → RepK ((k, p) :: ps) ((kK k, x) :: xs)
end
end

/-- what an expression may do to the heap: the store's cells turn, new objects come -/
structure Stp (b b' : Bn) (H H' : Hp) : Prop where
  B : ∀ a, b'.B a ↔ b.B a
  m : ∃ l, b'.m = b.m ++ l
  new : ∀ a ∈ b'.m, a ∉ b.m → H a = none
  keep : ∀ a o, H a = some o → a ∉ b.m → ∃ o', H' a = some o' ∧ Kd o o' ∧ (b.B a → o' = o)

theorem Stp.refl {b : Bn} {H : Hp} : Stp b b H H := ⟨fun _ => Iff.rfl, ⟨[], by simp⟩, fun _ h n => absurd h n, fun _ o h _ => ⟨o, h, .refl, fun _ => rfl⟩⟩
theorem Stp.mem {b b' : Bn} {H H' : Hp} (s : Stp b b' H H') {a : Addr} (h : a ∈ b.m) : a ∈ b'.m := by
  obtain ⟨l, e⟩ := s.m
  rw [e]
  exact List.mem_append_left _ h
theorem Stp.trans {b b1 b2 : Bn} {H H1 H2 : Hp} (s : Stp b b1 H H1) (t : Stp b1 b2 H1 H2) : Stp b b2 H H2 where
  B := fun a => (t.B a).trans (s.B a)
  m := by
    obtain ⟨l, e⟩ := s.m
    obtain ⟨l', e'⟩ := t.m
    exact ⟨l ++ l', by rw [e', e, List.append_assoc]⟩
  new := fun a h n => by
    by_cases h1 : a ∈ b1.m
    · exact s.new a h1 n
    · have q := t.new a h h1
      cases e : H a with
      | none => rfl
      | some o =>
        obtain ⟨o', z, _⟩ := s.keep a o e n
        rw [z] at q; cases q
  keep := fun a o e n => by
    obtain ⟨o1, e1, k1, x1⟩ := s.keep a o e n
    have n1 : a ∉ b1.m := fun h => by
      have q := s.new a h n
      rw [e] at q; cases q
    obtain ⟨o2, e2, k2, x2⟩ := t.keep a o1 e1 n1
    exact ⟨o2, e2, k1.trans k2, fun h => (x2 ((s.B a).mpr h)).trans (x1 h)⟩
theorem Stp.ban {b b' : Bn} {H H' : Hp} (s : Stp b b' H H') {a : Addr} {o : HO} (e : H a = some o) (n : ¬ b.no a) : ¬ b'.no a := by
  intro h
  rcases h with h | h
  · exact n (.inl ((s.B a).mp h))
  · by_cases q : a ∈ b.m
    · exact n (.inr q)
    · have z := s.new a h q
      rw [e] at z; cases z
theorem Stp.keep' {b b' : Bn} {H H' : Hp} (s : Stp b b' H H') {a : Addr} {o : HO} (e : H a = some o) (n : a ∉ b.m) (h : ∀ o', Kd o o' → o' = o) : H' a = some o := by
  obtain ⟨o', q, k, _⟩ := s.keep a o e n
  rw [h o' k] at q
  exact q
theorem Stp.keepL {b b' : Bn} {H H' : Hp} (s : Stp b b' H H') {a : Addr} {xs : List V} (e : H a = some (.lst xs)) (n : a ∉ b.m) : H' a = some (.lst xs) := s.keep' e n fun _ k => k.lst
theorem Stp.keepT {b b' : Bn} {H H' : Hp} (s : Stp b b' H H') {a : Addr} {xs : List V} (e : H a = some (.tup xs)) (n : a ∉ b.m) : H' a = some (.tup xs) := s.keep' e n fun _ k => k.tup
theorem Kd.frz {od : Obj} {u o : HO} (h : Kd (.frz od u) o) : o = .frz od u := by
  rcases h with h | ⟨_, _, z, _⟩
  · exact h
  · cases z
theorem Stp.keepP {b b' : Bn} {H H' : Hp} (s : Stp b b' H H') {a : Addr} {xs : List V} (e : PTu H a xs) (n : ¬ b.no a) : ¬ b'.no a ∧ PTu H' a xs := by
  obtain ⟨o, e, hd⟩ := e
  exact ⟨s.ban e n, o, s.keep' e (fun h => n (.inr h)) fun _ k => k.frz, hd⟩
theorem Stp.keepR {b b' : Bn} {H H' : Hp} (s : Stp b b' H H') {a : Addr} {xs : List V} (e : Rd H a (.lst xs)) (n : ¬ b.no a) : ¬ b'.no a ∧ Rd H' a (.lst xs) := by
  rcases e with e | ⟨o, e⟩
  · exact ⟨s.ban e n, .inl (s.keepL e fun h => n (.inr h))⟩
  · exact ⟨s.ban e n, .inr ⟨o, s.keep' e (fun h => n (.inr h)) fun _ k => k.frz⟩⟩
theorem Stp.keepX {b b' : Bn} {H H' : Hp} (s : Stp b b' H H') {a : Addr} {o : HO} (e : H a = some o) (n : a ∉ b.m) (h : b.B a) : H' a = some o := by
  obtain ⟨o', q, _, x⟩ := s.keep a o e n
  rw [x h] at q
  exact q
theorem Stp.keepD {b b' : Bn} {H H' : Hp} (s : Stp b b' H H') {a : Addr} {kvs : List (Key × V)} (e : Rd H a (.dK kvs)) (n : a ∉ b.m) : Rd H' a (.dK kvs) := by
  rcases e with e | ⟨od, e⟩
  · obtain ⟨o', q, k, _⟩ := s.keep a _ e n
    exact Kd.dict (.inl rfl) k q
  · obtain ⟨o', q, k, _⟩ := s.keep a _ e n
    exact Kd.dict (.inr ⟨od, rfl⟩) k q
theorem Stp.there {b b' : Bn} {H H' : Hp} (s : Stp b b' H H') {a : Addr} {o : HO} (e : H a = some o) (n : a ∉ b.m) : ∃ o', H' a = some o' := by
  obtain ⟨o', q, _⟩ := s.keep a o e n
  exact ⟨o', q⟩

section
variable {W : Wd}
mutual
theorem Rep.step {b b' : Bn} {H H' : Hp} (s : Stp b b' H H') : ∀ {p : PV} {x : V}, Rep W H b p x → Rep W H' b' p x
  | _, _, .non => .non
  | _, _, .bl x => .bl x
  | _, _, .int i => .int i
  | _, _, .str z => .str z
  | _, _, .tup (.inl ⟨n, e⟩) r => .tup (.inl (s.keepP e n)) (Reps.step s r)
  | _, _, .tup (.inr k) r => .tup (.inr k) (Reps.step s r)
  | _, _, .lst (.inl ⟨n, e⟩) r => .lst (.inl (s.keepR e n)) (Reps.step s r)
  | _, _, .lst (.inr k) r => .lst (.inr k) (Reps.step s r)
  | _, _, .dct ⟨n, e⟩ r => .dct ⟨(by
      rcases e with e | ⟨_, e⟩
      · exact s.ban e n
      · exact s.ban e n), s.keepD e fun h => n (.inr h)⟩ (RepK.step s r)
  | _, _, .kdc k r => .kdc k (RepK.step s r)
  | _, _, .fn i => .fn i
  | _, _, .cell e => .cell (by
      obtain ⟨l, q⟩ := s.m
      rw [q]
      have := (List.getElem?_eq_some_iff.mp e).1
      rw [List.getElem?_append_left this]
      exact e)
theorem Reps.step {b b' : Bn} {H H' : Hp} (s : Stp b b' H H') : ∀ {p : List PV} {x : List V}, Reps W H b p x → Reps W H' b' p x
  | _, _, .nil => .nil
  | _, _, .cons r t => .cons (Rep.step s r) (Reps.step s t)
theorem RepK.step {b b' : Bn} {H H' : Hp} (s : Stp b b' H H') : ∀ {p : List (KP × PV)} {x : List (Key × V)}, RepK W H b p x → RepK W H' b' p x
  | _, _, .nil => .nil
  | _, _, .cons r t => .cons (Rep.step s r) (RepK.step s t)
end
/-- the cells of the store -/
def StoreOk (W : Wd) (H : Hp) (b : Bn) (S : Store) : Prop := b.m.length = S.length ∧ b.m.Nodup ∧ ∀ (i : Nat) (a : Addr) (ps : List PV), b.m[i]? = some a → S[i]? = some ps → ∃ xs, H a = some (.lst xs) ∧ Reps W H b ps xs
theorem Reps.length {H : Hp} {b : Bn} : ∀ {ps : List PV} {xs : List V}, Reps W H b ps xs → ps.length = xs.length
  | _, _, .nil => rfl
  | _, _, .cons _ t => by simp [Reps.length t]
theorem Reps.get {H : Hp} {b : Bn} : ∀ {ps : List PV} {xs : List V} {i : Nat} {p : PV}, Reps W H b ps xs → ps[i]? = some p → ∃ x, xs[i]? = some x ∧ Rep W H b p x
  | _, _, 0, _, .cons r _, e => by simp at e; subst e; exact ⟨_, rfl, r⟩
  | _, _, i + 1, _, .cons _ t, e => by
    obtain ⟨x, h1, h2⟩ := Reps.get (i := i) t (by simpa using e)
    exact ⟨x, by simpa using h1, h2⟩
end

/-- a step with the store -/
structure Adv (W : Wd) (b b' : Bn) (H H' : Hp) (S' : Store) : Prop where
  stp : Stp b b' H H'
  st : StoreOk W H' b' S'
theorem Adv.trans {W : Wd} {b b1 b2 : Bn} {H H1 H2 : Hp} {S1 S2 : Store} (s : Adv W b b1 H H1 S1) (t : Adv W b1 b2 H1 H2 S2) : Adv W b b2 H H2 S2 := ⟨s.stp.trans t.stp, t.st⟩

/-- the ghost of one def's run: the heap at its entry, the cells then, what was banned then -/
structure Gh where
  H0 : Hp
  m0 : List Addr
  B0 : Addr → Prop
  /-- what was owned then (by the same run: at a loop's begin) -/
  M0 : Addr → Prop

/-- an owned list, an owned dict -/
def Owns (W : Wd) (H : Hp) (b : Bn) : PV → Addr → Prop
  | .lst ps, a => ∃ xs, H a = some (.lst xs) ∧ Reps W H b ps xs
  | .dct ps, a => ∃ xs, H a = some (.dK xs) ∧ RepK W H b ps xs
  | _, _ => False
/-- a slot and what the frame holds there; O: the addresses that this run owns -/
def SlOk (W : Wd) (H : Hp) (b : Bn) (O : Addr → Prop) (s : Sl) (x : Option (Option V)) : Prop := match s with
  | .no => True
  | .val p => ∃ v, x = some (some v) ∧ Rep W H b p v
  | .own p => ∃ a, x = some (some (.ref a)) ∧ O a ∧ Owns W H b p a

structure EnvOk (W : Wd) (g : Gh) (ρ : Env) (S : Store) (b : Bn) (O : Addr → Prop) (σ : L2.St) (H : Hp) : Prop where
  len : ρ.length = σ.length
  slot : ∀ i, SlOk W H b O (look ρ i) σ[i]?
  inj : ∀ (i j : Nat) (p q : PV) (a : Addr), look ρ i = .own p → look ρ j = .own q → σ[i]? = some (some (.ref a)) → σ[j]? = some (some (.ref a)) → i = j
  oB : ∀ a, O a → b.B a ∧ (g.H0 a = none ∨ g.M0 a) ∧ a ∉ b.m
  Bo : ∀ a, b.B a ↔ (g.B0 a ∨ O a)
  B0t : ∀ a, g.B0 a → ∃ o, g.H0 a = some o
  BM : ∀ a, g.M0 a → ¬ g.B0 a
  tr : ∀ a, b.no a → ∃ o, H a = some o
  st : StoreOk W H b S
  m0 : ∃ l, b.m = g.m0 ++ l
  mn : ∀ a ∈ b.m, a ∉ g.m0 → g.H0 a = none
  mt : ∀ a, g.M0 a → ∃ o, H a = some o
  keep : ∀ a o, g.H0 a = some o → a ∉ g.m0 → ¬ g.M0 a → ∃ o', H a = some o' ∧ Kd o o' ∧ (g.B0 a → o' = o)

theorem Owns.step {W : Wd} {b b' : Bn} {H H' : Hp} (s : Stp b b' H H') {p : PV} {a : Addr} (hB : b.B a) (n : a ∉ b.m) (h : Owns W H b p a) : Owns W H' b' p a := by
  cases p with
  | lst ps =>
    obtain ⟨xs, e, r⟩ := h
    exact ⟨xs, s.keepX e n hB, r.step s⟩
  | dct ps =>
    obtain ⟨xs, e, r⟩ := h
    exact ⟨xs, s.keepX e n hB, r.step s⟩
  | _ => exact h.elim
theorem EnvOk.adv {W : Wd} {g : Gh} {ρ : Env} {S S' : Store} {b b' : Bn} {O : Addr → Prop} {σ : L2.St} {H H' : Hp} (e : EnvOk W g ρ S b O σ H) (d : Adv W b b' H H' S') : EnvOk W g ρ S' b' O σ H' where
  len := e.len
  slot := fun i => by
    have h := e.slot i
    unfold SlOk at h ⊢
    cases q : look ρ i with
    | no => trivial
    | val p =>
      rw [q] at h
      obtain ⟨v, e1, r⟩ := h
      exact ⟨v, e1, r.step d.stp⟩
    | own p =>
      rw [q] at h
      obtain ⟨a, e1, o, r⟩ := h
      exact ⟨a, e1, o, r.step d.stp (e.oB a o).1 (e.oB a o).2.2⟩
  inj := e.inj
  oB := fun a o => by
    obtain ⟨h1, h2, h3⟩ := e.oB a o
    refine ⟨(d.stp.B a).mpr h1, h2, fun h => ?_⟩
    have z := d.stp.new a h h3
    obtain ⟨o', q⟩ := e.tr a (.inl h1)
    rw [z] at q; cases q
  Bo := fun a => (d.stp.B a).trans (e.Bo a)
  B0t := e.B0t
  BM := e.BM
  tr := fun a h => by
    rcases h with h | h
    · have h1 := (d.stp.B a).mp h
      obtain ⟨o, q⟩ := e.tr a (.inl h1)
      by_cases hm : a ∈ b.m
      · obtain ⟨i, hi⟩ := List.getElem?_of_mem (d.stp.mem hm)
        have hl : i < S'.length := by rw [← d.st.1]; exact (List.getElem?_eq_some_iff.mp hi).1
        obtain ⟨xs, q, _⟩ := d.st.2.2 i a _ hi (List.getElem?_eq_getElem hl)
        exact ⟨_, q⟩
      · exact d.stp.there q hm
    · obtain ⟨i, hi⟩ := List.getElem?_of_mem h
      have hl : i < S'.length := by rw [← d.st.1]; exact (List.getElem?_eq_some_iff.mp hi).1
      obtain ⟨xs, q, _⟩ := d.st.2.2 i a _ hi (List.getElem?_eq_getElem hl)
      exact ⟨_, q⟩
  st := d.st
  m0 := by
    obtain ⟨l, q⟩ := e.m0
    obtain ⟨l', q'⟩ := d.stp.m
    exact ⟨l ++ l', by rw [q', q, List.append_assoc]⟩
  mn := fun a h n => by
    by_cases q : a ∈ b.m
    · exact e.mn a q n
    · have z := d.stp.new a h q
      cases r : g.H0 a with
      | none => rfl
      | some o =>
        by_cases hM : g.M0 a
        · obtain ⟨_, q⟩ := e.mt a hM
          rw [z] at q; cases q
        · obtain ⟨o', q', _⟩ := e.keep a o r n hM
          rw [q'] at z; cases z
  mt := fun a h => by
    obtain ⟨o, q⟩ := e.mt a h
    by_cases hm : a ∈ b.m
    · obtain ⟨i, hi⟩ := List.getElem?_of_mem (d.stp.mem hm)
      have hl : i < S'.length := by rw [← d.st.1]; exact (List.getElem?_eq_some_iff.mp hi).1
      obtain ⟨xs, q, _⟩ := d.st.2.2 i a _ hi (List.getElem?_eq_getElem hl)
      exact ⟨_, q⟩
    · exact d.stp.there q hm
  keep := fun a o h n hM => by
    obtain ⟨o1, q1, k1, x1⟩ := e.keep a o h n hM
    obtain ⟨o2, q2, k2, x2⟩ := d.stp.keep a o1 q1 fun q => by
      have z := e.mn a q n
      rw [h] at z; cases z
    exact ⟨o2, q2, k1.trans k2, fun z => (x2 ((e.Bo a).mpr (.inl z))).trans (x1 z)⟩

/-- a value that is weakly told: a value, or an owned list or dict -/
def RepW (W : Wd) (H : Hp) (b : Bn) (p : PV) (x : V) : Prop := Rep W H b p x ∨ ∃ a, x = .ref a ∧ (b.B a ∧ a ∉ b.m) ∧ Owns W H b p a
theorem Owns.there {W : Wd} {H : Hp} {b : Bn} {p : PV} {a : Addr} (h : Owns W H b p a) : ∃ o, H a = some o := by
  cases p with
  | lst ps => obtain ⟨xs, e, _⟩ := h; exact ⟨_, e⟩
  | dct ps => obtain ⟨xs, e, _⟩ := h; exact ⟨_, e⟩
  | _ => exact h.elim
theorem RepW.step {W : Wd} {b b' : Bn} {H H' : Hp} (s : Stp b b' H H') {v : PV} {x : V} (r : RepW W H b v x) : RepW W H' b' v x := by
  rcases r with r | ⟨a, e, o, r⟩
  · exact .inl (r.step s)
  · refine .inr ⟨a, e, ⟨(s.B a).mpr o.1, fun h => ?_⟩, r.step s o.1 o.2⟩
    have z := s.new a h o.2
    obtain ⟨_, q⟩ := r.there
    rw [z] at q; cases q

/-- an exception that is let out -/
def exE (W : Wd) (E : XK) (b : Bn) (H : Hp) (c : Nat) (v : PV) (S' : Store) : Prop := ∀ x d H' b', Adv W b b' H H' S' → Rep W H' b' v x → H' d = some (.xd [("value", x)]) → E (.ref (W.ca c)) (some d) H'


/-- what holds behind a meaning's end -/
def fin {α : Type} (W : Wd) (E : XK) (P : α → Store → Hp → Bn → Prop) (b : Bn) (H : Hp) (r : Rs α) : Prop := match r with
  | .ok v S' => ∀ H' b', Adv W b b' H H' S' → P v S' H' b'
  | .exc c v S' => exE W E b H c v S'
  | .bad => False
theorem fin.imp {α : Type} {W : Wd} {E : XK} {P P' : α → Store → Hp → Bn → Prop} {b : Bn} {H : Hp} {r : Rs α} (h : fin W E P b H r) (hi : ∀ v S' H' b', Adv W b b' H H' S' → P v S' H' b' → P' v S' H' b') : fin W E P' b H r := by
  cases r with
  | ok v S' => exact fun H' b' d => hi v S' H' b' d (h H' b' d)
  | exc c v S' => exact h
  | bad => exact h
theorem fin.adv {α : Type} {W : Wd} {E : XK} {P : α → Store → Hp → Bn → Prop} {b b1 : Bn} {H H1 : Hp} {S1 : Store} {r : Rs α} (d : Adv W b b1 H H1 S1) (h : fin W E P b H r) : fin W E P b1 H1 r := by
  cases r with
  | ok v S' => exact fun H' b' d' => h H' b' (d.trans d')
  | exc c v S' => exact fun x dd H' b' d' => h x dd H' b' (d.trans d')
  | bad => exact h
theorem fin.bnd {α β : Type} {W : Wd} {E : XK} {P : β → Store → Hp → Bn → Prop} {b : Bn} {H : Hp} {r : Rs α} {k : α → Store → Rs β} (h : fin W E P b H (r.bnd k)) : fin W E (fun v S1 H1 b1 => fin W E P b1 H1 (k v S1)) b H r := by
  cases r with
  | ok v S' => exact fun H' b' d => fin.adv d h
  | exc c v S' => exact h
  | bad => exact h

/-- a meaning run from the slots and the heap -/
def tF {α : Type} (W : Wd) (g : Gh) (E : XK) (d : Env → Store → Rs α) (P : α → Store → Hp → Bn → Prop) (σ : L2.St) (H : Hp) : Prop := ∃ ρ S b O, EnvOk W g ρ S b O σ H ∧ fin W E P b H (d ρ S)
theorem tF.imp {α : Type} {W : Wd} {g : Gh} {E : XK} {d : Env → Store → Rs α} {P P' : α → Store → Hp → Bn → Prop} {σ : L2.St} {H : Hp} (h : tF W g E d P σ H) (hi : ∀ v S' H' b', StoreOk W H' b' S' → P v S' H' b' → P' v S' H' b') : tF W g E d P' σ H := by
  obtain ⟨ρ, S, b, O, e, f⟩ := h
  exact ⟨ρ, S, b, O, e, f.imp fun v S' H' b' d q => hi v S' H' b' d.st q⟩
theorem tF.seq {α β : Type} {W : Wd} {g : Gh} {E : XK} {da : Env → Store → Rs α} {k : Env → α → Store → Rs β} {P : β → Store → Hp → Bn → Prop} {σ : L2.St} {H : Hp}
    (h : tF W g E (fun ρ S => (da ρ S).bnd (k ρ)) P σ H) : tF W g E da (fun v S1 H1 b1 => ∃ ρ O, EnvOk W g ρ S1 b1 O σ H1 ∧ fin W E P b1 H1 (k ρ v S1)) σ H := by
  obtain ⟨ρ, S, b, O, e, f⟩ := h
  exact ⟨ρ, S, b, O, e, f.bnd.imp fun v S1 H1 b1 d q => ⟨ρ, O, e.adv d, q⟩⟩

/-- the reading of an expression by its meaning: its value, fully or weakly told -/
def tEv (W : Wd) (g : Gh) (E : XK) (d : Den) : TE := fun σ H Q => tF W g E d (fun v _ H' b' => ∀ x, Rep W H' b' v x → Q x H') σ H
def tEw (W : Wd) (g : Gh) (E : XK) (d : Den) : TE := fun σ H Q => tF W g E d (fun v _ H' b' => ∀ x, RepW W H' b' v x → Q x H') σ H
/-- .. of arguments -/
def tEa (W : Wd) (g : Gh) (E : XK) (d : Den) : TA := fun σ H Q => tF W g E d (fun v _ H' b' => ∀ xs, Reps W H' b' (asL v) xs → Q xs H') σ H
/-- .. of a test -/
def tEt (W : Wd) (g : Gh) (E : XK) (d : Den) : TT := fun σ H Q => tF W g E d (fun v _ H' b' => ∃ c, truth v = some c ∧ Q c H') σ H

theorem tEw_of {W : Wd} {g : Gh} {E : XK} {d : Den} {σ : L2.St} {H : Hp} {Q : VK} (h : tEw W g E d σ H Q) : tEv W g E d σ H Q := h.imp fun _ _ _ _ _ q x r => q x (.inl r)

theorem peI {X : Cx} {e : Expr} {t t' : TE} (h : PE X e t) (hi : ∀ σ H Q, t' σ H Q → t σ H Q) : PE X e t' := ⟨fun pins s σ H Q I q => h.run pins s σ H Q I (hi σ H Q q)⟩
theorem ptI {X : Cx} {e : Expr} {t t' : TT} (h : PT X e t) (hi : ∀ σ H Q, t' σ H Q → t σ H Q) : PT X e t' := ⟨fun pins s σ H Q I q => h.run pins s σ H Q I (hi σ H Q q)⟩
theorem paI {X : Cx} {e : List Expr} {t t' : TA} (h : PA X e t) (hi : ∀ σ H Q, t' σ H Q → t σ H Q) : PA X e t' := ⟨fun pos pins s σ H Q I q => h.run pos pins s σ H Q I (hi σ H Q q)⟩
theorem psI {X : Cx} {e : Stmt} {t t' : TS} (h : PS X e t) (hi : ∀ D σ H, t' D σ H → t D σ H) : PS X e t' := ⟨fun pins s σ H D I q => h.run pins s σ H D I (hi D σ H q)⟩
theorem pssI {X : Cx} {e : List Stmt} {t t' : TS} (h : PSs X e t) (hi : ∀ D σ H, t' D σ H → t D σ H) : PSs X e t' := ⟨fun pins s σ H D I q => h.run pins s σ H D I (hi D σ H q)⟩
theorem pgI {X : Cx} {e : Expr} {t t' : TG} (h : PG X e t) (hi : ∀ v σ H Q, t' v σ H Q → t v σ H Q) : PG X e t' := ⟨fun pins s σ H v u Q I r q => h.run pins s σ H v u Q I r (hi v σ H Q q)⟩

/-- a new object -/
theorem StoreOk.step {W : Wd} {b : Bn} {H H' : Hp} {S : Store} (s : StoreOk W H b S) (k : ∀ a o, H a = some o → H' a = some o) : StoreOk W H' b S :=
  ⟨s.1, s.2.1, fun i a ps e1 e2 => by
    obtain ⟨xs, q, r⟩ := s.2.2 i a ps e1 e2
    exact ⟨xs, k _ _ q, r.step ⟨fun _ => Iff.rfl, ⟨[], by simp⟩, fun _ h n => absurd h n, fun a o e _ => ⟨o, k a o e, .refl, fun _ => rfl⟩⟩⟩⟩
theorem Adv.grow {W : Wd} {b : Bn} {H H' : Hp} {S : Store} (s : StoreOk W H b S) (k : ∀ a o, H a = some o → H' a = some o) : Adv W b b H H' S :=
  ⟨⟨fun _ => Iff.rfl, ⟨[], by simp⟩, fun _ h n => absurd h n, fun a o e _ => ⟨o, k a o e, .refl, fun _ => rfl⟩⟩, s.step k⟩
theorem same_upd {H : Hp} {p : Addr} {o : HO} (hp : H p = none) : ∀ a o', H a = some o' → upd H p o a = some o' := fun a o' e => by
  rw [upd_ne (ne_of_none e hp)]
  exact e
theorem Adv.new {W : Wd} {b : Bn} {H : Hp} {S : Store} {p : Addr} {o : HO} (s : StoreOk W H b S) (hp : H p = none) : Adv W b b H (upd H p o) S := .grow s (same_upd hp)
theorem Adv.refl {W : Wd} {b : Bn} {H : Hp} {S : Store} (s : StoreOk W H b S) : Adv W b b H H S := .grow s fun _ _ e => e
theorem Rep.grow {W : Wd} {b : Bn} {H H' : Hp} {p : PV} {x : V} (r : Rep W H b p x) (k : ∀ a o, H a = some o → H' a = some o) : Rep W H' b p x := r.step ⟨fun _ => Iff.rfl, ⟨[], by simp⟩, fun _ h n => absurd h n, fun a o e _ => ⟨o, k a o e, .refl, fun _ => rfl⟩⟩
theorem Reps.grow {W : Wd} {b : Bn} {H H' : Hp} {p : List PV} {x : List V} (r : Reps W H b p x) (k : ∀ a o, H a = some o → H' a = some o) : Reps W H' b p x := r.step ⟨fun _ => Iff.rfl, ⟨[], by simp⟩, fun _ h n => absurd h n, fun a o e _ => ⟨o, k a o e, .refl, fun _ => rfl⟩⟩

section
variable {X : Cx} {W : Wd} {g : Gh} {E : XK}

theorem EnvOk.fresh {ρ : Env} {S : Store} {b : Bn} {O : Addr → Prop} {σ : L2.St} {H : Hp} (e : EnvOk W g ρ S b O σ H) {p : Addr} (hp : H p = none) : ¬ b.no p := fun h => by
  obtain ⟨o, q⟩ := e.tr p h
  rw [hp] at q; cases q

/-! ### names, constants -/
theorem se_var {i : Nat} {x : Str} {pos : Pos} (hN : X.N[i]? = some x) (hv : Vis X.env.scope x) (hd : (x == ("__debug__" : Str)) = false) (hcd : (x == ("__classdict__" : Str)) = false) : PE X (.Name x pos) (tEv W g E (dVar i)) := by
  refine peI (pe_var hN hv hd hcd) ?_
  rintro σ H Q ⟨ρ, S, b, O, e, f⟩
  have h := e.slot i
  unfold dVar at f
  unfold SlOk at h
  cases q : look ρ i with
  | no => rw [q] at f; exact f.elim
  | own p => rw [q] at f; exact f.elim
  | val p =>
    rw [q] at f h
    obtain ⟨v, e1, r⟩ := h
    exact ⟨v, e1, f H b (.refl e.st) v r⟩
theorem se_bor {i : Nat} {x : Str} {pos : Pos} (hN : X.N[i]? = some x) (hv : Vis X.env.scope x) (hd : (x == ("__debug__" : Str)) = false) (hcd : (x == ("__classdict__" : Str)) = false) : PE X (.Name x pos) (tEw W g E (dBor i)) := by
  refine peI (pe_var hN hv hd hcd) ?_
  rintro σ H Q ⟨ρ, S, b, O, e, f⟩
  have h := e.slot i
  unfold dBor at f
  unfold SlOk at h
  cases q : look ρ i with
  | no => rw [q] at f; exact f.elim
  | own p =>
    rw [q] at f h
    obtain ⟨a, e1, o, r⟩ := h
    exact ⟨_, e1, f H b (.refl e.st) _ (.inr ⟨a, rfl, ⟨(e.oB a o).1, (e.oB a o).2.2⟩, r⟩)⟩
  | val p =>
    rw [q] at f h
    obtain ⟨v, e1, r⟩ := h
    exact ⟨v, e1, f H b (.refl e.st) v (.inl r)⟩
theorem se_c {e : Expr} {p : PV} {v : V} (h : PE X e (tC v)) (hr : ∀ H b, Rep W H b p v) : PE X e (tEv W g E (dC p)) := by
  refine peI h ?_
  rintro σ H Q ⟨ρ, S, b, O, e, f⟩
  exact f H b (.refl e.st) v (hr H b)

/-! ### arguments, displays -/
theorem sa_nil : PA X [] (tEa W g E dNil) := by
  refine paI pa_nil ?_
  rintro σ H Q ⟨ρ, S, b, O, e, f⟩
  exact f H b (.refl e.st) [] .nil
theorem sa_cons {e : Expr} {es : List Expr} {da dr : Den} (ha : PE X e (tEv W g E da)) (hr : PA X es (tEa W g E dr))
    (hs : starEach (e :: es) X.env = (false, eval e X.env) :: starEach es X.env := by rfl) : PA X (e :: es) (tEa W g E (dCons da dr)) := by
  refine paI (pa_cons ha hr hs) ?_
  intro σ H Q h
  refine (tF.seq (k := fun ρ v S1 => (dr ρ S1).bnd fun vs S2 => .ok (consV v vs) S2) h).imp fun v S1 H1 b1 s1 ⟨ρ, O, e1, f⟩ x rx => ?_
  exact ⟨ρ, S1, b1, O, e1, f.bnd.imp fun vs S2 H2 b2 d q xs rs => q H2 b2 (.refl d.st) (x :: xs) (.cons (rx.step d.stp) rs)⟩
theorem len_le {ps : List PV} {xs : List V} {H : Hp} {b : Bn} (r : Reps W H b ps xs) (h : ps.length ≤ sizeLine) : xs.length ≤ sizeLine := r.length ▸ h
theorem se_tup {es : List Expr} {dr : Den} {x1} {pos : Pos} (h : PA X es (tEa W g E dr)) : PE X (.Tuple es x1 pos) (tEv W g E (dTup dr)) := by
  refine peI (pe_tupF h) ?_
  intro σ H Q h
  refine (tF.seq (k := fun _ vs S1 => okN (asL vs) (.tup (asL vs)) S1) h).imp fun v S1 H1 b1 s1 ⟨ρ, O, e1, f⟩ xs rs => ?_
  unfold okN at f
  split at f
  · rename_i hl
    refine ⟨len_le rs hl, fun p o hp ho => f _ b1 (.new s1 hp) _ (.tup (.inl ⟨e1.fresh hp, o, upd_same, ho⟩) (rs.grow (same_upd hp)))⟩
  · exact f.elim
theorem se_lst {es : List Expr} {dr : Den} {pos : Pos} (h : PA X es (tEa W g E dr)) : PE X (.List es pos) (tEv W g E (dLst dr)) := by
  refine peI (pe_lst h) ?_
  intro σ H Q h
  refine (tF.seq (k := fun _ vs S1 => okN (asL vs) (.lst (asL vs)) S1) h).imp fun v S1 H1 b1 s1 ⟨ρ, O, e1, f⟩ xs rs => ?_
  unfold okN at f
  split at f
  · rename_i hl
    refine ⟨len_le rs hl, fun p hp => f _ b1 (.new s1 hp) _ (.lst (.inl ⟨e1.fresh hp, .inl upd_same⟩) (rs.grow (same_upd hp)))⟩
  · exact f.elim

/-! ### operators by values -/
abbrev RR := Hp → Bn → PV → V → Prop
abbrev RS (W : Wd) : RR := fun H b v x => Rep W H b v x
abbrev RW (W : Wd) : RR := fun H b v x => RepW W H b v x
def Stb (R : RR) : Prop := ∀ {b b' : Bn} {H H' : Hp} {v : PV} {x : V}, Stp b b' H H' → R H b v x → R H' b' v x
theorem stb_s : Stb (RS W) := fun s r => Rep.step s r
theorem stb_w : Stb (RW W) := fun s r => RepW.step s r
/-- a reading by a relation -/
def tEr (W : Wd) (g : Gh) (E : XK) (R : RR) (d : Den) : TE := fun σ H Q => tF W g E d (fun v _ H' b' => ∀ x, R H' b' v x → Q x H') σ H
/-- at a point -/
structure At (W : Wd) (g : Gh) (ρ : Env) (S : Store) (b : Bn) (O : Addr → Prop) (σ : L2.St) (H : Hp) : Prop where
  e : EnvOk W g ρ S b O σ H
theorem two {α : Type} {Ra Rb : RR} (sa : Stb Ra) {da db : Den} {k : Env → PV → PV → Store → Rs α} {P : α → Store → Hp → Bn → Prop} {σ : L2.St} {H : Hp}
    (h : tF W g E (fun ρ S => (da ρ S).bnd fun v S1 => (db ρ S1).bnd fun u S2 => k ρ v u S2) P σ H) :
    tEr W g E Ra da σ H fun x H1 => tEr W g E Rb db σ H1 fun y H2 => ∃ ρ S b O v u, EnvOk W g ρ S b O σ H2 ∧ Ra H2 b v x ∧ Rb H2 b u y ∧ fin W E P b H2 (k ρ v u S) := by
  refine (tF.seq (k := fun ρ v S1 => (db ρ S1).bnd fun u S2 => k ρ v u S2) h).imp fun v S1 H1 b1 s1 ⟨ρ, O, e1, f⟩ x rx => ?_
  exact ⟨ρ, S1, b1, O, e1, f.bnd.imp fun u S2 H2 b2 d q y ry => ⟨ρ, S2, b2, O, v, u, e1.adv d, sa d.stp rx, ry, q⟩⟩
theorem one {α : Type} {Ra : RR} {da : Den} {k : Env → PV → Store → Rs α} {P : α → Store → Hp → Bn → Prop} {σ : L2.St} {H : Hp}
    (h : tF W g E (fun ρ S => (da ρ S).bnd fun v S1 => k ρ v S1) P σ H) :
    tEr W g E Ra da σ H fun x H1 => ∃ ρ S b O v, EnvOk W g ρ S b O σ H1 ∧ Ra H1 b v x ∧ fin W E P b H1 (k ρ v S) :=
  (tF.seq h).imp fun v S1 H1 b1 _ ⟨ρ, O, e1, f⟩ _ rx => ⟨ρ, S1, b1, O, v, e1, rx, f⟩

/-- where a value function's rule stands: what is banned is tracked; what comes is new or nothing comes -/
def Op2 (W : Wd) (Ra Rb : RR) (f : PV → PV → Option PV) (r : R2) : Prop :=
  ∀ (v u w : PV) (x y : V) (H : Hp) (b : Bn) (Q : VK), (∀ p, H p = none → ¬ b.no p) → Ra H b v x → Rb H b u y → f v u = some w →
    (∀ z H', (∀ a o, H a = some o → H' a = some o) → Rep W H' b w z → Q z H') → r x y H Q
def Op1 (W : Wd) (Ra : RR) (f : PV → Option PV) (r : V → Hp → VK → Prop) : Prop :=
  ∀ (v w : PV) (x : V) (H : Hp) (b : Bn) (Q : VK), (∀ p, H p = none → ¬ b.no p) → Ra H b v x → f v = some w →
    (∀ z H', (∀ a o, H a = some o → H' a = some o) → Rep W H' b w z → Q z H') → r x H Q
theorem op2_end {Ra Rb : RR} {f : PV → PV → Option PV} {r : R2} (hf : Op2 W Ra Rb f r) {σ : L2.St} {H2 : Hp} {x y : V} {Q : VK}
    (h : ∃ ρ S b O v u, EnvOk W g ρ S b O σ H2 ∧ Ra H2 b v x ∧ Rb H2 b u y ∧ fin W E (fun w _ H' b' => ∀ z, Rep W H' b' w z → Q z H') b H2 (okv (f v u) S)) : r x y H2 Q := by
  obtain ⟨ρ, S, b, O, v, u, e, ra, rb, f0⟩ := h
  cases q : f v u with
  | none => rw [q] at f0; exact f0.elim
  | some w =>
    rw [q] at f0
    exact hf v u w x y H2 b Q (fun p hp => e.fresh hp) ra rb q fun z H' k rz => f0 H' b (.grow e.st k) z rz
theorem op1_end {Ra : RR} {f : PV → Option PV} {r : V → Hp → VK → Prop} (hf : Op1 W Ra f r) {σ : L2.St} {H2 : Hp} {x : V} {Q : VK}
    (h : ∃ ρ S b O v, EnvOk W g ρ S b O σ H2 ∧ Ra H2 b v x ∧ fin W E (fun w _ H' b' => ∀ z, Rep W H' b' w z → Q z H') b H2 (okv (f v) S)) : r x H2 Q := by
  obtain ⟨ρ, S, b, O, v, e, ra, f0⟩ := h
  cases q : f v with
  | none => rw [q] at f0; exact f0.elim
  | some w =>
    rw [q] at f0
    exact hf v w x H2 b Q (fun p hp => e.fresh hp) ra q fun z H' k rz => f0 H' b (.grow e.st k) z rz
section
variable {Ra Rb : RR} {a c : Expr} {da db : Den} {pos : Pos}
theorem se_bin {op : Operator} {f : PV → PV → Option PV} {r : R2} (sa : Stb Ra) (ho : OpR X (binaryOp op) r) (hf : Op2 W Ra Rb f r) (ha : PE X a (tEr W g E Ra da)) (hb : PE X c (tEr W g E Rb db)) :
    PE X (.BinOp a op c pos) (tEv W g E (dB2 f da db)) :=
  peI (pe_op ho ha hb) fun σ H Q h => (two (Ra := Ra) (Rb := Rb) (k := fun _ v u S => okv (f v u) S) sa h).imp fun _ _ _ _ _ q x rx => (q x rx).imp fun _ _ _ _ _ q' y ry => op2_end hf (q' y ry)
theorem se_cmp {op : CmpOp} {f : PV → PV → Option PV} {r : R2} (sa : Stb Ra) (ho : OpR X (compareOp op) r) (hf : Op2 W Ra Rb f r) (ha : PE X a (tEr W g E Ra da)) (hb : PE X c (tEr W g E Rb db)) (hm : behindInMarks op c = false) :
    PE X (.Compare a [op] [c] pos) (tEv W g E (dB2 f da db)) :=
  peI (pe_cmpR ho ha hb hm) fun σ H Q h => (two (Ra := Ra) (Rb := Rb) (k := fun _ v u S => okv (f v u) S) sa h).imp fun _ _ _ _ _ q x rx => (q x rx).imp fun _ _ _ _ _ q' y ry => op2_end hf (q' y ry)
/-- a test's end from a value's -/
theorem tt_of {d : Den} {σ : L2.St} {H : Hp} {Q : Bool → Hp → Prop} (hb : ∀ ρ S v S', d ρ S = .ok v S' → ∃ k, v = .bl k) (h : tEt W g E d σ H Q) : tEv W g E d σ H fun x H1 => ∃ k, x = .bl k ∧ Q k H1 := by
  obtain ⟨ρ, S, b, O, e, f⟩ := h
  refine ⟨ρ, S, b, O, e, ?_⟩
  cases q : d ρ S with
  | ok v S' =>
    rw [q] at f
    obtain ⟨k, rfl⟩ := hb ρ S v S' q
    intro H' b' dd x rx
    obtain ⟨c, h1, h2⟩ := f H' b' dd
    cases rx
    cases h1
    exact ⟨k, rfl, h2⟩
  | exc c v S' => rw [q] at f; exact f
  | bad => rw [q] at f; exact f
def BlF (f : PV → PV → Option PV) : Prop := ∀ v u w, f v u = some w → ∃ k, w = .bl k
theorem bl_b2 {f : PV → PV → Option PV} (hf : BlF f) : ∀ ρ S v S', dB2 f da db ρ S = .ok v S' → ∃ k, v = .bl k := by
  intro ρ S v S' h
  unfold dB2 at h
  cases q : da ρ S with
  | ok v1 S1 =>
    rw [q] at h
    cases q2 : db ρ S1 with
    | ok v2 S2 =>
      simp only [Rs.bnd, q2] at h
      cases q3 : f v1 v2 with
      | some w =>
        rw [q3] at h
        obtain ⟨k, rfl⟩ := hf _ _ _ q3
        cases h
        exact ⟨k, rfl⟩
      | none => rw [q3] at h; cases h
    | exc c v S' => simp only [Rs.bnd, q2] at h; cases h
    | bad => simp only [Rs.bnd, q2] at h; cases h
  | exc c v S' => rw [q] at h; cases h
  | bad => rw [q] at h; cases h
theorem st_cmp {op : CmpOp} {f : PV → PV → Option PV} {r : R2} (sa : Stb Ra) (ho : OpR X (compareOp op) r) (hf : Op2 W Ra Rb f r) (hk : BlF f) (ha : PE X a (tEr W g E Ra da)) (hb : PE X c (tEr W g E Rb db)) (hm : behindInMarks op c = false) :
    PT X (.Compare a [op] [c] pos) (tEt W g E (dB2 f da db)) :=
  ptI (pt_cmpR ho ha hb hm) fun σ H Q h => (two (Ra := Ra) (Rb := Rb) (k := fun _ v u S => okv (f v u) S) sa (tt_of (bl_b2 hk) h)).imp fun _ _ _ _ _ q x rx => (q x rx).imp fun _ _ _ _ _ q' y ry => op2_end hf (q' y ry)
end

/-! ### truth -/
theorem tru_of {H : Hp} {b : Bn} {v : PV} {x : V} {c : Bool} (hK : X.K = W.K) (r : RepW W H b v x) (hv : truth v = some c) : TruV X.K x H c := by
  have emp : ∀ {ps : List PV} {xs : List V}, Reps W H b ps xs → (!ps.isEmpty) = !xs.isEmpty := fun r => by cases r <;> rfl
  have empK : ∀ {ps : List (KP × PV)} {xs : List (Key × V)}, RepK W H b ps xs → (!ps.isEmpty) = !xs.isEmpty := fun r => by cases r <;> rfl
  rcases r with r | ⟨a, rfl, _, r⟩
  · cases r with
    | non => simp [truth] at hv; exact hv.symm ▸ rfl
    | bl x => simp [truth] at hv; exact hv.symm
    | int i => simp [truth] at hv; exact hv.symm
    | str z =>
      simp only [truth] at hv
      split at hv
      · rename_i hz
        refine ⟨hz, ?_⟩
        cases hv
        cases z with
        | nil => rfl
        | cons _ _ => simp [Str.length]; omega
      · cases hv
    | tup h r =>
      simp only [truth, Option.some.injEq] at hv
      refine .inr (.inl ⟨_, ?_, hv.symm.trans (emp r)⟩)
      rcases h with ⟨_, e⟩ | h
      · exact e.sq _
      · exact hK ▸ h.sq
    | lst h r =>
      simp only [truth, Option.some.injEq] at hv
      exact .inl ⟨_, hK ▸ (LX.sq (h.imp (·.2) id)), hv.symm.trans (emp r)⟩
    | dct n r => simp [truth] at hv
    | kdc n r => simp [truth] at hv
    | fn i => simp [truth] at hv
    | cell e => simp [truth] at hv
  · cases v with
    | lst ps =>
      obtain ⟨xs, e, r⟩ := r
      simp only [truth, Option.some.injEq] at hv
      exact .inl ⟨_, SqL.of e, hv.symm.trans (emp r)⟩
    | dct ps => simp [truth] at hv
    | _ => exact r.elim
theorem st_truth {a : Expr} {d : Den} (hK : X.K = W.K) (ha : PE X a (tEw W g E d)) (he : ∀ whole, isTrue a X.env whole = (do let v ← whole; standAt a.pos; holding [v] (truthy v))) : PT X a (tEt W g E d) := by
  refine ptI (pt_truth ha he) ?_
  rintro σ H Q ⟨ρ, S, b, O, e, f⟩
  refine ⟨ρ, S, b, O, e, ?_⟩
  cases q : d ρ S with
  | ok v S' =>
    rw [q] at f
    intro H' b' dd x rx
    obtain ⟨c, h1, h2⟩ := f H' b' dd
    exact ⟨c, tru_of hK rx h1, h2⟩
  | exc c v S' => rw [q] at f; exact f
  | bad => rw [q] at f; exact f

section
variable {t a c : Expr} {dt da db : Den} {pos : Pos} {rest : List Expr}
theorem se_ite (ht : PT X t (tEt W g E dt)) (ha : PE X a (tEv W g E da)) (hb : PE X c (tEv W g E db)) : PE X (.IfExp t a c pos) (tEv W g E (dIte dt da db)) := by
  refine peI (pe_ifExp ht ha hb) ?_
  intro σ H Q h
  refine (tF.seq (k := fun ρ v S1 => tst v fun c => if c = true then da ρ S1 else db ρ S1) h).imp fun v S1 H1 b1 s1 ⟨ρ, O, e1, f⟩ => ?_
  unfold tst at f
  cases q : truth v with
  | none => rw [q] at f; exact f.elim
  | some k =>
    rw [q] at f
    refine ⟨k, rfl, ?_⟩
    cases k with
    | true => exact ⟨ρ, S1, b1, O, e1, f⟩
    | false => exact ⟨ρ, S1, b1, O, e1, f⟩
theorem se_one {op : BoolOp} (ha : PE X a (tEv W g E da)) : PE X (.BoolOp op [a] pos) (tEv W g E da) := pe_one ha
theorem se_and (ha : PE X a (tEv W g E da)) (hb : PE X (.BoolOp .And (c :: rest) pos) (tEv W g E db)) : PE X (.BoolOp .And (a :: c :: rest) pos) (tEv W g E (dAnd da db)) := by
  refine peI (pe_and ha hb) ?_
  intro σ H Q h
  refine (tF.seq (k := fun ρ v S1 => onBl v fun c => if c = true then db ρ S1 else .ok (.bl false) S1) h).imp fun v S1 H1 b1 s1 ⟨ρ, O, e1, f⟩ x rx => ?_
  cases v with
  | bl k =>
    cases rx
    refine ⟨k, rfl, ?_⟩
    cases k with
    | true => exact ⟨ρ, S1, b1, O, e1, f⟩
    | false => exact f H1 b1 (.refl s1) _ (.bl false)
  | _ => exact f.elim
theorem se_or (ha : PE X a (tEv W g E da)) (hb : PE X (.BoolOp .Or (c :: rest) pos) (tEv W g E db)) : PE X (.BoolOp .Or (a :: c :: rest) pos) (tEv W g E (dOr da db)) := by
  refine peI (pe_or ha hb) ?_
  intro σ H Q h
  refine (tF.seq (k := fun ρ v S1 => onBl v fun c => if c = true then .ok (.bl true) S1 else db ρ S1) h).imp fun v S1 H1 b1 s1 ⟨ρ, O, e1, f⟩ x rx => ?_
  cases v with
  | bl k =>
    cases rx
    refine ⟨k, rfl, ?_⟩
    cases k with
    | false => exact ⟨ρ, S1, b1, O, e1, f⟩
    | true => exact f H1 b1 (.refl s1) _ (.bl true)
  | _ => exact f.elim
theorem se_not (ha : PE X a (tEv W g E da)) : PE X (.UnaryOp .Not a pos) (tEv W g E (dNot da)) := by
  refine peI (pe_not ha) ?_
  intro σ H Q h
  refine (tF.seq (k := fun _ v S1 => onBl v fun c => .ok (.bl (!c)) S1) h).imp fun v S1 H1 b1 s1 ⟨ρ, O, e1, f⟩ x rx => ?_
  cases v with
  | bl k =>
    cases rx
    exact ⟨k, rfl, f H1 b1 (.refl s1) _ (.bl _)⟩
  | _ => exact f.elim
theorem st_and (ha : PT X a (tEt W g E da)) (hb : PW X (.BoolOp .And (c :: rest) pos) (tEt W g E db)) : PW X (.BoolOp .And (a :: c :: rest) pos) (tEt W g E (dAnd da db)) := by
  refine ⟨fun wh pins s σ H Q I h => (pw_and ha hb).run wh pins s σ H Q I ?_⟩
  refine (tF.seq (k := fun ρ v S1 => onBl v fun c => if c = true then db ρ S1 else .ok (.bl false) S1) h).imp fun v S1 H1 b1 s1 ⟨ρ, O, e1, f⟩ => ?_
  cases v with
  | bl k =>
    refine ⟨k, rfl, ?_⟩
    cases k with
    | true => exact ⟨ρ, S1, b1, O, e1, f⟩
    | false =>
      obtain ⟨c, h1, h2⟩ := f H1 b1 (.refl s1)
      cases h1
      exact h2
  | _ => exact f.elim
theorem st_or (ha : PT X a (tEt W g E da)) (hb : PW X (.BoolOp .Or (c :: rest) pos) (tEt W g E db)) : PW X (.BoolOp .Or (a :: c :: rest) pos) (tEt W g E (dOr da db)) := by
  refine ⟨fun wh pins s σ H Q I h => (pw_or ha hb).run wh pins s σ H Q I ?_⟩
  refine (tF.seq (k := fun ρ v S1 => onBl v fun c => if c = true then .ok (.bl true) S1 else db ρ S1) h).imp fun v S1 H1 b1 s1 ⟨ρ, O, e1, f⟩ => ?_
  cases v with
  | bl k =>
    refine ⟨k, rfl, ?_⟩
    cases k with
    | false => exact ⟨ρ, S1, b1, O, e1, f⟩
    | true =>
      obtain ⟨c, h1, h2⟩ := f H1 b1 (.refl s1)
      cases h1
      exact h2
  | _ => exact f.elim
theorem st_not (ha : PT X a (tEt W g E da)) : PT X (.UnaryOp .Not a pos) (tEt W g E (dNot da)) := by
  refine ptI (pt_not ha) ?_
  intro σ H Q h
  refine (tF.seq (k := fun _ v S1 => onBl v fun c => .ok (.bl (!c)) S1) h).imp fun v S1 H1 b1 s1 ⟨ρ, O, e1, f⟩ => ?_
  cases v with
  | bl k =>
    obtain ⟨c, h1, h2⟩ := f H1 b1 (.refl s1)
    cases h1
    exact ⟨k, rfl, h2⟩
  | _ => exact f.elim
end

/-! ### calls of defs -/
/-- what a def promises by its meaning -/
def spOf (W : Wd) (C : CallT) (i : Nat) : Sp := fun vs H Q E => ∃ (ps : List PV) (S : Store) (b : Bn), Reps W H b ps vs ∧ StoreOk W H b S ∧ (∀ a, b.no a → ∃ o, H a = some o) ∧
  fin W E (fun v _ H' b' => ∀ x, Rep W H' b' v x → Q x H') b H (C i ps S)
theorem se_call {C : CallT} {i k : Nat} {fd : FuncData} {ps : List Str} {x : Str} {p pos : Pos} {e : Expr} {es : List Expr} {dr : Den} (gd : X.A.guards = some []) (F : FnG X.prog X.w X.K X.mg X.base (CX X.prog X.w) k (W.fa i) fd ps (spOf W C i)) (hr : Room k X.A) (hg : Gl X x)
    (hm : X.mg x = some (.ref (W.fa i))) (hk : PySem.W.keepIn X.K (.ref (W.fa i)) = true) (hb : Binds X.K fd ps []) (hx : Passes (CX X.prog X.w) X E) (ha : PA X (e :: es) (tEa W g E dr)) (hdb : (x == ("__debug__" : Str)) = false)
    (he : starEach (e :: es) X.env = (false, eval e X.env) :: starEach es X.env := by rfl) (hpl : (backTo pos (starEach es X.env)).any (·.1) = false := by rfl) :
    PE X (.Call (.Name x p) (e :: es) [] pos) (tEv W g E (dCall C i dr)) := by
  refine peI (callG (E := E) gd F hr hg hm hk hb hx ha hdb he hpl) ?_
  intro σ H Q h
  refine (tF.seq (k := fun _ vs S1 => C i (asL vs) S1) h).imp fun v S1 H1 b1 s1 ⟨ρ, O, e1, f⟩ xs rs => ?_
  exact ⟨asL v, S1, b1, rs, s1, e1.tr, f⟩
theorem se_call0 {C : CallT} {i k : Nat} {fd : FuncData} {ps : List Str} {x : Str} {p pos : Pos} (gd : X.A.guards = some []) (F : FnG X.prog X.w X.K X.mg X.base (CX X.prog X.w) k (W.fa i) fd ps (spOf W C i)) (hr : Room k X.A) (hg : Gl X x)
    (hm : X.mg x = some (.ref (W.fa i))) (hk : PySem.W.keepIn X.K (.ref (W.fa i)) = true) (hb : Binds X.K fd ps []) (hx : Passes (CX X.prog X.w) X E) (hdb : (x == ("__debug__" : Str)) = false) :
    PE X (.Call (.Name x p) [] [] pos) (tEv W g E (dCall C i dNil)) := by
  refine peI (call0G (E := E) gd F hr hg hm hk hb hx hdb) ?_
  rintro σ H Q ⟨ρ, S, b, O, e, f⟩
  exact ⟨[], S, b, .nil, e.st, e.tr, f⟩
end
end Tg
end
section
set_option Elab.async false
set_option linter.all false
set_option autoImplicit false
set_option maxRecDepth 100000
namespace Tg
open PySem PySem.Spec PyProof.Rows L2

section
variable {W : Wd} {H : Hp} {b : Bn} {x : V}
theorem rw_int {i : Int} (r : RepW W H b (.int i) x) : x = .int i := by
  rcases r with r | ⟨a, _, _, r⟩
  · cases r; rfl
  · exact r.elim
theorem rw_bl {i : Bool} (r : RepW W H b (.bl i) x) : x = .bl i := by
  rcases r with r | ⟨a, _, _, r⟩
  · cases r; rfl
  · exact r.elim
theorem rw_non (r : RepW W H b .non x) : x = .non := by
  rcases r with r | ⟨a, _, _, r⟩
  · cases r; rfl
  · exact r.elim
theorem rw_str {s : List Nat} (r : RepW W H b (.str s) x) : x = .str ⟨s.toArray⟩ := by
  rcases r with r | ⟨a, _, _, r⟩
  · cases r; rfl
  · exact r.elim
theorem rw_fn {s : Nat} (r : RepW W H b (.fn s) x) : x = .ref (W.fa s) := by
  rcases r with r | ⟨a, _, _, r⟩
  · cases r; rfl
  · exact r.elim
theorem lst_lx {a : Addr} {xs : List V} (h : (¬ b.no a ∧ Rd H a (.lst xs)) ∨ KLst W.K a xs) : LX W.K H a xs := h.imp (·.2) id
theorem lst_sq {a : Addr} {xs : List V} (h : (¬ b.no a ∧ Rd H a (.lst xs)) ∨ KLst W.K a xs) : SqL W.K H a xs := (lst_lx h).sq
theorem rw_lx {ps : List PV} (r : RepW W H b (.lst ps) x) : ∃ a xs, x = .ref a ∧ LX W.K H a xs ∧ Reps W H b ps xs := by
  rcases r with r | ⟨a, rfl, _, xs, e, r⟩
  · cases r with
    | lst e r => exact ⟨_, _, rfl, lst_lx e, r⟩
  · exact ⟨a, xs, rfl, .inl (.inl e), r⟩
theorem rw_lst {ps : List PV} (r : RepW W H b (.lst ps) x) : ∃ a xs, x = .ref a ∧ SqL W.K H a xs ∧ Reps W H b ps xs := by
  obtain ⟨a, xs, e, h, r⟩ := rw_lx r
  exact ⟨a, xs, e, h.sq, r⟩
theorem rw_dct {ps : List (KP × PV)} (r : RepW W H b (.dct ps) x) : ∃ a xs, x = .ref a ∧ (Rd H a (.dK xs) ∨ KDic W a xs) ∧ RepK W H b ps xs := by
  rcases r with r | ⟨a, rfl, _, xs, e, r⟩
  · cases r with
    | dct n r => exact ⟨_, _, rfl, .inl n.2, r⟩
  · exact ⟨a, xs, rfl, .inl (.inl e), r⟩
theorem rw_kdc {ps : List (KP × PV)} (r : RepW W H b (.kdc ps) x) : ∃ a xs, x = .ref a ∧ (Rd H a (.dK xs) ∨ KDic W a xs) ∧ RepK W H b ps xs := by
  rcases r with r | ⟨a, rfl, _, r⟩
  · cases r with
    | kdc n r => exact ⟨_, _, rfl, .inr n, r⟩
  · exact r.elim
theorem rw_tup {ps : List PV} (r : RepW W H b (.tup ps) x) : ∃ a xs, x = .ref a ∧ SqT W.K H a xs ∧ Reps W H b ps xs ∧ Rep W H b (.tup ps) (.ref a) := by
  rcases r with r | ⟨a, rfl, _, r⟩
  · cases id r with
    | tup h r' =>
      refine ⟨_, _, rfl, ?_, r', r⟩
      rcases h with ⟨_, e⟩ | h
      · exact e.sq _
      · exact h.sq
  · exact r.elim
theorem isz_some {n : Nat} {v w : PV} (h : isz n v = some w) : n ≤ sizeLine ∧ w = v := by
  unfold isz at h
  split at h
  · rename_i q; cases h; exact ⟨q, rfl⟩
  · cases h
theorem sL {s t : List Nat} : (⟨s.toArray⟩ : Str) ++ ⟨t.toArray⟩ = ⟨(s ++ t).toArray⟩ := by
  show Str.append _ _ = _
  simp [Str.append]
theorem lenL (s : List Nat) : (⟨s.toArray⟩ : Str).length = s.length := by simp [Str.length]
theorem tlL (s : List Nat) : (⟨s.toArray⟩ : Str).cps.toList = s := by simp
theorem strL {s t : List Nat} : (⟨s.toArray⟩ : Str) = ⟨t.toArray⟩ ↔ s = t := by
  constructor
  · intro h
    have := congrArg (fun z : Str => z.cps.toList) h
    simpa using this
  · rintro rfl; rfl
theorem Reps.app {ps qs : List PV} {xs ys : List V} : Reps W H b ps xs → Reps W H b qs ys → Reps W H b (ps ++ qs) (xs ++ ys)
  | .nil, s => s
  | .cons r t, s => .cons r (Reps.app t s)
end

section
variable {X : Cx} {W : Wd}
def r_add (K : PySem.W.Frag) : R2 := fun x y H Q => rI0 (fun i j => .int (i + j)) x y H Q ∨ ((∃ i j, x = .str i ∧ y = .str j ∧ i.length + j.length ≤ sizeLine ∧ Q (.str (i ++ j)) H) ∨ (rCatF K x y H Q ∨ rCatL K x y H Q))
theorem o_add (hK : X.K = W.K) : OpR X (binaryOp .Add) (r_add W.K) := hK ▸ OpR.or op_add (OpR.or op_add_str (OpR.or op_catF op_catL))
theorem f_add : Op2 W (RW W) (RW W) vAdd (r_add W.K) := by
  intro v u w x y H b Q hf rv ru hw k
  unfold vAdd at hw
  split at hw
  · cases rw_int rv; cases rw_int ru; cases hw
    exact .inl ⟨_, _, rfl, rfl, k _ H (fun _ _ e => e) (.int _)⟩
  · cases rw_str rv; cases rw_str ru
    obtain ⟨h1, rfl⟩ := isz_some hw
    refine .inr (.inl ⟨_, _, rfl, rfl, by simpa [lenL] using h1, ?_⟩)
    rw [sL]
    exact k _ H (fun _ _ e => e) (.str _)
  · obtain ⟨a, xs, rfl, e1, r1⟩ := rw_lx rv
    obtain ⟨c, ys, rfl, e2, r2⟩ := rw_lx ru
    obtain ⟨h1, rfl⟩ := isz_some hw
    refine .inr (.inr (.inr ⟨_, _, xs, ys, rfl, rfl, ⟨e1, e2⟩, by rw [← r1.length, ← r2.length]; exact h1, fun p hp => ?_⟩))
    exact k _ _ (same_upd hp) (.lst (.inl ⟨hf p hp, .inl upd_same⟩) ((r1.app r2).grow (same_upd hp)))
  · rename_i ps qs
    obtain ⟨a, xs, rfl, e1, r1, rr⟩ := rw_tup rv
    obtain ⟨c, ys, rfl, e2, r2, rr2⟩ := rw_tup ru
    obtain ⟨h1, rfl⟩ := isz_some hw
    have n1 := r1.length
    have n2 := r2.length
    refine .inr (.inr (.inl ⟨_, _, xs, ys, rfl, rfl, ⟨e1, e2⟩, by rw [← n1, ← n2]; exact h1, ?_, ?_, ?_⟩))
    · rintro rfl
      cases r1
      exact k _ H (fun _ _ e => e) rr2
    · rintro _ rfl
      cases r2
      rw [List.append_nil] at k
      exact k _ H (fun _ _ e => e) rr
    · intro _ _ p o hp ho
      exact k _ _ (same_upd hp) (.tup (.inl ⟨hf p hp, o, upd_same, ho⟩) ((r1.app r2).grow (same_upd hp)))
  · cases hw
theorem f_sub : Op2 W (RW W) (RW W) vSub (rI0 fun i j => .int (i - j)) := by
  intro v u w x y H b Q hf rv ru hw k
  unfold vSub at hw
  split at hw
  · cases rw_int rv; cases rw_int ru; cases hw
    exact ⟨_, _, rfl, rfl, k _ H (fun _ _ e => e) (.int _)⟩
  · cases hw
def r_mul : R2 := fun x y H Q => rI CMul (fun i j => .int (i * j)) x y H Q ∨ rI CMulW (fun i j => .int (i * j)) x y H Q
theorem o_mul : OpR X (binaryOp .Mult) r_mul := OpR.or op_mul op_mulW
theorem f_mul : Op2 W (RW W) (RW W) vMul r_mul := by
  intro v u w x y H b Q hf rv ru hw k
  unfold vMul at hw
  split at hw
  · rename_i i j
    cases rw_int rv; cases rw_int ru
    split at hw
    · rename_i h
      cases hw
      have q := k (.int (i * j)) H (fun _ _ e => e) (.int _)
      unfold mulOk small at h
      simp only [Bool.or_eq_true, Bool.and_eq_true, decide_eq_true_eq] at h
      rcases h with h | h | h
      · exact .inl ⟨_, _, rfl, rfl, .inl h, q⟩
      · exact .inl ⟨_, _, rfl, rfl, .inr h, q⟩
      · exact .inr ⟨_, _, rfl, rfl, h, q⟩
    · cases hw
  · cases hw
theorem f_div : Op2 W (RW W) (RW W) vDiv (rI CDivW fun i j => .int (i / j)) := by
  intro v u w x y H b Q hf rv ru hw k
  unfold vDiv at hw
  split at hw
  · cases rw_int rv; cases rw_int ru
    split at hw
    · rename_i h
      cases hw
      exact ⟨_, _, rfl, rfl, h, k _ H (fun _ _ e => e) (.int _)⟩
    · cases hw
  · cases hw
theorem f_mod : Op2 W (RW W) (RW W) vMod (rI (fun _ j => 0 < j) fun i j => .int (i % j)) := by
  intro v u w x y H b Q hf rv ru hw k
  unfold vMod at hw
  split at hw
  · cases rw_int rv; cases rw_int ru
    split at hw
    · rename_i h
      cases hw
      exact ⟨_, _, rfl, rfl, h, k _ H (fun _ _ e => e) (.int _)⟩
    · cases hw
  · cases hw
theorem f_pow : Op2 W (RW W) (RW W) vPow (rI CPow fun i j => .int (i ^ j.toNat)) := by
  intro v u w x y H b Q hf rv ru hw k
  unfold vPow at hw
  split at hw
  · cases rw_int rv; cases rw_int ru
    split at hw
    · rename_i h
      cases hw
      exact ⟨_, _, rfl, rfl, h, k _ H (fun _ _ e => e) (.int _)⟩
    · cases hw
  · cases hw

/-! ### == and != -/
mutual
theorem dp_of {H : Hp} {b : Bn} : ∀ {p : PV} {x : V} {d : PyData}, Rep W H b p x → toD p = some d → Dp W.K H x d
  | _, _, _, .non, e => by cases e; exact .non
  | _, _, _, .bl x, e => by cases e; exact .bl x
  | _, _, _, .int i, e => by cases e; exact .int i
  | _, _, _, .str s, e => by cases e; exact .str _
  | .tup ps, _, d, .tup h r, e => by
    unfold toD at e
    cases q : toDs ps with
    | none => rw [q] at e; cases e
    | some ds =>
      rw [q] at e; cases e
      refine .tup ?_ (dps_of r q)
      rcases h with ⟨_, h⟩ | h
      · exact h.sq _
      · exact h.sq
  | .lst ps, _, d, .lst h r, e => by
    unfold toD at e
    cases q : toDs ps with
    | none => rw [q] at e; cases e
    | some ds =>
      rw [q] at e; cases e
      exact .lst (lst_sq h) (dps_of r q)
  | _, _, _, .dct h r, e => by cases e
  | _, _, _, .kdc h r, e => by cases e
  | _, _, _, .fn i, e => by cases e
  | _, _, _, .cell h, e => by cases e
theorem dps_of {H : Hp} {b : Bn} : ∀ {ps : List PV} {xs : List V} {ds : List PyData}, Reps W H b ps xs → toDs ps = some ds → DpAll W.K H xs ds
  | _, _, _, .nil, e => by cases e; exact .nil
  | p :: ps, _, _, .cons r t, e => by
    unfold toDs at e
    cases q : toD p with
    | none => rw [q] at e; cases e
    | some d =>
      cases q2 : toDs ps with
      | none => rw [q, q2] at e; cases e
      | some ds =>
        rw [q, q2] at e; cases e
        exact .cons (dp_of r q) (dps_of t q2)
end
theorem dpw_of {H : Hp} {b : Bn} {p : PV} {x : V} {d : PyData} (r : RepW W H b p x) (e : toD p = some d) : Dp W.K H x d := by
  rcases r with r | ⟨a, rfl, _, r⟩
  · exact dp_of r e
  · cases p with
    | lst ps =>
      obtain ⟨xs, h, r⟩ := r
      unfold toD at e
      cases q : toDs ps with
      | none => rw [q] at e; cases e
      | some ds =>
        rw [q] at e; cases e
        exact .lst (SqL.of h) (dps_of r q)
    | dct ps => cases e
    | _ => exact r.elim
/-- a dict that may be read: tracked, or of the top -/
def DRd (W : Wd) (H : Hp) (a : Addr) (kvs : List (Key × V)) : Prop := Rd H a (.dK kvs) ∨ KDic W a kvs
theorem drd_at {pins : List (Addr × Obj)} {σ : L2.St} {H : Hp} {s : Shared} {a : Addr} {kvs : List (Key × V)} (hP : X.prog = W.P) (hw : X.w = W.w) (hK : X.K = W.K) (I : Inv X pins σ H s) (h : DRd W H a kvs) :
    kvs.length ≤ sizeLine ∧ (a == sysModules) = false ∧ ∃ vs, KV kvs vs ∧ s.heap.DictOf (mixKind X.prog X.w) a vs := by
  rcases h with h | ⟨_, h1, h2, vs, h3, h4⟩
  · obtain ⟨z, hd, vs, rel, dd⟩ := dk_rd I.hok h
    exact ⟨z, hd, vs, rel, dd⟩
  · exact ⟨h2, h1, vs, h3, by rw [hP, hw]; exact h4 _ (hK ▸ I.kIn)⟩
/-- a dict beside an empty one -/
def rEq0 (W : Wd) (neg : Bool) : R2 := fun x y H Q => ∃ a c kvs, x = .ref a ∧ y = .ref c ∧ DRd W H a kvs ∧ DRd W H c [] ∧ Q (.bl (if neg = true then !kvs.isEmpty else kvs.isEmpty)) H
theorem len_beq {α β : Type} (ks : List α) (vs : List β) (h : ks.length = vs.length) : (vs.length == 0 && true) = ks.isEmpty := by
  rw [← h]
  cases ks <;> rfl
theorem op_eq0 (hP : X.prog = W.P) (hw : X.w = W.w) (hK : X.K = W.K) (hu : X.A.units < cLine) : OpR X (compareOp .Eq) (rEq0 W false) := by
  intro pins s σ H x y v u Q I rx ry h
  obtain ⟨a, c, kvs, rfl, rfl, h1, h2, q⟩ := h
  cases (show v = Value.ref a from rx)
  cases (show u = Value.ref c from ry)
  obtain ⟨_, ya, va, ra, da⟩ := drd_at hP hw hK I h1
  obtain ⟨_, yb, vb, rb, db⟩ := drd_at hP hw hK I h2
  cases rb
  refine PySem.W.keq_eq (knd := mixKind X.prog X.w) (r := true) ya yb da db hu (fun e => ?_) ?_
  · cases va with
    | nil => exact PySem.W.KeqHits.nil
    | cons _ _ => cases e
  · rw [show ([] : List (Key × Value)).length = 0 from rfl, len_beq kvs va ra.length]
    exact ⟨.bl _, H, I, rfl, q⟩
theorem op_ne0 (hP : X.prog = W.P) (hw : X.w = W.w) (hK : X.K = W.K) (hu : X.A.units < cLine) : OpR X (compareOp .NotEq) (rEq0 W true) := by
  intro pins s σ H x y v u Q I rx ry h
  obtain ⟨a, c, kvs, rfl, rfl, h1, h2, q⟩ := h
  cases (show v = Value.ref a from rx)
  cases (show u = Value.ref c from ry)
  obtain ⟨_, ya, va, ra, da⟩ := drd_at hP hw hK I h1
  obtain ⟨_, yb, vb, rb, db⟩ := drd_at hP hw hK I h2
  cases rb
  refine PySem.W.keq_ne (knd := mixKind X.prog X.w) (r := true) ya yb da db hu (fun e => ?_) ?_
  · cases va with
    | nil => exact PySem.W.KeqHits.nil
    | cons _ _ => cases e
  · rw [show ([] : List (Key × Value)).length = 0 from rfl, len_beq kvs va ra.length]
    exact ⟨.bl _, H, I, rfl, q⟩
def r_eq (W : Wd) : R2 := fun x y H Q => rEq x y H Q ∨ (rEqD W.K x y H Q ∨ rEq0 W false x y H Q)
def r_ne (W : Wd) : R2 := fun x y H Q => rNe x y H Q ∨ (rNeD W.K x y H Q ∨ rEq0 W true x y H Q)
theorem o_eq (hP : X.prog = W.P) (hw : X.w = W.w) (hK : X.K = W.K) (hu : X.A.units + 64 < cLine) : OpR X (compareOp .Eq) (r_eq W) := by
  unfold r_eq
  have h0 := op_eq0 hP hw hK (by omega)
  rw [← hK]
  exact OpR.or op_eq (OpR.or (op_eqD hu) h0)
theorem o_ne (hP : X.prog = W.P) (hw : X.w = W.w) (hK : X.K = W.K) (hu : X.A.units + 64 < cLine) : OpR X (compareOp .NotEq) (r_ne W) := by
  unfold r_ne
  have h0 := op_ne0 hP hw hK (by omega)
  rw [← hK]
  exact OpR.or op_ne (OpR.or (op_neD hu) h0)
theorem eqB_of {v u : PV} {x y : V} {H : Hp} {b : Bn} {c : Bool} (rv : RepW W H b v x) (ru : RepW W H b u y) (h : eqB v u = some c) :
    (scal x y = true ∧ decide (x = y) = c) ∨ ((∃ d e, Dp W.K H x d ∧ Dp W.K H y e ∧ SeqAt.shaped d = true ∧ SeqAt.shaped e = true ∧ PyData.eqv d e = c) ∨ ∃ a e kvs, x = .ref a ∧ y = .ref e ∧ DRd W H a kvs ∧ DRd W H e [] ∧ kvs.isEmpty = c) := by
  have gen : vEqD v u = some c → ∃ d e, Dp W.K H x d ∧ Dp W.K H y e ∧ SeqAt.shaped d = true ∧ SeqAt.shaped e = true ∧ PyData.eqv d e = c := by
    intro h
    unfold vEqD at h
    cases q1 : toD v with
    | none => rw [q1] at h; cases h
    | some d =>
      cases q2 : toD u with
      | none => rw [q1, q2] at h; cases h
      | some e =>
        rw [q1, q2] at h
        simp only at h
        split at h
        · rename_i hs
          simp only [Bool.and_eq_true] at hs
          cases h
          exact ⟨d, e, dpw_of rv q1, dpw_of ru q2, hs.1, hs.2, rfl⟩
        · cases h
  unfold eqB at h
  split at h
  · rename_i s t
    cases rw_str rv; cases rw_str ru; cases h
    refine .inl ⟨rfl, ?_⟩
    by_cases q : s = t
    · subst q; simp
    · have : ¬ (V.str ⟨s.toArray⟩ = V.str ⟨t.toArray⟩) := fun z => q (strL.mp (V.str.inj z))
      rw [decide_eq_false this, decide_eq_false q]
  · rename_i s t
    cases rw_int rv; cases rw_int ru; cases h
    refine .inl ⟨rfl, ?_⟩
    by_cases q : s = t
    · subst q; simp
    · have : ¬ (V.int s = V.int t) := fun z => q (V.int.inj z)
      rw [decide_eq_false this, decide_eq_false q]
  · rename_i s t
    cases rw_bl rv; cases rw_bl ru; cases h
    refine .inl ⟨rfl, ?_⟩
    by_cases q : s = t
    · subst q; simp
    · have : ¬ (V.bl s = V.bl t) := fun z => q (V.bl.inj z)
      rw [decide_eq_false this, decide_eq_false q]
  · cases rw_non rv; cases rw_non ru; cases h
    exact .inl ⟨rfl, rfl⟩
  · rename_i ks
    cases h
    obtain ⟨a, xs, rfl, e1, r1⟩ := rw_dct rv
    obtain ⟨c, ys, rfl, e2, r2⟩ := rw_dct ru
    cases r2
    exact .inr (.inr ⟨a, c, xs, rfl, rfl, e1, e2, by cases r1 <;> rfl⟩)
  · exact .inr (.inl (gen h))
theorem f_eq : Op2 W (RW W) (RW W) vEq (r_eq W) := by
  intro v u w x y H b Q hf rv ru hw k
  unfold vEq at hw
  cases q : eqB v u with
  | none => rw [q] at hw; cases hw
  | some c =>
    rw [q] at hw; cases hw
    have kk := k (.bl c) H (fun _ _ e => e) (.bl c)
    rcases eqB_of rv ru q with ⟨h1, h2⟩ | ⟨d, e, h1, h2, h3, h4, h5⟩ | ⟨a, e, kvs, h1, h2, h3, h4, h5⟩
    · exact .inl ⟨h1, by rw [h2]; exact kk⟩
    · exact .inr (.inl ⟨d, e, h1, h2, h3, h4, by rw [h5]; exact kk⟩)
    · exact .inr (.inr ⟨a, e, kvs, h1, h2, h3, h4, by rw [← h5] at kk; exact kk⟩)
theorem f_ne : Op2 W (RW W) (RW W) vNe (r_ne W) := by
  intro v u w x y H b Q hf rv ru hw k
  unfold vNe at hw
  cases q : eqB v u with
  | none => rw [q] at hw; cases hw
  | some c =>
    rw [q] at hw; cases hw
    have kk := k (.bl (!c)) H (fun _ _ e => e) (.bl _)
    rcases eqB_of rv ru q with ⟨h1, h2⟩ | ⟨d, e, h1, h2, h3, h4, h5⟩ | ⟨a, e, kvs, h1, h2, h3, h4, h5⟩
    · exact .inl ⟨h1, by rw [h2]; exact kk⟩
    · exact .inr (.inl ⟨d, e, h1, h2, h3, h4, by rw [h5]; exact kk⟩)
    · exact .inr (.inr ⟨a, e, kvs, h1, h2, h3, h4, by rw [← h5] at kk; exact kk⟩)
theorem blf_eq : BlF vEq := fun v u w h => by
  unfold vEq at h
  cases q : eqB v u with
  | none => rw [q] at h; cases h
  | some c => rw [q] at h; cases h; exact ⟨c, rfl⟩
theorem blf_ne : BlF vNe := fun v u w h => by
  unfold vNe at h
  cases q : eqB v u with
  | none => rw [q] at h; cases h
  | some c => rw [q] at h; cases h; exact ⟨_, rfl⟩

/-! ### < and the like -/
theorem asInts_of {H : Hp} {b : Bn} : ∀ {ps : List PV} {xs : List V} {ns : List Int}, Reps W H b ps xs → asInts ps = some ns → xs = ns.map V.int
  | _, _, _, .nil, e => by cases e; rfl
  | .int i :: ps, _, _, .cons r t, e => by
    unfold asInts at e
    cases q : asInts ps with
    | none => rw [q] at e; cases e
    | some ns =>
      rw [q] at e; cases e
      cases r
      rw [asInts_of t q]; rfl
  | .non :: ps, _, _, .cons r t, e => by cases e
  | .bl _ :: ps, _, _, .cons r t, e => by cases e
  | .str _ :: ps, _, _, .cons r t, e => by cases e
  | .tup _ :: ps, _, _, .cons r t, e => by cases e
  | .lst _ :: ps, _, _, .cons r t, e => by cases e
  | .dct _ :: ps, _, _, .cons r t, e => by cases e
  | .kdc _ :: ps, _, _, .cons r t, e => by cases e
  | .fn _ :: ps, _, _, .cons r t, e => by cases e
  | .cell _ :: ps, _, _, .cons r t, e => by cases e
theorem lexB_eq : ∀ (a c : List Int), lexB a c = HT.lexLt a c
  | [], [] => rfl
  | [], _ :: _ => rfl
  | _ :: _, [] => rfl
  | x :: xs, y :: ys => by
    rw [HT.lexLt_cons, ← lexB_eq xs ys]; rfl
def rLtD (K : PySem.W.Frag) : R2 := fun x y H Q => ∃ d e, Dp K H x d ∧ Dp K H y e ∧ PySem.W.alike d e = true ∧ d ≠ .none ∧ d.depth < 60 ∧ Q (.bl (PySem.W.dataLt d e)) H
theorem op_ltD (hu : X.A.units + 64 < cLine) : OpR X (compareOp .Lt) (rLtD X.K) := by
  intro pins s σ H x y v u Q I rx ry h
  obtain ⟨d, e, hd, he, ha, hn, hdp, q⟩ := h
  obtain ⟨as, r1⟩ := Dp.reads I d x v hd rx
  obtain ⟨bs, r2⟩ := Dp.reads I e y u he ry
  exact PySem.W.rcLt_alike d e X.A s v u as bs r1 r2 ha hn (by have := Nat.min_le_left d.depth e.depth; omega) X.prog X.w X.xe _ ⟨.bl _, H, I, rfl, q⟩
def r_lt (K : PySem.W.Frag) : R2 := fun x y H Q => rI0 (fun i j => .bl (decide (i < j))) x y H Q ∨ ((∃ i j, x = .str i ∧ y = .str j ∧ Q (.bl (decide (i.cps.toList < j.cps.toList))) H) ∨ (rLtT K x y H Q ∨ rLtD K x y H Q))
theorem o_lt (hK : X.K = W.K) (hu : X.A.units + 64 < cLine) : OpR X (compareOp .Lt) (r_lt W.K) := hK ▸ OpR.or op_lt (OpR.or op_lt_str (OpR.or (op_ltT (by omega)) (op_ltD hu)))
theorem ltD_of {v u : PV} {x y : V} {H : Hp} {b : Bn} {c : Bool} {Q : VK} (rv : RepW W H b v x) (ru : RepW W H b u y) (h : ltD v u = some c) (kk : Q (.bl c) H) : rLtD W.K x y H Q := by
  unfold ltD at h
  cases q1 : toD v with
  | none => rw [q1] at h; cases h
  | some d =>
    cases q2 : toD u with
    | none => rw [q1, q2] at h; cases h
    | some e =>
      rw [q1, q2] at h
      simp only at h
      split at h
      · rename_i hs
        simp only [Bool.and_eq_true, decide_eq_true_eq] at hs
        cases h
        refine ⟨d, e, dpw_of rv q1, dpw_of ru q2, hs.1, ?_, hs.2.2, kk⟩
        rintro rfl
        exact absurd hs.2.1 (by decide)
      · cases h
theorem f_lt : Op2 W (RW W) (RW W) vLt (r_lt W.K) := by
  intro v u w x y H b Q hf rv ru hw k
  unfold vLt at hw
  cases q : ltB v u with
  | none => rw [q] at hw; cases hw
  | some c =>
    rw [q] at hw; cases hw
    have kk := k (.bl c) H (fun _ _ e => e) (.bl c)
    unfold ltB at q
    split at q
    · cases rw_int rv; cases rw_int ru; cases q
      exact .inl ⟨_, _, rfl, rfl, kk⟩
    · cases rw_str rv; cases rw_str ru; cases q
      exact .inr (.inl ⟨_, _, rfl, rfl, kk⟩)
    · split at q
      · rename_i ns ms h1 h2
        obtain ⟨a, xs, rfl, e1, r1, _⟩ := rw_tup rv
        obtain ⟨c, ys, rfl, e2, r2, _⟩ := rw_tup ru
        cases q
        rw [lexB_eq] at kk
        exact .inr (.inr (.inl ⟨_, _, ns, ms, rfl, rfl, by rw [← asInts_of r1 h1]; exact e1, by rw [← asInts_of r2 h2]; exact e2, kk⟩))
      · exact .inr (.inr (.inr (ltD_of rv ru q kk)))
    · exact .inr (.inr (.inr (ltD_of rv ru q kk)))
theorem blf_lt : BlF vLt := fun v u w h => by
  unfold vLt at h
  cases q : ltB v u with
  | none => rw [q] at h; cases h
  | some c => rw [q] at h; cases h; exact ⟨_, rfl⟩
theorem f_le : Op2 W (RW W) (RW W) vLe (rI0 fun i j => .bl (decide (i ≤ j))) := by
  intro v u w x y H b Q hf rv ru hw k
  unfold vLe at hw
  split at hw
  · cases rw_int rv; cases rw_int ru; cases hw
    exact ⟨_, _, rfl, rfl, k _ H (fun _ _ e => e) (.bl _)⟩
  · cases hw
theorem f_gt : Op2 W (RW W) (RW W) vGt (rI0 fun i j => .bl (decide (j < i))) := by
  intro v u w x y H b Q hf rv ru hw k
  unfold vGt at hw
  split at hw
  · cases rw_int rv; cases rw_int ru; cases hw
    exact ⟨_, _, rfl, rfl, k _ H (fun _ _ e => e) (.bl _)⟩
  · cases hw
theorem f_ge : Op2 W (RW W) (RW W) vGe (rI0 fun i j => .bl (decide (j ≤ i))) := by
  intro v u w x y H b Q hf rv ru hw k
  unfold vGe at hw
  split at hw
  · cases rw_int rv; cases rw_int ru; cases hw
    exact ⟨_, _, rfl, rfl, k _ H (fun _ _ e => e) (.bl _)⟩
  · cases hw
theorem blf_le : BlF vLe := fun v u w h => by
  unfold vLe at h
  split at h
  · cases h; exact ⟨_, rfl⟩
  · cases h
theorem blf_gt : BlF vGt := fun v u w h => by
  unfold vGt at h
  split at h
  · cases h; exact ⟨_, rfl⟩
  · cases h
theorem blf_ge : BlF vGe := fun v u w h => by
  unfold vGe at h
  split at h
  · cases h; exact ⟨_, rfl⟩
  · cases h

/-! ### is None -/
theorem non_of {H : Hp} {b : Bn} {v : PV} {x : V} (r : RepW W H b v x) : decide (x = .non) = isNonP v := by
  rcases r with r | ⟨a, rfl, _, r⟩
  · cases r <;> simp [isNonP]
  · cases v with
    | lst _ => simp [isNonP]
    | dct _ => simp [isNonP]
    | _ => exact r.elim
theorem vIs_eq {v u w : PV} (h : vIs v u = some w) : u = .non ∧ w = .bl (isNonP v) := by
  unfold vIs at h
  split at h
  · cases h; exact ⟨rfl, rfl⟩
  · rename_i z
    cases h
    refine ⟨rfl, ?_⟩
    cases v <;> first | rfl | exact absurd rfl z
  · cases h
theorem vIsN_eq {v u w : PV} (h : vIsN v u = some w) : u = .non ∧ w = .bl (!isNonP v) := by
  unfold vIsN at h
  split at h
  · cases h; exact ⟨rfl, rfl⟩
  · rename_i z
    cases h
    refine ⟨rfl, ?_⟩
    cases v <;> first | rfl | exact absurd rfl z
  · cases h
theorem f_is : Op2 W (RW W) (RW W) vIs (fun x y H Q => y = .non ∧ Q (.bl (decide (x = .non))) H) := by
  intro v u w x y H b Q hf rv ru hw k
  obtain ⟨rfl, rfl⟩ := vIs_eq hw
  refine ⟨rw_non ru, ?_⟩
  rw [non_of rv]
  exact k _ H (fun _ _ e => e) (.bl _)
theorem f_isN : Op2 W (RW W) (RW W) vIsN (fun x y H Q => y = .non ∧ Q (.bl (!decide (x = .non))) H) := by
  intro v u w x y H b Q hf rv ru hw k
  obtain ⟨rfl, rfl⟩ := vIsN_eq hw
  refine ⟨rw_non ru, ?_⟩
  rw [non_of rv]
  exact k _ H (fun _ _ e => e) (.bl _)
theorem blf_is : BlF vIs := fun v u w h => ⟨_, (vIs_eq h).2⟩
theorem blf_isN : BlF vIsN := fun v u w h => ⟨_, (vIsN_eq h).2⟩

/-! ### in -/
theorem flat_of {H : Hp} {b : Bn} {v : PV} {x : V} (r : Rep W H b v x) (h : flatP v = true) : flatV x = true := by
  cases r <;> first | rfl | cases h
theorem flats_of {H : Hp} {b : Bn} : ∀ {ps : List PV} {xs : List V}, Reps W H b ps xs → ps.all flatP = true → xs.all flatV = true
  | _, _, .nil, _ => rfl
  | _, _, .cons r t, h => by
    simp only [List.all_cons, Bool.and_eq_true] at h ⊢
    exact ⟨flat_of r h.1, flats_of t h.2⟩
theorem eqP_of {H : Hp} {b : Bn} {v u : PV} {x y : V} (rv : Rep W H b v x) (ru : Rep W H b u y) (hv : flatP v = true) (hu : flatP u = true) : eqV x y = eqP v u := by
  cases rv <;> first | (cases hv; done) | skip
  all_goals (cases ru <;> first | (cases hu; done) | rfl | skip)
  rename_i s t
  show ((⟨s.toArray⟩ : Str) == ⟨t.toArray⟩) = decide (s = t)
  by_cases q : s = t
  · subst q; simp
  · rw [decide_eq_false q]
    exact beq_eq_false_iff_ne.mpr fun z => q (strL.mp z)
theorem any_of {H : Hp} {b : Bn} {v : PV} {x : V} (rv : Rep W H b v x) (hv : flatP v = true) : ∀ {ps : List PV} {xs : List V}, Reps W H b ps xs → ps.all flatP = true → inV x xs = ps.any fun y => eqP y v
  | _, _, .nil, _ => rfl
  | _, _, .cons r t, h => by
    simp only [List.all_cons, Bool.and_eq_true] at h
    have := any_of rv hv t h.2
    unfold inV at this ⊢
    rw [List.any_cons, List.any_cons, this, eqP_of r rv h.1 hv]
theorem kK_inj {a b : KP} : (kK a = kK b) ↔ a = b := by
  constructor
  · intro h
    cases a <;> cases b
    · rw [Sum.inl.inj h]
    · cases h
    · cases h
    · rw [strL.mp (Sum.inr.inj h)]
  · rintro rfl; rfl
def rInDc (W : Wd) (neg : Bool) : R2 := fun x y H Q => ∃ a kvs k, y = .ref a ∧ x = kV k ∧ DRd W H a kvs ∧ Q (.bl (if neg then !(valV kvs k).isSome else (valV kvs k).isSome)) H
theorem op_inDc (hP : X.prog = W.P) (hw : X.w = W.w) (hK : X.K = W.K) : OpR X (compareOp .In) (rInDc W false) := by
  intro pins s σ H x y v u Q I rx ry h
  obtain ⟨a, kvs, k, rfl, rfl, hd, q⟩ := h
  cases (show u = Value.ref a from ry)
  obtain ⟨z, h1, vs, rel, dd⟩ := drd_at hP hw hK I hd
  refine wpAny_in_of (kV_is rx) h1 dd.mapOf ?_
  rw [← (rel.val k).isSome_eq]
  exact ⟨.bl _, _, I.tok _, rfl, q⟩
theorem op_notInDc (hP : X.prog = W.P) (hw : X.w = W.w) (hK : X.K = W.K) : OpR X (compareOp .NotIn) (rInDc W true) := by
  intro pins s σ H x y v u Q I rx ry h
  obtain ⟨a, kvs, k, rfl, rfl, hd, q⟩ := h
  cases (show u = Value.ref a from ry)
  obtain ⟨z, h1, vs, rel, dd⟩ := drd_at hP hw hK I hd
  refine wpAny_notIn_of (kV_is rx) h1 dd.mapOf ?_
  rw [← (rel.val k).isSome_eq]
  exact ⟨.bl _, _, I.tok _, rfl, q⟩
def r_in0 (W : Wd) (neg : Bool) : R2 := fun x y H Q => (∃ (c : Nat) (z : Str), x = .str ⟨#[c]⟩ ∧ y = .str z ∧ Q (.bl (if neg then !decide (c ∈ z.cps.toList) else decide (c ∈ z.cps.toList))) H) ∨ (rIn W.K neg x y H Q ∨ ((if neg then rNotInD W.K x y H Q else rInD W.K x y H Q) ∨ rInDc W neg x y H Q))
/-- among a tuple's data -/
def rInT (K : PySem.W.Frag) (neg : Bool) : R2 := fun x y H Q => ∃ d ds, Dp K H x d ∧ Dp K H y (.tuple ds) ∧ SeqAt.shaped d = true ∧ SeqAt.shaped (.list ds) = true ∧ Q (.bl (if neg then !(ds.any fun z => PyData.eqv z d) else ds.any fun z => PyData.eqv z d)) H
def r_in (W : Wd) (neg : Bool) : R2 := fun x y H Q => r_in0 W neg x y H Q ∨ rInT W.K neg x y H Q
theorem op_inT (hu : X.A.units + 65 < cLine) : OpR X (compareOp .In) (rInT X.K false) := by
  rintro pins s σ H x y v u Q I rx ry ⟨d, ds, hd, he, sd, se, q⟩
  obtain ⟨bs, r2⟩ := Dp.reads I (.tuple ds) y u he ry
  obtain ⟨as, r1⟩ := Dp.reads I d x v hd rx
  refine SeqAt.in_tuple_reads r2 r1 (SeqAt.canLay_of_shaped se) (SeqAt.canLay_of_shaped sd) (room_in_shaped sd hu) ?_
  exact ⟨.bl _, H, I, rfl, q⟩
theorem op_notInT (hu : X.A.units + 65 < cLine) : OpR X (compareOp .NotIn) (rInT X.K true) := by
  rintro pins s σ H x y v u Q I rx ry ⟨d, ds, hd, he, sd, se, q⟩
  obtain ⟨bs, r2⟩ := Dp.reads I (.tuple ds) y u he ry
  obtain ⟨as, r1⟩ := Dp.reads I d x v hd rx
  refine SeqAt.notIn_tuple_reads r2 r1 (SeqAt.canLay_of_shaped se) (SeqAt.canLay_of_shaped sd) (room_in_shaped sd hu) ?_
  exact ⟨.bl _, H, I, rfl, q⟩
theorem o_in (hP : X.prog = W.P) (hw : X.w = W.w) (hK : X.K = W.K) (hu : X.A.units + 65 < cLine) : OpR X (compareOp .In) (r_in W false) := by
  unfold r_in r_in0
  rw [← hK]
  exact OpR.or (OpR.or op_in_sign (OpR.or op_in_seq (OpR.or (op_inD hu) (op_inDc hP hw hK)))) (op_inT hu)
theorem o_notIn (hP : X.prog = W.P) (hw : X.w = W.w) (hK : X.K = W.K) (hu : X.A.units + 65 < cLine) : OpR X (compareOp .NotIn) (r_in W true) := by
  unfold r_in r_in0
  rw [← hK]
  exact OpR.or (OpR.or op_notIn_sign (OpR.or op_notIn_seq (OpR.or (op_notInD hu) (op_notInDc hP hw hK)))) (op_notInT hu)
theorem val_of {H : Hp} {b : Bn} (k : KP) : ∀ {ps : List (KP × PV)} {xs : List (Key × V)}, RepK W H b ps xs → (valV xs (kK k)).isSome = ps.any fun kv => decide (kv.1 = k)
  | _, _, .nil => rfl
  | _, _, .cons (k := j) r t => by
    rw [← valV_any, List.any_cons, List.any_cons, valV_any, val_of k t]
    congr 1
    by_cases q : j = k
    · subst q; simp
    · rw [decide_eq_false q]
      exact decide_eq_false fun z => q (kK_inj.mp z)
def vInN (neg : Bool) (a c : PV) : Option PV := (inB a c).map fun k => .bl (if neg then !k else k)
theorem vIn_eq : vIn = vInN false := by funext a c; rfl
theorem vNotIn_eq : vNotIn = vInN true := by funext a c; rfl
theorem f_in (neg : Bool) : Op2 W (RW W) (RW W) (vInN neg) (r_in W neg) := by
  intro v u w x y H b Q hf rv ru hw k
  unfold vInN at hw
  cases q : inB v u with
  | none => rw [q] at hw; cases hw
  | some c =>
    rw [q] at hw
    have ew : w = .bl (if neg then !c else c) := (Option.some.inj hw).symm
    subst ew
    have kk := k _ H (fun _ _ e => e) (.bl _)
    have flat : ∀ (ps : List PV) (a : Addr) (xs : List V), (SqL W.K H a xs ∨ SqT W.K H a xs) → y = .ref a → Reps W H b ps xs → flatIn v ps = true → c = inF v ps → r_in0 W neg x y H Q := by
      intro ps a xs hs ey r hfl hc
      unfold flatIn at hfl
      simp only [Bool.and_eq_true] at hfl
      have rv' : Rep W H b v x := by
        rcases rv with rv | ⟨a', _, _, rv⟩
        · exact rv
        · cases v <;> first | exact rv.elim | (cases hfl.1)
      refine .inr (.inl ⟨a, xs, ey, hs, flat_of rv' hfl.1, flats_of r hfl.2, ?_⟩)
      rw [any_of rv' hfl.1 r hfl.2]
      subst hc
      exact kk
    unfold inB at q
    split at q
    · rename_i c0 z
      cases rw_str rv; cases rw_str ru; cases q
      exact .inl (.inl ⟨c0, _, rfl, rfl, kk⟩)
    · rename_i l
      obtain ⟨a, xs, rfl, e1, r1⟩ := rw_lst ru
      split at q
      · rename_i hfl
        exact .inl (flat _ a xs (.inl e1) rfl r1 hfl (Option.some.inj q).symm)
      · unfold inD at q
        cases q1 : toD v with
        | none => rw [q1] at q; cases q
        | some d =>
          cases q2 : toDs l with
          | none => rw [q1, q2] at q; cases q
          | some ds =>
            rw [q1, q2] at q
            simp only at q
            split at q
            · rename_i hsh
              simp only [Bool.and_eq_true] at hsh
              have hd := dpw_of rv q1
              have hds := dps_of r1 q2
              refine .inl (.inr (.inr (.inl ?_)))
              cases q
              cases neg with
              | true => exact ⟨d, ds, hd, .lst e1 hds, hsh.1, hsh.2, kk⟩
              | false => exact ⟨d, ds, hd, .lst e1 hds, hsh.1, hsh.2, kk⟩
            · cases q
    · obtain ⟨a, xs, rfl, e1, r1, _⟩ := rw_tup ru
      split at q
      · rename_i hfl
        exact .inl (flat _ a xs (.inr e1) rfl r1 hfl (Option.some.inj q).symm)
      · rename_i l _ _
        unfold inD at q
        cases q1 : toD v with
        | none => rw [q1] at q; cases q
        | some d =>
          cases q2 : toDs l with
          | none => rw [q1, q2] at q; cases q
          | some ds =>
            rw [q1, q2] at q
            simp only at q
            split at q
            · rename_i hsh
              simp only [Bool.and_eq_true] at hsh
              refine .inr ⟨d, ds, dpw_of rv q1, .tup e1 (dps_of r1 q2), hsh.1, hsh.2, ?_⟩
              cases q
              exact kk
            · cases q
    · rename_i z kvs
      cases rw_str rv
      obtain ⟨a, xs, rfl, e1, r1⟩ := rw_dct ru
      cases q
      refine .inl (.inr (.inr (.inr ⟨a, xs, kK (.s z), rfl, rfl, e1, ?_⟩)))
      rw [val_of (.s z) r1]
      exact kk
    · rename_i z kvs
      cases rw_int rv
      obtain ⟨a, xs, rfl, e1, r1⟩ := rw_dct ru
      cases q
      refine .inl (.inr (.inr (.inr ⟨a, xs, kK (.i z), rfl, rfl, e1, ?_⟩)))
      rw [val_of (.i z) r1]
      exact kk
    · rename_i z kvs
      cases rw_str rv
      obtain ⟨a, xs, rfl, e1, r1⟩ := rw_kdc ru
      cases q
      refine .inl (.inr (.inr (.inr ⟨a, xs, kK (.s z), rfl, rfl, e1, ?_⟩)))
      rw [val_of (.s z) r1]
      exact kk
    · cases q
theorem blf_in (neg : Bool) : BlF (vInN neg) := fun v u w h => by
  unfold vInN at h
  cases q : inB v u with
  | none => rw [q] at h; cases h
  | some c => rw [q] at h; cases h; exact ⟨_, rfl⟩
end
end Tg
end
section
set_option Elab.async false
set_option linter.all false
set_option autoImplicit false
set_option maxRecDepth 100000
namespace Tg
open PySem PySem.Spec PyProof.Rows L2

/-! ### built-in functions of one thing -/
def OpC (W : Wd) (f : PV → Option PV) (r : List V → Hp → VK → Prop) : Prop :=
  ∀ (v w : PV) (x : V) (H : Hp) (b : Bn) (Q : VK), (∀ p, H p = none → ¬ b.no p) → RepW W H b v x → f v = some w →
    (∀ z H', (∀ a o, H a = some o → H' a = some o) → Rep W H' b w z → Q z H') → r [x] H Q
section
variable {X : Cx} {W : Wd} {g : Gh} {E : XK}
theorem opc_end {f : PV → Option PV} {r : List V → Hp → VK → Prop} (hf : OpC W f r) {σ : L2.St} {H2 : Hp} {x : V} {Q : VK}
    (h : ∃ ρ S b O v, EnvOk W g ρ S b O σ H2 ∧ RW W H2 b v x ∧ fin W E (fun w _ H' b' => ∀ z, Rep W H' b' w z → Q z H') b H2 (okv (f v) S)) : r [x] H2 Q := by
  obtain ⟨ρ, S, b, O, v, e, ra, f0⟩ := h
  cases q : f v with
  | none => rw [q] at f0; exact f0.elim
  | some w =>
    rw [q] at f0
    exact hf v w x H2 b Q (fun p hp => e.fresh hp) ra q fun z H' k rz => f0 H' b (.grow e.st k) z rz
section
variable {x : Str} {p pos : Pos} {e : Expr} {da : Den} {f : PV → Option PV} {r : List V → Hp → VK → Prop} {id T : String}
theorem sb_fun (hc : CallR X (.builtin id) r) (hf : OpC W f r) (hg : Gl X x) (hm : X.mg x = none) (hv : bootBuiltins x = some (.builtin id)) (ha : PE X e (tEr W g E (RW W) da)) (hn : x ≠ "__name__") (hdb : (x == ("__debug__" : Str)) = false)
    (hs : starEach [e] X.env = (false, eval e X.env) :: starEach [] X.env := by rfl) (hpl : (backTo pos (starEach ([] : List Expr) X.env)).any (·.1) = false := by rfl) : PE X (.Call (.Name x p) [e] [] pos) (tEv W g E (dB1 f da)) :=
  peI (pe_callB hc hg hm hv (pa_cons ha pa_nil hs) hn hdb hs hpl) fun σ H Q h => (one (Ra := RW W) (k := fun _ v S => okv (f v) S) h).imp fun _ _ _ _ _ q y ry => opc_end hf (q y ry)
theorem sb_ty (hc : CallR X (.type T) r) (hf : OpC W f r) (hg : Gl X x) (hm : X.mg x = none) (hv : bootBuiltins x = some (.type T)) (ha : PE X e (tEr W g E (RW W) da)) (hn : x ≠ "__name__") (hdb : (x == ("__debug__" : Str)) = false)
    (hs : starEach [e] X.env = (false, eval e X.env) :: starEach [] X.env := by rfl) (hpl : (backTo pos (starEach ([] : List Expr) X.env)).any (·.1) = false := by rfl) : PE X (.Call (.Name x p) [e] [] pos) (tEv W g E (dB1 f da)) :=
  peI (pe_callTy hc hg hm hv (pa_cons ha pa_nil hs) hn hdb hs hpl) fun σ H Q h => (one (Ra := RW W) (k := fun _ v S => okv (f v) S) h).imp fun _ _ _ _ _ q y ry => opc_end hf (q y ry)
end

/-! len -/
def rLenD (W : Wd) : List V → Hp → VK → Prop := fun xs H Q => ∃ a kvs, xs = [.ref a] ∧ DRd W H a kvs ∧ Q (.int kvs.length) H
theorem call_lenDc (hP : X.prog = W.P) (hw : X.w = W.w) (hK : X.K = W.K) : CallR X (.builtin "len") (rLenD W) := by
  intro pins s σ H xs us Q I r h
  obtain ⟨a, kvs, rfl, hd, q⟩ := h
  obtain ⟨u, rfl, ru⟩ := vals1 r
  cases (show u = Value.ref a from ru)
  obtain ⟨z, h1, vs, rel, dd⟩ := drd_at hP hw hK I hd
  refine call_len_dict h1 dd (by rw [← rel.length]; rw [sizeLine_eq] at z; omega) ?_
  rw [← rel.length]
  exact ⟨.int _, _, I.tok _, ⟨_, rfl⟩, q⟩
theorem RepK.length {H : Hp} {b : Bn} : ∀ {ps : List (KP × PV)} {xs : List (Key × V)}, RepK W H b ps xs → ps.length = xs.length
  | _, _, .nil => rfl
  | _, _, .cons _ t => by simp [RepK.length t]
def r_len (W : Wd) : List V → Hp → VK → Prop := fun xs H Q => (∃ p ys, xs = [.ref p] ∧ (SqL W.K H p ys ∨ SqT W.K H p ys) ∧ Q (.int ys.length) H) ∨ ((∃ z, xs = [.str z] ∧ z.length ≤ sizeLine ∧ Q (.int z.length) H) ∨ rLenD W xs H Q)
theorem o_len (hP : X.prog = W.P) (hw : X.w = W.w) (hK : X.K = W.K) : CallR X (.builtin "len") (r_len W) := by
  unfold r_len
  rw [← hK]
  exact CallR.or call_len_seq (CallR.or call_len_str (call_lenDc hP hw hK))
theorem f_len : OpC W uLen (r_len W) := by
  intro v w x H b Q hf rv hw k
  unfold uLen at hw
  split at hw
  · rename_i s
    split at hw
    · rename_i hl
      cases hw; cases rw_str rv
      refine .inr (.inl ⟨_, rfl, by simpa [lenL] using hl, ?_⟩)
      rw [lenL]
      exact k _ H (fun _ _ e => e) (.int _)
    · cases hw
  · cases hw
    obtain ⟨a, xs, rfl, e1, r1⟩ := rw_lst rv
    exact .inl ⟨a, xs, rfl, .inl (e1), r1.length ▸ k _ H (fun _ _ e => e) (.int _)⟩
  · cases hw
    obtain ⟨a, xs, rfl, e1, r1, _⟩ := rw_tup rv
    exact .inl ⟨a, xs, rfl, .inr e1, r1.length ▸ k _ H (fun _ _ e => e) (.int _)⟩
  · cases hw
    obtain ⟨a, xs, rfl, e1, r1⟩ := rw_dct rv
    exact .inr (.inr ⟨a, xs, rfl, e1, r1.length ▸ k _ H (fun _ _ e => e) (.int _)⟩)
  · cases hw
/-! tuple, list -/
def r_tuple (W : Wd) : List V → Hp → VK → Prop := fun xs H Q => ∃ p ys, xs = [.ref p] ∧ ((SqL W.K H p ys ∧ NewT ys H Q) ∨ (SqT W.K H p ys ∧ Q (.ref p) H))
theorem o_tuple (hK : X.K = W.K) : CallR X (.type "tuple") (r_tuple W) := by
  unfold r_tuple
  rw [← hK]
  exact call_tupleF
theorem f_tuple : OpC W uTuple (r_tuple W) := by
  intro v w x H b Q hf rv hw k
  unfold uTuple at hw
  split at hw
  · cases hw
    obtain ⟨a, xs, rfl, e1, r1⟩ := rw_lst rv
    exact ⟨a, xs, rfl, .inl ⟨e1, fun p o hp ho => k _ _ (same_upd hp) (.tup (.inl ⟨hf p hp, o, upd_same, ho⟩) (r1.grow (same_upd hp)))⟩⟩
  · cases hw
    obtain ⟨a, xs, rfl, e1, r1, rr⟩ := rw_tup rv
    exact ⟨a, xs, rfl, .inr ⟨e1, k _ H (fun _ _ e => e) rr⟩⟩
  · cases hw
def r_list (W : Wd) : List V → Hp → VK → Prop := fun xs H Q => ∃ p ys, xs = [.ref p] ∧ (SqL W.K H p ys ∨ SqT W.K H p ys) ∧ ∀ l, H l = none → Q (.ref l) (upd H l (.lst ys))
theorem o_list (hK : X.K = W.K) : CallR X (.type "list") (r_list W) := by
  unfold r_list
  rw [← hK]
  exact call_list_of
theorem f_list : OpC W uList (r_list W) := by
  intro v w x H b Q hf rv hw k
  unfold uList at hw
  split at hw
  · cases hw
    obtain ⟨a, xs, rfl, e1, r1⟩ := rw_lst rv
    exact ⟨a, xs, rfl, .inl (e1), fun p hp => k _ _ (same_upd hp) (.lst (.inl ⟨hf p hp, .inl upd_same⟩) (r1.grow (same_upd hp)))⟩
  · cases hw
    obtain ⟨a, xs, rfl, e1, r1, rr⟩ := rw_tup rv
    exact ⟨a, xs, rfl, .inr e1, fun p hp => k _ _ (same_upd hp) (.lst (.inl ⟨hf p hp, .inl upd_same⟩) (r1.grow (same_upd hp)))⟩
  · cases hw
/-! all, any, sum, min, max -/
theorem asBls_of {H : Hp} {b : Bn} : ∀ {ps : List PV} {xs : List V} {bs : List Bool}, Reps W H b ps xs → asBls ps = some bs → xs = bs.map V.bl
  | _, _, _, .nil, e => by cases e; rfl
  | .bl i :: ps, _, _, .cons r t, e => by
    unfold asBls at e
    cases q : asBls ps with
    | none => rw [q] at e; cases e
    | some ns =>
      rw [q] at e; cases e
      cases r
      rw [asBls_of t q]; rfl
  | .non :: ps, _, _, .cons r t, e => by cases e
  | .int _ :: ps, _, _, .cons r t, e => by cases e
  | .str _ :: ps, _, _, .cons r t, e => by cases e
  | .tup _ :: ps, _, _, .cons r t, e => by cases e
  | .lst _ :: ps, _, _, .cons r t, e => by cases e
  | .dct _ :: ps, _, _, .cons r t, e => by cases e
  | .kdc _ :: ps, _, _, .cons r t, e => by cases e
  | .fn _ :: ps, _, _, .cons r t, e => by cases e
  | .cell _ :: ps, _, _, .cons r t, e => by cases e
theorem asStrs_of {H : Hp} {b : Bn} : ∀ {ps : List PV} {xs : List V} {bs : List (List Nat)}, Reps W H b ps xs → asStrs ps = some bs → xs = (bs.map SX.S).map V.str
  | _, _, _, .nil, e => by cases e; rfl
  | .str i :: ps, _, _, .cons r t, e => by
    unfold asStrs at e
    cases q : asStrs ps with
    | none => rw [q] at e; cases e
    | some ns =>
      rw [q] at e; cases e
      cases r
      rw [asStrs_of t q]; rfl
  | .non :: ps, _, _, .cons r t, e => by cases e
  | .int _ :: ps, _, _, .cons r t, e => by cases e
  | .bl _ :: ps, _, _, .cons r t, e => by cases e
  | .tup _ :: ps, _, _, .cons r t, e => by cases e
  | .lst _ :: ps, _, _, .cons r t, e => by cases e
  | .dct _ :: ps, _, _, .cons r t, e => by cases e
  | .kdc _ :: ps, _, _, .cons r t, e => by cases e
  | .fn _ :: ps, _, _, .cons r t, e => by cases e
  | .cell _ :: ps, _, _, .cons r t, e => by cases e
theorem f_all : OpC W uAll (rAll W.K) := by
  intro v w x H b Q hf rv hw k
  unfold uAll at hw
  split at hw
  · rename_i l
    cases q : asBls l with
    | none => rw [q] at hw; cases hw
    | some bs =>
      rw [q] at hw; cases hw
      obtain ⟨a, xs, rfl, e1, r1⟩ := rw_lst rv
      have := asBls_of r1 q
      subst this
      exact ⟨a, bs, rfl, e1, k _ H (fun _ _ e => e) (.bl _)⟩
  · cases hw
theorem f_any : OpC W uAny (rAny W.K) := by
  intro v w x H b Q hf rv hw k
  unfold uAny at hw
  split at hw
  · rename_i l
    cases q : asBls l with
    | none => rw [q] at hw; cases hw
    | some bs =>
      rw [q] at hw; cases hw
      obtain ⟨a, xs, rfl, e1, r1⟩ := rw_lst rv
      have := asBls_of r1 q
      subst this
      exact ⟨a, bs, rfl, e1, k _ H (fun _ _ e => e) (.bl _)⟩
  · cases hw
theorem f_sum : OpC W uSum (rSum W.K) := by
  intro v w x H b Q hf rv hw k
  unfold uSum at hw
  split at hw
  · rename_i l
    cases q : asInts l with
    | none => rw [q] at hw; cases hw
    | some bs =>
      rw [q] at hw; cases hw
      obtain ⟨a, xs, rfl, e1, r1⟩ := rw_lst rv
      have := asInts_of r1 q
      subst this
      exact ⟨a, bs, rfl, e1, k _ H (fun _ _ e => e) (.int _)⟩
  · cases hw
theorem leastOf_spec : ∀ (r : List Int) (n : Int), leastOf n r ∈ n :: r ∧ ∀ y ∈ n :: r, leastOf n r ≤ y
  | [], n => by simp [leastOf]
  | c :: r, n => by
    have h := leastOf_spec r (if c < n then c else n)
    have e : leastOf n (c :: r) = leastOf (if c < n then c else n) r := rfl
    rw [e]
    by_cases q : c < n
    · rw [if_pos q] at h ⊢
      refine ⟨List.mem_cons_of_mem _ h.1, fun y hy => ?_⟩
      have h0 := h.2 c (List.mem_cons_self ..)
      rcases List.mem_cons.mp hy with rfl | hy
      · omega
      · exact h.2 y hy
    · rw [if_neg q] at h ⊢
      refine ⟨?_, fun y hy => ?_⟩
      · rcases List.mem_cons.mp h.1 with h1 | h1
        · rw [h1]; exact List.mem_cons_self ..
        · exact List.mem_cons_of_mem _ (List.mem_cons_of_mem _ h1)
      · have h0 := h.2 n (List.mem_cons_self ..)
        rcases List.mem_cons.mp hy with rfl | hy
        · exact h0
        · rcases List.mem_cons.mp hy with rfl | hy
          · omega
          · exact h.2 y (List.mem_cons_of_mem _ hy)
theorem mostOf_spec : ∀ (r : List Int) (n : Int), mostOf n r ∈ n :: r ∧ ∀ y ∈ n :: r, y ≤ mostOf n r
  | [], n => by simp [mostOf]
  | c :: r, n => by
    have h := mostOf_spec r (if n < c then c else n)
    have e : mostOf n (c :: r) = mostOf (if n < c then c else n) r := rfl
    rw [e]
    by_cases q : n < c
    · rw [if_pos q] at h ⊢
      refine ⟨List.mem_cons_of_mem _ h.1, fun y hy => ?_⟩
      have h0 := h.2 c (List.mem_cons_self ..)
      rcases List.mem_cons.mp hy with rfl | hy
      · omega
      · exact h.2 y hy
    · rw [if_neg q] at h ⊢
      refine ⟨?_, fun y hy => ?_⟩
      · rcases List.mem_cons.mp h.1 with h1 | h1
        · rw [h1]; exact List.mem_cons_self ..
        · exact List.mem_cons_of_mem _ (List.mem_cons_of_mem _ h1)
      · have h0 := h.2 n (List.mem_cons_self ..)
        rcases List.mem_cons.mp hy with rfl | hy
        · exact h0
        · rcases List.mem_cons.mp hy with rfl | hy
          · omega
          · exact h.2 y (List.mem_cons_of_mem _ hy)
theorem f_min : OpC W uMin (rMin W.K) := by
  intro v w x H b Q hf rv hw k
  unfold uMin at hw
  split at hw
  · rename_i l
    split at hw
    · rename_i n r q
      cases hw
      obtain ⟨a, xs, rfl, e1, r1⟩ := rw_lst rv
      have := asInts_of r1 q
      subst this
      have sp := leastOf_spec r n
      refine ⟨a, _, rfl, e1, by simp, fun m h1 h2 => ?_⟩
      have : m = leastOf n r := Int.le_antisymm (h2 _ sp.1) (sp.2 _ h1)
      rw [this]
      exact k _ H (fun _ _ e => e) (.int _)
    · cases hw
  · cases hw
theorem f_max : OpC W uMax (rMax W.K) := by
  intro v w x H b Q hf rv hw k
  unfold uMax at hw
  split at hw
  · rename_i l
    split at hw
    · rename_i n r q
      cases hw
      obtain ⟨a, xs, rfl, e1, r1⟩ := rw_lst rv
      have := asInts_of r1 q
      subst this
      have sp := mostOf_spec r n
      refine ⟨a, _, rfl, e1, by simp, fun m h1 h2 => ?_⟩
      have : m = mostOf n r := Int.le_antisymm (sp.2 _ h1) (h2 _ sp.1)
      rw [this]
      exact k _ H (fun _ _ e => e) (.int _)
    · cases hw
  · cases hw
/-! str, int, abs, bool -/
def r_str : List V → Hp → VK → Prop := fun xs H Q => (∃ i, xs = [.int i] ∧ i.natAbs.log2 < 1920 ∧ Q (.str (toString i)) H) ∨ (∃ a, xs = [.str a] ∧ Q (.str a) H)
theorem o_str : CallR X (.type "str") r_str := CallR.or call_str_int SkE.call_str_str
theorem f_str : OpC W uStr r_str := by
  intro v w x H b Q hf rv hw k
  unfold uStr at hw
  split at hw
  · rename_i n
    split at hw
    · rename_i hl
      cases hw; cases rw_int rv
      refine .inl ⟨_, rfl, hl, ?_⟩
      have e : (toString (Int.ofNat n) : Str) = SX.S (TL.numL n) := SX.num_S n
      rw [e]
      exact k _ H (fun _ _ e => e) (.str _)
    · cases hw
  · cases hw; cases rw_str rv
    exact .inr ⟨_, rfl, k _ H (fun _ _ e => e) (.str _)⟩
  · cases hw
def r_int : List V → Hp → VK → Prop := fun xs H Q => ((∃ i, xs = [.int i] ∧ Q (.int i) H) ∨ ∃ k, xs = [.bl k] ∧ Q (.int (if k then 1 else 0)) H) ∨ (∃ a n, xs = [.str a] ∧ PySem.intText? a = some n ∧ a.length ≤ 640 ∧ Q (.int n) H)
theorem o_int : CallR X (.type "int") r_int := CallR.or call_int1 call_int_str
theorem f_int : OpC W uInt r_int := by
  intro v w x H b Q hf rv hw k
  unfold uInt at hw
  split at hw
  · cases hw; cases rw_int rv
    exact .inl (.inl ⟨_, rfl, k _ H (fun _ _ e => e) (.int _)⟩)
  · cases hw; cases rw_bl rv
    exact .inl (.inr ⟨_, rfl, k _ H (fun _ _ e => e) (.int _)⟩)
  · rename_i s
    split at hw
    · rename_i hc
      cases hw; cases rw_str rv
      simp only [Bool.and_eq_true, decide_eq_true_eq, Bool.not_eq_true', List.isEmpty_eq_false_iff] at hc
      refine .inr ⟨_, _, rfl, SX.int_S (a := s) ?_ hc.1.1 (by omega), by rw [lenL]; exact hc.2, k _ H (fun _ _ e => e) (.int _)⟩
      exact hc.1.2
    · cases hw
  · cases hw
theorem f_abs : OpC W uAbs (fun xs H Q => ∃ i, xs = [.int i] ∧ Q (.int (if i < 0 then -i else i)) H) := by
  intro v w x H b Q hf rv hw k
  unfold uAbs at hw
  split at hw
  · cases hw; cases rw_int rv
    exact ⟨_, rfl, k _ H (fun _ _ e => e) (.int _)⟩
  · cases hw
theorem f_bool : OpC W uBool (fun xs H Q => (∃ i, xs = [.int i] ∧ Q (.bl (i != 0)) H) ∨ ∃ k, xs = [.bl k] ∧ Q (.bl k) H) := by
  intro v w x H b Q hf rv hw k
  unfold uBool at hw
  split at hw
  · cases hw; cases rw_int rv
    exact .inl ⟨_, rfl, k _ H (fun _ _ e => e) (.bl _)⟩
  · cases hw; cases rw_bl rv
    exact .inr ⟨_, rfl, k _ H (fun _ _ e => e) (.bl _)⟩
  · cases hw
end
end Tg
end
section
set_option Elab.async false
set_option linter.all false
set_option autoImplicit false
set_option maxRecDepth 100000
namespace Tg
open PySem PySem.Spec PyProof.Rows L2
section
variable {X : Cx} {W : Wd} {g : Gh} {E : XK}
/-! ### isinstance(e, T) -/
theorem tyx_of {H : Hp} {b : Bn} {v : PV} {x : V} {t : String} (r : RepW W H b v x) (h : tyOf v = some t) : TyX W.K H x (.type t) := by
  cases v with
  | non => cases h; cases rw_non r; exact .base .non
  | bl k => cases h; cases rw_bl r; exact .base (.bl k)
  | int k => cases h; cases rw_int r; exact .base (.int k)
  | str k => cases h; cases rw_str r; exact .base (.str _)
  | tup ps =>
    cases h
    obtain ⟨a, xs, rfl, e, _⟩ := rw_tup r
    rcases e with (e | ⟨o, e⟩) | ⟨o, its, n, e1, e2, _⟩
    · exact .base (.tup e)
    · exact .fTuple e
    · exact .kTuple e1 e2
  | lst ps =>
    cases h
    obtain ⟨a, xs, rfl, e, _⟩ := rw_lx r
    rcases e with (e | ⟨o, e⟩) | ⟨its, n, e, _, _⟩
    · exact .base (.lst e)
    · exact .base (.frz e)
    · exact .kList e rfl
  | dct ps =>
    cases h
    obtain ⟨a, xs, rfl, e, _⟩ := rw_dct r
    rcases e with e | ⟨⟨o, e1, e2⟩, _⟩
    · rcases e with e | ⟨od, e⟩
      · exact .base (.dK e)
      · exact .fDict e
    · exact .kDict e1 e2
  | kdc ps => cases h
  | fn i => cases h
  | cell i => cases h
theorem kit_all : ∀ t ∈ ["NoneType", "bool", "int", "str", "tuple", "list", "dict"], ∀ T ∈ ["int", "str", "tuple", "list", "bool"], kitB t T = some (t == T || (t == "bool" && T == "int")) := by decide +kernel
theorem ty_mem {v : PV} {t : String} (h : tyOf v = some t) : t ∈ ["NoneType", "bool", "int", "str", "tuple", "list", "dict"] := by
  cases v <;> first | (cases h; decide) | cases h
theorem se_isi {p pT pos : Pos} {e : Expr} {da : Den} {T : Str} {TT : String} (hK : X.K = W.K) (hT : T = Str.ofString TT) (hTm : TT ∈ ["int", "str", "tuple", "list", "bool"]) (hg : Gl X "isinstance") (hm : X.mg "isinstance" = none) (hgT : Gl X T) (hmT : X.mg T = none) (hvT : bootBuiltins T = some (.type TT))
    (ha : PE X e (tEr W g E (RW W) da)) (hn : T ≠ "__name__") (hd : (T == ("__debug__" : Str)) = false)
    (hs : starEach [e, .Name T pT] X.env = (false, eval e X.env) :: starEach [.Name T pT] X.env := by rfl) (hs2 : starEach [.Name T pT] X.env = (false, eval (.Name T pT) X.env) :: starEach [] X.env := by rfl) (hpl : (backTo pos (starEach [.Name T pT] X.env)).any (·.1) = false := by rfl) :
    PE X (.Call (.Name "isinstance" p) [e, .Name T pT] [] pos) (tEv W g E (dB1 (uIsi TT) da)) := by
  refine peI (pe_callB (r := rIsi X.K) call_isi hg hm (by decide +kernel) (pa_cons ha (pa_cons (pe_bltn (v := .ty TT) hgT hmT hvT rfl hn hd) pa_nil hs2) hs) (by decide) (by decide) hs hpl) ?_
  intro σ H Q h
  refine (one (Ra := RW W) (k := fun _ v S => okv (uIsi TT v) S) h).imp fun _ _ _ _ _ q y ry => ?_
  obtain ⟨ρ, S, b, O, v, e1, ra, f0⟩ := q y ry
  unfold uIsi at f0
  cases ht : tyOf v with
  | none => rw [ht] at f0; exact f0.elim
  | some t =>
    rw [ht] at f0
    have hk := kit_all t (ty_mem ht) TT hTm
    have hc : (["int", "str", "tuple", "list", "bool"].contains TT) = true := by simpa using hTm
    refine ⟨y, .ty TT, .type t, .type TT, _, rfl, .ty TT, hK ▸ tyx_of ra ht, kit_ty hk, ?_⟩
    simp only [uIsi.kitB', if_pos hc] at f0
    exact f0 _ b (.refl e1.st) _ (.bl _)

/-! ### subscripts -/
def rIxDc (W : Wd) : R2 := fun x y H Q => ∃ a kvs k v, x = .ref a ∧ y = kV k ∧ DRd W H a kvs ∧ valV kvs k = some v ∧ Q v H
theorem ix_dc (hP : X.prog = W.P) (hw : X.w = W.w) (hK : X.K = W.K) : IxR X (rIxDc W) := by
  intro value slice pins s σ H x y v u Q I rx ry h hs
  obtain ⟨a, kvs, k, z, rfl, rfl, hd, hl, q⟩ := h
  cases (show v = Value.ref a from rx)
  obtain ⟨_, h1, vs, rel, dd⟩ := drd_at hP hw hK I hd
  obtain ⟨w', hw', rw'⟩ := RelO.some_of (v := z) (o := valueAt vs k) (by rw [← hl]; exact rel.val k)
  exact tail_any dd.typeIs slot_dict_getitem.lookup (wpAny_getItem_of (kV_is ry) dd.mapOf hw' ⟨z, H, I.tok _, rw', q⟩) hs
def r_idx (W : Wd) : R2 := fun x y H Q => rIx W.K x y H Q ∨ rIxDc W x y H Q
theorem o_idx (hP : X.prog = W.P) (hw : X.w = W.w) (hK : X.K = W.K) : IxR X (r_idx W) := by
  unfold r_idx
  rw [← hK]
  exact IxR.or ix_seq (ix_dc hP hw hK)
theorem dLook_of {H : Hp} {b : Bn} (k : KP) : ∀ {ps : List (KP × PV)} {xs : List (Key × V)} {w : PV}, RepK W H b ps xs → dLook k ps = some w → ∃ z, valV xs (kK k) = some z ∧ Rep W H b w z
  | _, _, _, .nil, e => by cases e
  | _, _, w, .cons (k := j) (x := x) (xs := xs) r t, e => by
    unfold dLook at e
    split at e
    · rename_i h
      cases e
      subst h
      exact ⟨x, valV_pos rfl, r⟩
    · rename_i h
      obtain ⟨z, h1, h2⟩ := dLook_of k t e
      exact ⟨z, (valV_neg (κ := Key) (p := (kK j, x)) (r := xs) (k := kK k) (fun q => h (kK_inj.mp q))).trans h1, h2⟩
theorem dLook_none {H : Hp} {b : Bn} (k : KP) : ∀ {ps : List (KP × PV)} {xs : List (Key × V)}, RepK W H b ps xs → dLook k ps = none → valV xs (kK k) = none
  | _, _, .nil, e => rfl
  | _, _, .cons (k := j) (x := x) (xs := xs) r t, e => by
    unfold dLook at e
    split at e
    · cases e
    · rename_i h
      exact (valV_neg (κ := Key) (p := (kK j, x)) (r := xs) (k := kK k) (fun q => h (kK_inj.mp q))).trans (dLook_none k t e)
theorem atP_of {H : Hp} {b : Bn} {ps : List PV} {xs : List V} {i : Int} {w : PV} (r : Reps W H b ps xs) (h : atP ps i = some w) : ∃ z, atI xs i = some z ∧ Rep W H b w z := by
  have hl := r.length
  unfold atP at h
  unfold atI ixN
  rw [← hl]
  split at h
  · rename_i h0
    rw [if_pos h0]
    obtain ⟨z, h1, h2⟩ := r.get h
    have : i.toNat < ps.length := (List.getElem?_eq_some_iff.mp h).1
    rw [if_pos (by omega)]
    exact ⟨z, h1, h2⟩
  · rename_i h0
    split at h
    · rename_i h3
      rw [if_neg h0, if_pos h3]
      obtain ⟨z, h1, h2⟩ := r.get h
      exact ⟨z, h1, h2⟩
    · cases h
theorem atC_of {s : List Nat} {i : Int} {c : Nat} (h : atC s i = some c) : atI s i = some c := by
  unfold atC at h
  unfold atI ixN
  split at h
  · rename_i h0
    rw [if_pos h0]
    have : i.toNat < s.length := (List.getElem?_eq_some_iff.mp h).1
    rw [if_pos (by omega)]
    exact h
  · rename_i h0
    split at h
    · rename_i h3
      rw [if_neg h0, if_pos h3]
      exact h
    · cases h
theorem f_idx : Op2 W (RW W) (RW W) vIdx (r_idx W) := by
  intro v u w x y H b Q hf rv ru hw k
  unfold vIdx at hw
  split at hw
  · rename_i s i
    split at hw
    · rename_i hl
      cases q : atC s i with
      | none => rw [q] at hw; cases hw
      | some c =>
        rw [q] at hw; cases hw
        cases rw_str rv; cases rw_int ru
        exact .inl (.inr (.inr ⟨_, _, c, rfl, rfl, by simpa [lenL] using hl, atC_of q, k _ H (fun _ _ e => e) (.str [c])⟩))
    · cases hw
  · obtain ⟨a, xs, rfl, e1, r1⟩ := rw_lst rv
    cases rw_int ru
    obtain ⟨z, h1, h2⟩ := atP_of r1 hw
    exact .inl (.inl ⟨a, xs, _, z, rfl, rfl, e1, h1, k _ H (fun _ _ e => e) h2⟩)
  · obtain ⟨a, xs, rfl, e1, r1, _⟩ := rw_tup rv
    cases rw_int ru
    obtain ⟨z, h1, h2⟩ := atP_of r1 hw
    exact .inl (.inr (.inl ⟨a, xs, _, z, rfl, rfl, e1, h1, k _ H (fun _ _ e => e) h2⟩))
  · obtain ⟨a, xs, rfl, e1, r1⟩ := rw_dct rv
    cases rw_str ru
    obtain ⟨z, h1, h2⟩ := dLook_of _ r1 hw
    exact .inr ⟨a, xs, kK (.s _), z, rfl, rfl, e1, h1, k _ H (fun _ _ e => e) h2⟩
  · obtain ⟨a, xs, rfl, e1, r1⟩ := rw_dct rv
    cases rw_int ru
    obtain ⟨z, h1, h2⟩ := dLook_of _ r1 hw
    exact .inr ⟨a, xs, kK (.i _), z, rfl, rfl, e1, h1, k _ H (fun _ _ e => e) h2⟩
  · obtain ⟨a, xs, rfl, e1, r1⟩ := rw_kdc rv
    cases rw_str ru
    obtain ⟨z, h1, h2⟩ := dLook_of _ r1 hw
    exact .inr ⟨a, xs, kK (.s _), z, rfl, rfl, e1, h1, k _ H (fun _ _ e => e) h2⟩
  · cases hw
section
variable {a c d : Expr} {da db dc : Den} {pos p2 : Pos}
theorem se_idx (hP : X.prog = W.P) (hw : X.w = W.w) (hK : X.K = W.K) (ha : PE X a (tEr W g E (RW W) da)) (hb : PE X c (tEr W g E (RW W) db)) (hs : PlainIx c) : PE X (.Subscript a c pos) (tEv W g E (dB2 vIdx da db)) :=
  peI (pe_ix (o_idx hP hw hK) ha hb hs) fun σ H Q h => (two (Ra := RW W) (Rb := RW W) (k := fun _ v u S => okv (vIdx v u) S) stb_w h).imp fun _ _ _ _ _ q x rx => (q x rx).imp fun _ _ _ _ _ q' y ry => op2_end f_idx (q' y ry)

/-! ### slices -/
theorem sPl_eq (n d : Nat) (o : Option Int) : sPl n d o = HT.sIx n d o := by cases o <;> rfl
theorem Reps.drop {H : Hp} {b : Bn} : ∀ {ps : List PV} {xs : List V} (n : Nat), Reps W H b ps xs → Reps W H b (ps.drop n) (xs.drop n)
  | _, _, 0, r => r
  | _, _, _ + 1, .nil => .nil
  | _, _, n + 1, .cons _ t => Reps.drop n t
theorem Reps.take {H : Hp} {b : Bn} : ∀ {ps : List PV} {xs : List V} (n : Nat), Reps W H b ps xs → Reps W H b (ps.take n) (xs.take n)
  | _, _, 0, _ => .nil
  | _, _, _ + 1, .nil => .nil
  | _, _, n + 1, .cons r t => .cons r (Reps.take n t)
theorem cut_of {H : Hp} {b : Bn} {ps : List PV} {xs : List V} (r : Reps W H b ps xs) (lo hi : Option Int) : Reps W H b (cutP ps lo hi) (cutV xs lo hi) := by
  unfold cutP cutV
  rw [sPl_eq, sPl_eq, r.length]
  exact (r.drop _).take _
def r_cut (W : Wd) : V → Option Int → Option Int → Hp → VK → Prop := fun x lo hi H Q => rSlS x lo hi H Q ∨ (rSlL W.K x lo hi H Q ∨ rSlF W.K x lo hi H Q)
theorem o_cut (hK : X.K = W.K) : SlR X (r_cut W) := by
  unfold r_cut
  rw [← hK]
  exact SlR.or sl_str (SlR.or sl_list sl_tupF)
theorem f_cut {v w : PV} {x : V} {H : Hp} {b : Bn} {lo hi : Option Int} {Q : VK} (hf : ∀ p, H p = none → ¬ b.no p) (rv : RepW W H b v x) (hw : vCut v lo hi = some w) (k : ∀ z H', (∀ a o, H a = some o → H' a = some o) → Rep W H' b w z → Q z H') : r_cut W x lo hi H Q := by
  unfold vCut at hw
  split at hw
  · rename_i s
    split at hw
    · rename_i hl
      cases hw; cases rw_str rv
      refine .inl ⟨_, rfl, by simpa [lenL] using hl, ?_⟩
      have e : cutS ⟨s.toArray⟩ lo hi = ⟨(cutP s lo hi).toArray⟩ := by
        unfold cutS cutP
        rw [sPl_eq, sPl_eq, lenL]
      rw [e]
      exact k _ H (fun _ _ e => e) (.str _)
    · cases hw
  · cases hw
    obtain ⟨a, xs, rfl, e1, r1⟩ := rw_lst rv
    exact .inr (.inl ⟨a, xs, rfl, e1, fun p hp => k _ _ (same_upd hp) (.lst (.inl ⟨hf p hp, .inl upd_same⟩) ((cut_of r1 lo hi).grow (same_upd hp)))⟩)
  · rename_i ps
    cases hw
    obtain ⟨a, xs, rfl, e1, r1, rr⟩ := rw_tup rv
    refine .inr (.inr ⟨a, xs, rfl, e1, fun ⟨h1, h2⟩ => ?_, fun _ p o hp ho => k _ _ (same_upd hp) (.tup (.inl ⟨hf p hp, o, upd_same, ho⟩) ((cut_of r1 lo hi).grow (same_upd hp)))⟩)
    have e : cutP ps lo hi = ps := by
      unfold cutP
      rw [sPl_eq, sPl_eq, r1.length, h1, h2, Nat.sub_zero, List.drop_zero, ← r1.length, List.take_length]
    rw [e] at k
    exact k _ H (fun _ _ e => e) rr
  · cases hw
theorem cut_end {σ : L2.St} {H2 : Hp} {x : V} {Q : VK} {lo hi : Option Int} {ρ : Env} {S : Store} {b : Bn} {O : Addr → Prop} {v : PV} (e : EnvOk W g ρ S b O σ H2) (ra : RW W H2 b v x) (f0 : fin W E (fun w _ H' b' => ∀ z, Rep W H' b' w z → Q z H') b H2 (okv (vCut v lo hi) S)) : r_cut W x lo hi H2 Q := by
  cases q : vCut v lo hi with
  | none => rw [q] at f0; exact f0.elim
  | some w =>
    rw [q] at f0
    exact f_cut (fun p hp => e.fresh hp) ra q fun z H' k rz => f0 H' b (.grow e.st k) z rz
theorem se_cutL (hK : X.K = W.K) (ha : PE X a (tEr W g E (RW W) da)) (hl : PE X c (tEr W g E (RW W) db)) : PE X (.Subscript a (.Slice (some c) none none p2) pos) (tEv W g E (dCutL da db)) :=
  peI (pe_slice (o_cut hK) ha (po_some hl) po_none) fun σ H Q h => (two (Ra := RW W) (Rb := RW W) (k := fun _ v u S => onI u fun i => okv (vCut v (some i) none) S) stb_w h).imp fun _ _ _ _ _ q x rx => (q x rx).imp fun _ _ _ _ _ q' y ry => by
    obtain ⟨ρ, S, b, O, v, u, e1, ra, rb, f0⟩ := q' y ry
    cases u with
    | int i => cases rw_int rb; exact ⟨i, rfl, cut_end e1 ra f0⟩
    | _ => exact f0.elim
theorem se_cutH (hK : X.K = W.K) (ha : PE X a (tEr W g E (RW W) da)) (hl : PE X c (tEr W g E (RW W) db)) : PE X (.Subscript a (.Slice none (some c) none p2) pos) (tEv W g E (dCutH da db)) :=
  peI (pe_slice (o_cut hK) ha po_none (po_some hl)) fun σ H Q h => (two (Ra := RW W) (Rb := RW W) (k := fun _ v u S => onI u fun i => okv (vCut v none (some i)) S) stb_w h).imp fun _ _ _ _ _ q x rx => (q x rx).imp fun _ _ _ _ _ q' y ry => by
    obtain ⟨ρ, S, b, O, v, u, e1, ra, rb, f0⟩ := q' y ry
    cases u with
    | int i => cases rw_int rb; exact ⟨i, rfl, cut_end e1 ra f0⟩
    | _ => exact f0.elim
theorem se_cutB (hK : X.K = W.K) (ha : PE X a (tEr W g E (RW W) da)) (hl : PE X c (tEr W g E (RW W) db)) (hh : PE X d (tEr W g E (RW W) dc)) : PE X (.Subscript a (.Slice (some c) (some d) none p2) pos) (tEv W g E (dCutB da db dc)) :=
  peI (pe_slice (o_cut hK) ha (po_some hl) (po_some hh)) fun σ H Q h => (two (Ra := RW W) (Rb := RW W) (k := fun ρ v u S => onI u fun i => (dc ρ S).bnd fun w S3 => onI w fun j => okv (vCut v (some i) (some j)) S3) stb_w h).imp fun _ _ _ _ _ q x rx => (q x rx).imp fun _ _ _ _ _ q' y ry => by
    obtain ⟨ρ, S, b, O, v, u, e1, ra, rb, f0⟩ := q' y ry
    cases u with
    | int i =>
      cases rw_int rb
      refine ⟨i, rfl, ρ, S, b, O, e1, f0.bnd.imp fun w S3 H3 b3 dd q3 z rz => ?_⟩
      cases w with
      | int j => cases rw_int rz; exact ⟨j, rfl, cut_end (e1.adv dd) (stb_w dd.stp ra) q3⟩
      | _ => exact q3.elim
    | _ => exact f0.elim

/-! ### chains -/
theorem se_chain {op op' : CmpOp} {f f' : PV → PV → Option PV} {r r' : R2} (ho : OpR X (compareOp op) r) (ho' : OpR X (compareOp op') r') (hf : Op2 W (RW W) (RW W) f r) (hf' : Op2 W (RW W) (RW W) f' r') (hk : BlF f)
    (ha : PE X a (tEr W g E (RW W) da)) (hb : PE X c (tEr W g E (RW W) db)) (hc : PE X d (tEr W g E (RW W) dc)) (hm : lastMarks [op, op'] [c, d] = false) : PE X (.Compare a [op, op'] [c, d] pos) (tEv W g E (dChain f f' da db dc)) := by
  refine peI (pe_chain ho ho' ha hb hc hm) ?_
  intro σ H Q h
  refine (two (Ra := RW W) (Rb := RW W) (k := fun ρ v u S2 => match f v u with
    | some k => onBl k fun k => if k = true then (dc ρ S2).bnd fun w S3 => okv (f' u w) S3 else .ok (.bl false) S2
    | none => .bad) stb_w h).imp fun _ _ _ _ _ q x rx => (q x rx).imp fun _ _ H2 _ _ q' y ry => ?_
  obtain ⟨ρ, S, b, O, v, u, e1, ra, rb, f0⟩ := q' y ry
  cases hq : f v u with
  | none => rw [hq] at f0; exact f0.elim
  | some k =>
    rw [hq] at f0
    obtain ⟨c0, rfl⟩ := hk _ _ _ hq
    refine hf v u (.bl c0) x y H2 b _ (fun p hp => e1.fresh hp) ra rb hq fun z H' kk rz => ?_
    cases rz
    refine ⟨c0, rfl, ?_⟩
    have e2 := e1.adv (.grow e1.st kk)
    have f2 := fin.adv (.grow e1.st kk) f0
    have rb2 : RW W H' b u y := stb_w (Adv.grow e1.st kk).stp rb
    cases c0 with
    | true =>
      rw [if_pos rfl]
      refine ⟨ρ, S, b, O, e2, f2.bnd.imp fun w S3 H3 b3 dd q3 z rz => ?_⟩
      exact op2_end (g := g) (E := E) hf' ⟨ρ, S3, b3, O, u, w, e2.adv dd, stb_w dd.stp rb2, rz, q3⟩
    | false =>
      rw [if_neg Bool.false_ne_true]
      exact f2 H' b (.refl e2.st) _ (.bl false)
theorem bl_chain {f f' : PV → PV → Option PV} (hk : BlF f) (hk' : BlF f') : ∀ ρ S v S', dChain f f' da db dc ρ S = .ok v S' → ∃ k, v = .bl k := by
  intro ρ S v S' h
  unfold dChain at h
  cases q : da ρ S with
  | exc c v S' => rw [q] at h; cases h
  | bad => rw [q] at h; cases h
  | ok v1 S1 =>
    rw [q] at h
    cases q2 : db ρ S1 with
    | exc c v S' => simp only [Rs.bnd, q2] at h; cases h
    | bad => simp only [Rs.bnd, q2] at h; cases h
    | ok v2 S2 =>
      simp only [Rs.bnd, q2] at h
      cases q3 : f v1 v2 with
      | none => rw [q3] at h; cases h
      | some w =>
        rw [q3] at h
        obtain ⟨k, rfl⟩ := hk _ _ _ q3
        cases k with
        | false =>
          simp only [onBl, Bool.false_eq_true, if_false] at h
          cases h
          exact ⟨_, rfl⟩
        | true =>
          simp only [onBl, if_true] at h
          cases q4 : dc ρ S2 with
          | exc c v S' => rw [q4] at h; cases h
          | bad => rw [q4] at h; cases h
          | ok v3 S3 =>
            rw [q4] at h
            simp only at h
            cases q5 : f' v2 v3 with
            | none => rw [q5] at h; cases h
            | some w' =>
              rw [q5] at h
              obtain ⟨k, rfl⟩ := hk' _ _ _ q5
              cases h
              exact ⟨_, rfl⟩
theorem st_chain {op op' : CmpOp} {f f' : PV → PV → Option PV} {r r' : R2} (ho : OpR X (compareOp op) r) (ho' : OpR X (compareOp op') r') (hf : Op2 W (RW W) (RW W) f r) (hf' : Op2 W (RW W) (RW W) f' r') (hk : BlF f) (hk' : BlF f')
    (ha : PE X a (tEr W g E (RW W) da)) (hb : PE X c (tEr W g E (RW W) db)) (hc : PE X d (tEr W g E (RW W) dc)) (hm : lastMarks [op, op'] [c, d] = false) : PT X (.Compare a [op, op'] [c, d] pos) (tEt W g E (dChain f f' da db dc)) := by
  refine ptI (pt_chain ho ho' ha hb hc hm) ?_
  intro σ H Q h
  have h1 := tt_of (bl_chain hk hk') h
  refine (two (Ra := RW W) (Rb := RW W) (k := fun ρ v u S2 => match f v u with
    | some k => onBl k fun k => if k = true then (dc ρ S2).bnd fun w S3 => okv (f' u w) S3 else .ok (.bl false) S2
    | none => .bad) stb_w h1).imp fun _ _ _ _ _ q x rx => (q x rx).imp fun _ _ H2 _ _ q' y ry => ?_
  obtain ⟨ρ, S, b, O, v, u, e1, ra, rb, f0⟩ := q' y ry
  cases hq : f v u with
  | none => rw [hq] at f0; exact f0.elim
  | some k =>
    rw [hq] at f0
    obtain ⟨c0, rfl⟩ := hk _ _ _ hq
    refine hf v u (.bl c0) x y H2 b _ (fun p hp => e1.fresh hp) ra rb hq fun z H' kk rz => ?_
    cases rz
    refine ⟨c0, rfl, ?_⟩
    have e2 := e1.adv (.grow e1.st kk)
    have f2 := fin.adv (.grow e1.st kk) f0
    have rb2 : RW W H' b u y := stb_w (Adv.grow e1.st kk).stp rb
    cases c0 with
    | true =>
      rw [if_pos rfl]
      refine ⟨ρ, S, b, O, e2, f2.bnd.imp fun w S3 H3 b3 dd q3 z rz => ?_⟩
      exact op2_end (g := g) (E := E) hf' ⟨ρ, S3, b3, O, u, w, e2.adv dd, stb_w dd.stp rb2, rz, q3⟩
    | false =>
      rw [if_neg Bool.false_ne_true]
      exact f2 H' b (.refl e2.st) _ (.bl false)
end
/-! ### built-in functions of two things, methods of texts -/
def OpC2 (W : Wd) (f : PV → PV → Option PV) (r : List V → Hp → VK → Prop) : Prop :=
  ∀ (v u w : PV) (x y : V) (H : Hp) (b : Bn) (Q : VK), (∀ p, H p = none → ¬ b.no p) → RepW W H b v x → RepW W H b u y → f v u = some w →
    (∀ z H', (∀ a o, H a = some o → H' a = some o) → Rep W H' b w z → Q z H') → r [x, y] H Q
def OpM (W : Wd) (f : PV → PV → Option PV) (r : V → List V → Hp → VK → Prop) : Prop :=
  ∀ (v u w : PV) (x y : V) (H : Hp) (b : Bn) (Q : VK), (∀ p, H p = none → ¬ b.no p) → RepW W H b v x → RepW W H b u y → f v u = some w →
    (∀ z H', (∀ a o, H a = some o → H' a = some o) → Rep W H' b w z → Q z H') → r x [y] H Q
theorem opc2_end {f : PV → PV → Option PV} {r : List V → Hp → VK → Prop} (hf : OpC2 W f r) {σ : L2.St} {H2 : Hp} {x y : V} {Q : VK}
    (h : ∃ ρ S b O v u, EnvOk W g ρ S b O σ H2 ∧ RW W H2 b v x ∧ RW W H2 b u y ∧ fin W E (fun w _ H' b' => ∀ z, Rep W H' b' w z → Q z H') b H2 (okv (f v u) S)) : r [x, y] H2 Q := by
  obtain ⟨ρ, S, b, O, v, u, e, ra, rb, f0⟩ := h
  cases q : f v u with
  | none => rw [q] at f0; exact f0.elim
  | some w =>
    rw [q] at f0
    exact hf v u w x y H2 b Q (fun p hp => e.fresh hp) ra rb q fun z H' k rz => f0 H' b (.grow e.st k) z rz
theorem opm_end {f : PV → PV → Option PV} {r : V → List V → Hp → VK → Prop} (hf : OpM W f r) {σ : L2.St} {H2 : Hp} {x y : V} {Q : VK}
    (h : ∃ ρ S b O v u, EnvOk W g ρ S b O σ H2 ∧ RW W H2 b v x ∧ RW W H2 b u y ∧ fin W E (fun w _ H' b' => ∀ z, Rep W H' b' w z → Q z H') b H2 (okv (f v u) S)) : r x [y] H2 Q := by
  obtain ⟨ρ, S, b, O, v, u, e, ra, rb, f0⟩ := h
  cases q : f v u with
  | none => rw [q] at f0; exact f0.elim
  | some w =>
    rw [q] at f0
    exact hf v u w x y H2 b Q (fun p hp => e.fresh hp) ra rb q fun z H' k rz => f0 H' b (.grow e.st k) z rz
section
variable {x : Str} {p pos : Pos} {e c : Expr} {da db : Den} {f : PV → PV → Option PV} {r : List V → Hp → VK → Prop} {id : String}
theorem sb_fun2 (hc : CallR X (.builtin id) r) (hf : OpC2 W f r) (hg : Gl X x) (hm : X.mg x = none) (hv : bootBuiltins x = some (.builtin id)) (ha : PE X e (tEr W g E (RW W) da)) (hb : PE X c (tEr W g E (RW W) db)) (hn : x ≠ "__name__") (hdb : (x == ("__debug__" : Str)) = false)
    (hs : starEach [e, c] X.env = (false, eval e X.env) :: starEach [c] X.env := by rfl) (hs2 : starEach [c] X.env = (false, eval c X.env) :: starEach [] X.env := by rfl) (hpl : (backTo pos (starEach [c] X.env)).any (·.1) = false := by rfl) : PE X (.Call (.Name x p) [e, c] [] pos) (tEv W g E (dB2 f da db)) :=
  peI (pe_callB hc hg hm hv (pa_cons ha (pa_cons hb pa_nil hs2) hs) hn hdb hs hpl) fun σ H Q h => (two (Ra := RW W) (Rb := RW W) (k := fun _ v u S => okv (f v u) S) stb_w h).imp fun _ _ _ _ _ q x rx => (q x rx).imp fun _ _ _ _ _ q' y ry => opc2_end hf (q' y ry)
theorem sb_m1 {r : V → List V → Hp → VK → Prop} {name : Str} {apos : Pos} (slot : Slot "str" name id) (ty : typeOf (.builtin id) = pure (.type "method_descriptor")) (rule : MtR X id r) (hf : OpM W f r)
    (ha : PE X e (tEr W g E (RW W) da)) (hb : PE X c (tEr W g E (RW W) db)) (hline : (apos.endLine == pos.line) = true) (hbase : attributeBase e name X.env (eval e X.env) = eval e X.env)
    (hs : starEach [c] X.env = [(false, eval c X.env)] := by rfl) : PE X (.Call (.Attribute e name apos) [c] [] pos) (tEv W g E (dM1 f da db)) := by
  refine peI (pe_m1 slot ty rule ha hb hs hbase hline) ?_
  intro σ H Q h
  refine (tF.seq (k := fun ρ v S1 => onS v ((db ρ S1).bnd fun u S2 => okv (f v u) S2)) h).imp fun v S1 H1 b1 s1 ⟨ρ, O, e1, f0⟩ x rx => ?_
  cases v with
  | str s =>
    refine ⟨⟨_, rw_str rx⟩, ρ, S1, b1, O, e1, f0.bnd.imp fun u S2 H2 b2 dd q y ry => ?_⟩
    exact opm_end hf ⟨ρ, S2, b2, O, .str s, u, e1.adv dd, stb_w dd.stp rx, ry, q⟩
  | _ => exact f0.elim
/-! d.get(k), d.get(k, e) -/
theorem rw_dd {H : Hp} {b : Bn} {v : PV} {x : V} {ps : List (KP × PV)} (h : dOf v = some ps) (r : RepW W H b v x) : ∃ a xs, x = .ref a ∧ DRd W H a xs ∧ RepK W H b ps xs := by
  cases v <;> try cases h
  · exact rw_dct r
  · exact rw_kdc r
theorem kOf_of {H : Hp} {b : Bn} {u : PV} {y : V} {k : KP} (h : kOf u = some k) (r : RepW W H b u y) : y = kV (kK k) := by
  cases u <;> try cases h
  · exact rw_int r
  · exact rw_str r
/-- what a look finds -/
theorem get_end {H : Hp} {b : Bn} {v u d w : PV} {x y z : V} {Q : VK} (h : mGet2 v u d = some w) (rv : RepW W H b v x) (ru : RepW W H b u y) (rd : Rep W H b d z) (q : ∀ z', Rep W H b w z' → Q z' H) :
    ∀ a, x = .ref a → ∃ kvs k, y = kV k ∧ DRd W H a kvs ∧ Q ((valV kvs k).getD z) H := by
  rintro a rfl
  unfold mGet2 at h
  cases q1 : dOf v with
  | none => simp only [q1] at h; cases h
  | some ps =>
    cases q2 : kOf u with
    | none => simp only [q1, q2] at h; cases h
    | some k =>
      simp only [q1, q2, Option.some.injEq] at h
      obtain ⟨a', xs, e, e2, r2⟩ := rw_dd q1 rv
      cases e
      refine ⟨xs, kK k, kOf_of q2 ru, e2, ?_⟩
      cases hq : dLook k ps with
      | none =>
        rw [dLook_none k r2 hq]
        rw [hq] at h
        exact q _ (h ▸ rd)
      | some w' =>
        obtain ⟨z', hz, rz⟩ := dLook_of k r2 hq
        rw [hz]
        rw [hq] at h
        exact q _ (h ▸ rz)
theorem sb_get {apos : Pos} (hP : X.prog = W.P) (hw : X.w = W.w) (hK : X.K = W.K) (ha : PE X e (tEr W g E (RW W) da)) (hb : PE X c (tEr W g E (RW W) db)) (m : M1 X e "get" apos c pos) :
    PE X (.Call (.Attribute e "get" apos) [c] [] pos) (tEv W g E (dMD mGet da db)) := by
  refine ⟨fun pins s σ H Q I h => ?_⟩
  have h1 := (tF.seq (k := fun ρ v S1 => onD v ((db ρ S1).bnd fun u S2 => okv (mGet v u) S2)) h)
  have h2 : tEr W g E (RW W) da σ H fun x H1 => ∃ a, x = .ref a ∧ (∃ kvs, DRd W H1 a kvs) ∧ tEr W g E (RW W) db σ H1 fun y H2 => ∃ kvs k, y = kV k ∧ DRd W H2 a kvs ∧ Q ((valV kvs k).getD .non) H2 := by
    refine h1.imp fun v S1 H1 b1 s1 ⟨ρ, O, e1, f0⟩ x rx => ?_
    unfold onD at f0
    cases q1 : dOf v with
    | none => simp only [q1] at f0; exact f0.elim
    | some ps =>
      simp only [q1] at f0
      obtain ⟨a, xs, rfl, e2, r2⟩ := rw_dd q1 rx
      refine ⟨a, rfl, ⟨xs, e2⟩, ρ, S1, b1, O, e1, f0.bnd.imp fun u S2 H2 b2 dd q y ry => ?_⟩
      cases hm : mGet v u with
      | none => rw [hm] at q; exact q.elim
      | some w =>
        rw [hm] at q
        exact get_end hm (stb_w dd.stp rx) ry .non (fun z rz => q H2 b2 (.refl dd.st) z rz) a rfl
  refine wpAny_Call_method m.base m.few m.line PySem.F.plainAttrs_dict PySem.F.slot_dict_get PySem.F.type_dict_get (thn (ha.run pins s σ H _ I h2) fun u s1 ⟨x, H1, I1, rx, a, ex, ⟨kvs0, d⟩, q1⟩ => ?_)
  subst ex
  obtain rfl : u = Value.ref a := rx
  obtain ⟨_, _, vs0, _, dd0⟩ := drd_at hP hw hK I1 d
  refine ⟨dd0.typeIs, ?_, ?_⟩
  · intro c' hc'
    cases hc'
    obtain ⟨ob, _, _, o1, o2, _⟩ := dd0
    exact ⟨ob, o1, o2.2.1⟩
  rw [m.trees]
  refine Calls.callWith_builtin rfl (Calls.evalArgs_plain (Calls.spliced_cons (thn (hb.run pins s1 σ H1 _ I1 q1) fun iv s2 ⟨y, H2, I2, ry, kvs, k, ey, d2, q2⟩ => Calls.spliced_nil ?_)))
  subst ey
  obtain ⟨_, h1', vs, rel, dd⟩ := drd_at hP hw hK I2 d2
  exact call_meetsIn PySem.F.slot_dict_get dd.typeIs PySem.F.entry_dict_get (PySem.F.args_dict_get_2 _ _) (meets_dict_get (mixKind X.prog X.w) a (kV_is ry) h1') ⟨_, dd.mapOf, ⟨_, H2, I2.tok _, (rel.val k).getD (d := V.non) (d' := Value.none) rfl, q2⟩⟩
theorem sb_get2 {apos : Pos} {f : Expr} {df : Den} (hP : X.prog = W.P) (hw : X.w = W.w) (hK : X.K = W.K) (ha : PE X e (tEr W g E (RW W) da)) (hb : PE X c (tEr W g E (RW W) db)) (hf : PE X f (tEr W g E (RS W) df)) (m : M2 X e "get" apos c f pos) :
    PE X (.Call (.Attribute e "get" apos) [c, f] [] pos) (tEv W g E (dMD2 mGet2 da db df)) := by
  refine ⟨fun pins s σ H Q I h => ?_⟩
  have h1 := (tF.seq (k := fun ρ v S1 => onD v ((db ρ S1).bnd fun u S2 => (df ρ S2).bnd fun w S3 => okv (mGet2 v u w) S3)) h)
  have h2 : tEr W g E (RW W) da σ H fun x H1 => ∃ a, x = .ref a ∧ (∃ kvs, DRd W H1 a kvs) ∧ tEr W g E (RW W) db σ H1 fun y H2 => tEr W g E (RS W) df σ H2 fun z H3 => ∃ kvs k, y = kV k ∧ DRd W H3 a kvs ∧ Q ((valV kvs k).getD z) H3 := by
    refine h1.imp fun v S1 H1 b1 s1 ⟨ρ, O, e1, f0⟩ x rx => ?_
    unfold onD at f0
    cases q1 : dOf v with
    | none => simp only [q1] at f0; exact f0.elim
    | some ps =>
      simp only [q1] at f0
      obtain ⟨a, xs, rfl, e2, r2⟩ := rw_dd q1 rx
      refine ⟨a, rfl, ⟨xs, e2⟩, ?_⟩
      refine ⟨ρ, S1, b1, O, e1, f0.bnd.imp fun u S2 H2 b2 dd q y ry => ⟨ρ, S2, b2, O, e1.adv dd, q.bnd.imp fun w S3 H3 b3 d3 q3 z rz => ?_⟩⟩
      cases hm : mGet2 v u w with
      | none => rw [hm] at q3; exact q3.elim
      | some r =>
        rw [hm] at q3
        exact get_end hm (stb_w d3.stp (stb_w dd.stp rx)) (stb_w d3.stp ry) rz (fun z rz => q3 H3 b3 (.refl d3.st) z rz) a rfl
  refine wpAny_Call_method m.base m.few m.line PySem.F.plainAttrs_dict PySem.F.slot_dict_get PySem.F.type_dict_get (thn (ha.run pins s σ H _ I h2) fun u s1 ⟨x, H1, I1, rx, a, ex, ⟨kvs0, d⟩, q1⟩ => ?_)
  subst ex
  obtain rfl : u = Value.ref a := rx
  obtain ⟨_, _, vs0, _, dd0⟩ := drd_at hP hw hK I1 d
  refine ⟨dd0.typeIs, ?_, ?_⟩
  · intro c' hc'
    cases hc'
    obtain ⟨ob, _, _, o1, o2, _⟩ := dd0
    exact ⟨ob, o1, o2.2.1⟩
  rw [m.trees]
  refine Calls.callWith_builtin rfl (Calls.evalArgs_plain (Calls.spliced_cons (thn (hb.run pins s1 σ H1 _ I1 q1) fun iv s2 ⟨y, H2, I2, ry, q2⟩ => Calls.spliced_cons (thn (hf.run pins s2 σ H2 _ I2 q2) fun jv s3 ⟨z, H3, I3, rz, kvs, k, ey, d2, q3⟩ => Calls.spliced_nil ?_))))
  subst ey
  obtain ⟨_, h1', vs, rel, dd⟩ := drd_at hP hw hK I3 d2
  exact call_meetsIn PySem.F.slot_dict_get dd.typeIs PySem.F.entry_dict_get (PySem.F.args_dict_get_3 _ _ _) (meets_dict_get_default (mixKind X.prog X.w) a (kV_is ry) h1' jv) ⟨_, dd.mapOf, ⟨_, H3, I3.tok _, (rel.val k).getD rz, q3⟩⟩
end
/-! ### the methods -/
def r_join (W : Wd) : V → List V → Hp → VK → Prop := fun x xs H Q => ∃ a p, ∃ ys : List Str, x = .str a ∧ xs = [.ref p] ∧ (SqL W.K H p (ys.map V.str) ∨ SqT W.K H p (ys.map V.str)) ∧ (ys.map (·.length)).sum + ys.length * a.length ≤ 16777216 ∧ Q (.str (Txt.join a ys)) H
theorem o_join (hK : X.K = W.K) : MtR X "str.join" (r_join W) := by
  unfold r_join
  rw [← hK]
  exact mt_join
theorem f_join : OpM W mJoin (r_join W) := by
  intro v u w x y H b Q hf rv ru hw k
  unfold mJoin at hw
  split at hw
  · split at hw
    · rename_i ys hy
      split at hw
      · rename_i hl
        cases hw; cases rw_str rv
        obtain ⟨a, xs, rfl, e1, r1⟩ := rw_lst ru
        have := asStrs_of r1 hy
        subst this
        refine ⟨_, a, ys.map SX.S, rfl, rfl, .inl (e1), by rw [SX.lens, List.length_map, lenL]; exact hl, ?_⟩
        rw [show (⟨_⟩ : Str) = SX.S _ from rfl, SX.join_S]
        exact k _ H (fun _ _ e => e) (.str _)
      · cases hw
    · cases hw
  · split at hw
    · rename_i ys hy
      split at hw
      · rename_i hl
        cases hw; cases rw_str rv
        obtain ⟨a, xs, rfl, e1, r1, _⟩ := rw_tup ru
        have := asStrs_of r1 hy
        subst this
        refine ⟨_, a, ys.map SX.S, rfl, rfl, .inr e1, by rw [SX.lens, List.length_map, lenL]; exact hl, ?_⟩
        rw [show (⟨_⟩ : Str) = SX.S _ from rfl, SX.join_S]
        exact k _ H (fun _ _ e => e) (.str _)
      · cases hw
    · cases hw
  · cases hw
theorem reps_strs {H : Hp} {b : Bn} : ∀ l : List (List Nat), Reps W H b (l.map PV.str) ((l.map SX.S).map V.str)
  | [] => .nil
  | s :: r => .cons (.str s) (reps_strs r)
def r_split : V → List V → Hp → VK → Prop := fun x xs H Q => ∃ a b, x = .str a ∧ xs = [.str b] ∧ (b.length == 0) = false ∧ a.length + 2 ≤ sizeLine ∧ rNewStrs (Txt.split a b) H Q
theorem f_split : OpM W mSplit r_split := by
  intro v u w x y H b Q hf rv ru hw k
  unfold mSplit at hw
  split at hw
  · rename_i a c
    split at hw
    · rename_i hl
      simp only [Bool.and_eq_true, decide_eq_true_eq, Bool.not_eq_true', List.isEmpty_eq_false_iff] at hl
      cases hw; cases rw_str rv; cases rw_str ru
      refine ⟨_, _, rfl, rfl, ?_, by rw [lenL]; exact hl.2, ?_⟩
      · rw [lenL]
        have := hl.1.1
        cases c with
        | nil => exact absurd rfl this
        | cons _ _ => rfl
      · rw [show (⟨a.toArray⟩ : Str) = SX.S a from rfl, show (⟨c.toArray⟩ : Str) = SX.S c from rfl, SX.split_S hl.1.1 hl.1.2]
        intro p hp
        exact k _ _ (same_upd hp) (.lst (.inl ⟨hf p hp, .inl upd_same⟩) (reps_strs _))
    · cases hw
  · cases hw
def r_part : V → List V → Hp → VK → Prop := fun x xs H Q => ∃ a b, x = .str a ∧ xs = [.str b] ∧ ((b.length == 0) = false ∧ a.length ≤ sizeLine) ∧ NewT (partV a b) H Q
theorem f_part : OpM W mPart r_part := by
  intro v u w x y H b Q hf rv ru hw k
  unfold mPart at hw
  split at hw
  · rename_i a c
    split at hw
    · rename_i hl
      simp only [Bool.and_eq_true, decide_eq_true_eq, Bool.not_eq_true', List.isEmpty_eq_false_iff] at hl
      cases rw_str rv; cases rw_str ru
      refine ⟨_, _, rfl, rfl, ⟨?_, by rw [lenL]; exact hl.2⟩, ?_⟩
      · rw [lenL]
        have := hl.1
        cases c with
        | nil => exact absurd rfl this
        | cons _ _ => rfl
      · intro p o hp ho
        unfold partV
        cases hq : TL.par c [] a with
        | none =>
          rw [hq] at hw; cases hw
          rw [show (⟨a.toArray⟩ : Str) = SX.S a from rfl, show (⟨c.toArray⟩ : Str) = SX.S c from rfl, SX.partition_none hl.1 hq]
          exact k _ _ (same_upd hp) (.tup (.inl ⟨hf p hp, o, upd_same, ho⟩) (.cons (.str a) (.cons (.str []) (.cons (.str []) .nil))))
        | some pq =>
          obtain ⟨p1, q1⟩ := pq
          rw [hq] at hw; cases hw
          rw [show (⟨a.toArray⟩ : Str) = SX.S a from rfl, show (⟨c.toArray⟩ : Str) = SX.S c from rfl, SX.partition_some hl.1 hq]
          exact k _ _ (same_upd hp) (.tup (.inl ⟨hf p hp, o, upd_same, ho⟩) (.cons (.str p1) (.cons (.str c) (.cons (.str q1) .nil))))
    · cases hw
  · cases hw
theorem f_max2 : OpC2 W vMax (fun xs H Q => ∃ i j, xs = [.int i, .int j] ∧ Q (.int (if j > i then j else i)) H) := by
  intro v u w x y H b Q hf rv ru hw k
  unfold vMax at hw
  split at hw
  · cases hw; cases rw_int rv; cases rw_int ru
    exact ⟨_, _, rfl, k _ H (fun _ _ e => e) (.int _)⟩
  · cases hw
theorem f_min2 : OpC2 W vMin (fun xs H Q => ∃ i j, xs = [.int i, .int j] ∧ Q (.int (if j < i then j else i)) H) := by
  intro v u w x y H b Q hf rv ru hw k
  unfold vMin at hw
  split at hw
  · cases hw; cases rw_int rv; cases rw_int ru
    exact ⟨_, _, rfl, k _ H (fun _ _ e => e) (.int _)⟩
  · cases hw
end
end Tg
end
section
set_option Elab.async false
set_option linter.all false
set_option autoImplicit false
set_option maxRecDepth 100000
/-! what is walked -/
namespace Tg
open PySem PySem.Spec PyProof.Rows L2
/-- what stands unbanned stays so -/
structure Kp (b b' : Bn) (H H' : Hp) : Prop where
  k : ∀ a o, H a = some o → ¬ b.no a → (∃ o', H' a = some o' ∧ Kd o o') ∧ ¬ b'.no a
  m : ∃ l, b'.m = b.m ++ l
theorem Kp.of {b b' : Bn} {H H' : Hp} (k : ∀ a o, H a = some o → ¬ b.no a → H' a = some o ∧ ¬ b'.no a) (m : ∃ l, b'.m = b.m ++ l) : Kp b b' H H' := ⟨fun a o e n => ⟨⟨o, (k a o e n).1, .refl⟩, (k a o e n).2⟩, m⟩
theorem Kp.ban {b b' : Bn} {H H' : Hp} (s : Kp b b' H H') {a : Addr} {o : HO} (e : H a = some o) (n : ¬ b.no a) : ¬ b'.no a := (s.k a o e n).2
theorem Kp.keepL {b b' : Bn} {H H' : Hp} (s : Kp b b' H H') {a : Addr} {xs : List V} (e : H a = some (.lst xs)) (n : ¬ b.no a) : H' a = some (.lst xs) := by
  obtain ⟨⟨o', q, k⟩, _⟩ := s.k a _ e n
  rw [k.lst] at q; exact q
theorem Kp.keepT {b b' : Bn} {H H' : Hp} (s : Kp b b' H H') {a : Addr} {xs : List V} (e : H a = some (.tup xs)) (n : ¬ b.no a) : H' a = some (.tup xs) := by
  obtain ⟨⟨o', q, k⟩, _⟩ := s.k a _ e n
  rw [k.tup] at q; exact q
theorem Kp.keepP {b b' : Bn} {H H' : Hp} (s : Kp b b' H H') {a : Addr} {xs : List V} (e : PTu H a xs) (n : ¬ b.no a) : ¬ b'.no a ∧ PTu H' a xs := by
  obtain ⟨o, e, hd⟩ := e
  obtain ⟨⟨o', q, k⟩, h⟩ := s.k a _ e n
  rw [k.frz] at q
  exact ⟨h, o, q, hd⟩
theorem Kp.keepR {b b' : Bn} {H H' : Hp} (s : Kp b b' H H') {a : Addr} {xs : List V} (e : Rd H a (.lst xs)) (n : ¬ b.no a) : ¬ b'.no a ∧ Rd H' a (.lst xs) := by
  rcases e with e | ⟨o, e⟩
  · exact ⟨(s.k a _ e n).2, .inl (s.keepL e n)⟩
  · obtain ⟨⟨o', q, k⟩, h⟩ := s.k a _ e n
    rw [k.frz] at q
    exact ⟨h, .inr ⟨o, q⟩⟩
theorem Kp.keepD {b b' : Bn} {H H' : Hp} (s : Kp b b' H H') {a : Addr} {kvs : List (Key × V)} (e : Rd H a (.dK kvs)) (n : ¬ b.no a) : ¬ b'.no a ∧ Rd H' a (.dK kvs) := by
  rcases e with e | ⟨od, e⟩
  · obtain ⟨⟨o', q, k⟩, h⟩ := s.k a _ e n
    exact ⟨h, Kd.dict (.inl rfl) k q⟩
  · obtain ⟨⟨o', q, k⟩, h⟩ := s.k a _ e n
    exact ⟨h, Kd.dict (.inr ⟨od, rfl⟩) k q⟩
section
variable {W : Wd}
mutual
theorem Rep.kp {b b' : Bn} {H H' : Hp} (s : Kp b b' H H') : ∀ {p : PV} {x : V}, Rep W H b p x → Rep W H' b' p x
  | _, _, .non => .non
  | _, _, .bl x => .bl x
  | _, _, .int i => .int i
  | _, _, .str z => .str z
  | _, _, .tup (.inl ⟨n, e⟩) r => .tup (.inl (s.keepP e n)) (Reps.kp s r)
  | _, _, .tup (.inr k) r => .tup (.inr k) (Reps.kp s r)
  | _, _, .lst (.inl ⟨n, e⟩) r => .lst (.inl (s.keepR e n)) (Reps.kp s r)
  | _, _, .lst (.inr k) r => .lst (.inr k) (Reps.kp s r)
  | _, _, .dct ⟨n, e⟩ r => .dct (s.keepD e n) (RepK.kp s r)
  | _, _, .kdc k r => .kdc k (RepK.kp s r)
  | _, _, .fn i => .fn i
  | _, _, .cell e => .cell (by
      obtain ⟨l, q⟩ := s.m
      rw [q]
      have := (List.getElem?_eq_some_iff.mp e).1
      rw [List.getElem?_append_left this]
      exact e)
theorem Reps.kp {b b' : Bn} {H H' : Hp} (s : Kp b b' H H') : ∀ {p : List PV} {x : List V}, Reps W H b p x → Reps W H' b' p x
  | _, _, .nil => .nil
  | _, _, .cons r t => .cons (Rep.kp s r) (Reps.kp s t)
theorem RepK.kp {b b' : Bn} {H H' : Hp} (s : Kp b b' H H') : ∀ {p : List (KP × PV)} {x : List (Key × V)}, RepK W H b p x → RepK W H' b' p x
  | _, _, .nil => .nil
  | _, _, .cons r t => .cons (Rep.kp s r) (RepK.kp s t)
end
end
theorem Kp.refl {b : Bn} {H : Hp} : Kp b b H H := .of (fun _ _ e n => ⟨e, n⟩) ⟨[], by simp⟩
theorem Kp.trans {b b1 b2 : Bn} {H H1 H2 : Hp} (s : Kp b b1 H H1) (t : Kp b1 b2 H1 H2) : Kp b b2 H H2 :=
  ⟨fun a o e n => (by
    obtain ⟨⟨o1, q1, k1⟩, n1⟩ := s.k a o e n
    obtain ⟨⟨o2, q2, k2⟩, n2⟩ := t.k a o1 q1 n1
    exact ⟨⟨o2, q2, k1.trans k2⟩, n2⟩), by
    obtain ⟨l, e⟩ := s.m
    obtain ⟨l', e'⟩ := t.m
    exact ⟨l ++ l', by rw [e', e, List.append_assoc]⟩⟩
theorem Stp.kp {b b' : Bn} {H H' : Hp} (s : Stp b b' H H') : Kp b b' H H' := ⟨fun a o e n => (by
  obtain ⟨o', q, k, _⟩ := s.keep a o e fun h => n (.inr h)
  exact ⟨⟨o', q, k⟩, s.ban e n⟩), s.m⟩

/-- an item that is handed out: a value, or (w) a pair that no one keeps -/
def RepB (W : Wd) (w : Bool) : RR := fun H b p x => Rep W H b p x ∨ (w = true ∧ ∃ ps a xs, p = .tup ps ∧ x = .ref a ∧ H a = some (.tup xs) ∧ Reps W H b ps xs)
/-- what J yields is ps, as long as what is told stays -/
def SrcOk (W : Wd) (w : Bool) (J : It) (H : Hp) (b : Bn) (ps : List PV) : Prop := ∀ H' b', Kp b b' H H' → (∀ p, H' p = none → ¬ b'.no p) → ∀ i,
  (∀ p, ps[i]? = some p → J.go i H' ∧ ∀ x H'', J.yld i H' x H'' → (∀ a o, H' a = some o → H'' a = some o) ∧ RepB W w H'' b' p x) ∧ (ps.length ≤ i → J.stop i H')
section
variable {X : Cx} {W : Wd} {g : Gh} {E : XK} {tg : Expr}
/-- the reading of a source -/
def tI (W : Wd) (w : Bool) (g : Gh) (E : XK) (d : Den) : TI := fun σ H R => tF W g E d (fun v _ H1 b1 => ∀ J, SrcOk W w J H1 b1 (asL v) → R J H1) σ H

theorem src_list {H : Hp} {b : Bn} {ps : List PV} {a : Addr} (r : Rep W H b (.lst ps) (.ref a)) : SrcOk W false (Itl W.K a) H b ps := by
  intro H' b' k _ i
  have r' := r.kp k
  cases r' with
  | lst e rs =>
    refine ⟨fun p hp => ?_, fun hi => ⟨_, lst_sq e, rs.length ▸ hi⟩⟩
    obtain ⟨x, hx, rx⟩ := rs.get hp
    refine ⟨⟨_, x, lst_sq e, hx⟩, fun x' H'' y => ?_⟩
    obtain ⟨rfl, y⟩ := y
    have := y _ (lst_sq e)
    rw [hx] at this
    cases this
    exact ⟨fun _ _ e => e, .inl rx⟩
theorem src_tup {H : Hp} {b : Bn} {ps : List PV} {a : Addr} (r : Rep W H b (.tup ps) (.ref a)) : SrcOk W false (Itt W.K a) H b ps := by
  intro H' b' k _ i
  have r' := r.kp k
  cases r' with
  | @tup _ xs _ n rs =>
    have sq : SqT W.K H' a xs := by
      rcases n with ⟨_, e⟩ | n
      · exact e.sq _
      · exact n.sq
    refine ⟨fun p hp => ?_, fun hi => ⟨_, sq, rs.length ▸ hi⟩⟩
    obtain ⟨x, hx, rx⟩ := rs.get hp
    refine ⟨⟨_, x, sq, hx⟩, fun x' H'' y => ?_⟩
    obtain ⟨rfl, y⟩ := y
    have := y _ sq
    rw [hx] at this
    cases this
    exact ⟨fun _ _ e => e, .inl rx⟩
def signs (s : List Nat) : List PV := s.map fun c => .str [c]
theorem src_str {H : Hp} {b : Bn} {s : List Nat} : SrcOk W false (Its ⟨s.toArray⟩) H b (signs s) := by
  intro H' b' k _ i
  refine ⟨fun p hp => ?_, fun hi => ?_⟩
  · unfold signs at hp
    rw [List.getElem?_map] at hp
    cases q : s[i]? with
    | none => rw [q] at hp; cases hp
    | some c =>
      rw [q] at hp
      cases hp
      refine ⟨?_, fun x H'' y => ?_⟩
      · show i < s.toArray.size
        have := (List.getElem?_eq_some_iff.mp q).1
        simpa using this
      · obtain ⟨rfl, c', h1, rfl⟩ := y
        have h1 : s.toArray[i]? = some c' := h1
        rw [List.getElem?_toArray, q] at h1
        cases h1
        exact ⟨fun _ _ e => e, .inl (.str [c])⟩
  · show s.toArray.size ≤ i
    simpa [signs] using hi
/-- a list, a tuple, a text -/
def sqOf : PV → Option (List PV)
  | .lst l => some l
  | .tup l => some l
  | .str s => some (signs s)
  | _ => none
def okL (o : Option (List PV)) (S : Store) : Rs PV := match o with
  | some l => .ok (.lst l) S
  | none => .bad
def dSeq (d : Den) : Den := fun ρ S => (d ρ S).bnd fun v S1 => okL (sqOf v) S1
theorem si_seq {e : Expr} {d : Den} (hK : X.K = W.K) (he : PE X e (tEv W g E d)) : PI X tg e (tI W false g E (dSeq d)) := by
  refine ⟨fun pins s σ H R I h => ?_⟩
  obtain ⟨ρ, S, b, O, en, f⟩ := h
  unfold dSeq at f
  cases q : d ρ S with
  | bad => rw [q] at f; exact f.elim
  | exc c v S1 =>
    rw [q] at f
    refine (pi_list (tg := tg) he).run pins s σ H R I ⟨ρ, S, b, O, en, ?_⟩
    rw [q]
    exact f
  | ok v S1 =>
    rw [q] at f
    cases v with
    | lst ps =>
      refine (pi_list (tg := tg) he).run pins s σ H R I ⟨ρ, S, b, O, en, ?_⟩
      rw [q]
      intro H' b' dd x rx
      have rx0 := rx
      cases rx with
      | lst e r => exact ⟨_, rfl, ⟨_, hK ▸ lst_sq e⟩, hK ▸ f H' b' dd _ (src_list rx0)⟩
    | tup ps =>
      refine (pi_tup (tg := tg) he).run pins s σ H R I ⟨ρ, S, b, O, en, ?_⟩
      rw [q]
      intro H' b' dd x rx
      have rx0 := rx
      cases rx with
      | tup n r =>
        refine ⟨_, rfl, ?_, hK ▸ f H' b' dd _ (src_tup rx0)⟩
        rw [hK]
        rcases n with ⟨_, e⟩ | n
        · exact ⟨_, e.sq _⟩
        · exact ⟨_, n.sq⟩
    | str z =>
      refine (pi_str (tg := tg) he).run pins s σ H R I ⟨ρ, S, b, O, en, ?_⟩
      rw [q]
      intro H' b' dd x rx
      cases rx
      exact ⟨_, rfl, f H' b' dd _ src_str⟩
    | _ => exact f.elim

/-! ### range -/
def rngL (lo : Int) (n : Nat) : List PV := (List.range n).map fun (k : Nat) => .int (lo + k)
theorem src_rng {H : Hp} {b : Bn} {lo : Int} {n : Nat} : SrcOk W false (Itr lo n) H b (rngL lo n) := by
  intro H' b' k _ i
  refine ⟨fun p hp => ?_, fun hi => (by simpa [rngL] using hi : n ≤ i)⟩
  unfold rngL at hp
  rw [List.getElem?_map] at hp
  by_cases hi : i < n
  · rw [List.getElem?_range hi] at hp
    cases hp
    refine ⟨hi, fun x H'' y => ?_⟩
    obtain ⟨rfl, rfl⟩ := y
    exact ⟨fun _ _ e => e, .inl (.int _)⟩
  · rw [List.getElem?_eq_none (by simpa using hi)] at hp
    cases hp
def rgOk (i : Int) : Bool := decide (-(2 ^ 62) ≤ i) && decide (i < 2 ^ 62)
def rng1 : List PV → Option (List PV)
  | [.int j] => if rgOk j = true then some (rngL 0 j.toNat) else none
  | _ => none
def rng2 : List PV → Option (List PV)
  | [.int i, .int j] => if (rgOk i && rgOk j) = true then some (rngL i (j - i).toNat) else none
  | _ => none
def dSrc (f : List PV → Option (List PV)) (d : Den) : Den := fun ρ S => (d ρ S).bnd fun v S1 => okL (f (asL v)) S1
theorem rgOk_of {i : Int} (h : rgOk i = true) : -(2 ^ 62) ≤ i ∧ i < 2 ^ 62 := by
  unfold rgOk at h
  rw [Bool.and_eq_true, decide_eq_true_eq, decide_eq_true_eq] at h
  exact h
theorem si_rng1 {a : Expr} {d : Den} {p pos : Pos} (hg : Gl X "range") (hm : X.mg "range" = none) (ha : PA X [a] (tEa W g E d)) (hs : starEach [a] X.env = [(false, eval a X.env)] := by rfl) :
    PI X tg (.Call (.Name "range" p) [a] [] pos) (tI W false g E (dSrc rng1 d)) := by
  refine ⟨fun pins s σ H R I h => (pi_range1 hg hm ha hs).run pins s σ H R I ?_⟩
  refine (tF.seq (k := fun _ v S1 => okL (rng1 (asL v)) S1) h).imp fun v S1 H1 b1 s1 ⟨ρ, O, e1, f⟩ xs rs => ?_
  unfold rng1 at f
  split at f
  · rename_i j q
    rw [q] at rs
    split at f
    · rename_i hj
      cases rs with
      | cons r t =>
        cases r
        cases t
        exact ⟨j, rfl, (rgOk_of hj).1, (rgOk_of hj).2, f H1 b1 (.refl s1) _ src_rng⟩
    · exact f.elim
  · exact f.elim
theorem si_rng2 {a c : Expr} {d : Den} {p pos : Pos} (hg : Gl X "range") (hm : X.mg "range" = none) (ha : PA X [a, c] (tEa W g E d)) (hs : starEach [a, c] X.env = [(false, eval a X.env), (false, eval c X.env)] := by rfl) (hs2 : starEach [c] X.env = [(false, eval c X.env)] := by rfl) :
    PI X tg (.Call (.Name "range" p) [a, c] [] pos) (tI W false g E (dSrc rng2 d)) := by
  refine ⟨fun pins s σ H R I h => (pi_range2 hg hm ha hs hs2).run pins s σ H R I ?_⟩
  refine (tF.seq (k := fun _ v S1 => okL (rng2 (asL v)) S1) h).imp fun v S1 H1 b1 s1 ⟨ρ, O, e1, f⟩ xs rs => ?_
  unfold rng2 at f
  split at f
  · rename_i i j q
    rw [q] at rs
    split at f
    · rename_i hj
      rw [Bool.and_eq_true] at hj
      cases rs with
      | cons r t =>
        cases r
        cases t with
        | cons r t =>
          cases r
          cases t
          exact ⟨i, j, rfl, ⟨(rgOk_of hj.1).1, (rgOk_of hj.1).2, (rgOk_of hj.2).1, (rgOk_of hj.2).2⟩, f H1 b1 (.refl s1) _ src_rng⟩
    · exact f.elim
  · exact f.elim
end
end Tg
end
section
set_option Elab.async false
set_option linter.all false
set_option maxRecDepth 100000
/-! zip, enumerate -/
namespace Tg
open PySem PySem.Spec PyProof.Rows L2
theorem sub5 {z TI TO i1 i2 c : Addr} (h : c ∉ [z, TI, TO, i1, i2]) : c ∉ [z, TO, i1, i2] := fun q => h (by
  simp only [List.mem_cons, List.not_mem_nil, or_false] at q ⊢
  rcases q with q | q | q | q
  · exact .inl q
  · exact .inr (.inr (.inl q))
  · exact .inr (.inr (.inr (.inl q)))
  · exact .inr (.inr (.inr (.inr q))))
/-- the signs of two texts, in new pairs -/
def ItzS (x y : Str) : It :=
  ⟨fun i _ => i < min x.cps.size y.cps.size, fun i H v H' => ∃ T c d, v = .ref T ∧ H T = none ∧ H' = upd H T (.tup [.str ⟨#[c]⟩, .str ⟨#[d]⟩]) ∧ x.cps[i]? = some c ∧ y.cps[i]? = some d, fun i _ => min x.cps.size y.cps.size ≤ i⟩
theorem turn_zipS {P : Program} {w : World} {K : PySem.W.Frag} {elts : List Expr} {kk : Nat} {tpos : Pos} {x y : Str} {t u : Tok} {z TI TO i1 i2 : Addr} (S : ZipSep2 z TI TO i1 i2 [i1] [i2]) :
    Turn P w K (.Tuple elts kk tpos) (ItzS x y) [z, TI, TO, i1, i2] z (fun i h => i ≤ min x.cps.size y.cps.size ∧ IsZip h z TI TO .none ∧ IsTupOf2 h TI (.ref i1) (.ref i2) ∧ (∃ a1 a2, IsTupOf2 h TO a1 a2) ∧ h.IsStrIter i1 (strIterType x) x t i ∧ h.IsStrIter i2 (strIterType y) y u i) where
  mem := by simp
  obj := fun i h st c hc => by
    obtain ⟨_, hz, hTI, ⟨x, y, hTO⟩, ⟨o1, e1, _, d1⟩, ⟨o2, e2, _, d2⟩⟩ := st
    have e' : c = z ∨ c = TI ∨ c = TO ∨ c = i1 ∨ c = i2 := by simpa using hc
    rcases e' with q | q | q | q | q
    · rw [q]; exact ⟨_, hz, fun v q => nomatch q⟩
    · rw [q]; exact ⟨_, hTI, fun v q => nomatch q⟩
    · rw [q]; exact ⟨_, hTO, fun v q => nomatch q⟩
    · rw [q]; exact ⟨o1, e1, fun v q => by rw [d1] at q; cases q⟩
    · rw [q]; exact ⟨o2, e2, fun v q => by rw [d2] at q; cases q⟩
  keep := fun i h h' st k => by
    obtain ⟨hi, hz, hTI, ⟨x, y, hTO⟩, ⟨o1, e1, r1⟩, ⟨o2, e2, r2⟩⟩ := st
    exact ⟨hi, k z (by simp) _ hz, k TI (by simp) _ hTI, ⟨x, y, k TO (by simp) _ hTO⟩, ⟨o1, k i1 (by simp) _ e1, r1⟩, ⟨o2, k i2 (by simp) _ e2, r2⟩⟩
  item := by
    intro X hP hw hK hc i pins s σ H E I hf st hg
    subst hP hw hK
    have G := GoesN.zip2 (elts := elts) (x1 := kk) (pos := tpos) S (Draws.text (prog := X.prog) (w := X.w) (A := X.A.in1) (I.ok.hd hc) i1 x t) (Draws.text (prog := X.prog) (w := X.w) (A := X.A.in1) (I.ok.hd hc) i2 y u)
    have lt : ∀ c ∈ [z, TI, TO, i1, i2], c < s.heap.objs.size := fun c hcm => by
      obtain ⟨_, hz, hTI, ⟨_, _, hTO⟩, ⟨o1, e1, _⟩, ⟨o2, e2, _⟩⟩ := st
      have e' : c = z ∨ c = TI ∨ c = TO ∨ c = i1 ∨ c = i2 := by simpa using hcm
      rcases e' with q | q | q | q | q
      · rw [q]; exact Heap.lt_size hz
      · rw [q]; exact Heap.lt_size hTI
      · rw [q]; exact Heap.lt_size hTO
      · rw [q]; exact Heap.lt_size e1
      · rw [q]; exact Heap.lt_size e2
    have hg' : i < min x.cps.size y.cps.size := hg
    refine thn (G.goes i s (fun v s2 => ∃ x' H', Inv X pins σ H' s2 ∧ RelV x' v ∧ (ItzS x y).yld i H x' H' ∧ _ ∧ ∀ b ∈ [z, TI, TO, i1, i2], H' b = none) E hg' st.2 ?_) fun r s1 q => q
    rintro v h' tk ⟨T, x1, y1, rfl, hT, ⟨c, u1, hc1, rfl⟩, ⟨d, u2, hd1, rfl⟩, hI⟩ st' hk htk
    have new : ObjOk X.prog X.w (upd H T (.tup [.str ⟨#[c]⟩, .str ⟨#[d]⟩])) h' T (.tup [.str ⟨#[c]⟩, .str ⟨#[d]⟩]) :=
      ⟨by show 2 ≤ sizeLine; decide, _, .cons ⟨u1, rfl⟩ (.cons ⟨u2, rfl⟩ .nil), hI⟩
    have I1 : Inv X pins σ (upd H T (.tup [.str ⟨#[c]⟩, .str ⟨#[d]⟩])) { s with heap := h', toks := tk } :=
      I.turnedNew (ch := [z, TI, TO, i1, i2]) (fun c o hb q => hk c o (sub5 hb) q) hf hT new
    refine ⟨.ref T, _, I1, rfl, ⟨T, c, d, rfl, I.hok.fresh hT, rfl, hc1, hd1⟩, ⟨hg', st'⟩, fun b hb => ?_⟩
    have : b ≠ T := fun e => absurd (lt b hb) (by rw [e]; exact Nat.not_lt.mpr hT)
    rw [upd_ne this]
    exact (hf b hb).1
  done := by
    intro X hP hw hK hc i pins s σ H E I hf st hg
    subst hP hw hK
    have G := GoesN.zip2 (elts := elts) (x1 := kk) (pos := tpos) S (Draws.text (prog := X.prog) (w := X.w) (A := X.A.in1) (I.ok.hd hc) i1 x t) (Draws.text (prog := X.prog) (w := X.w) (A := X.A.in1) (I.ok.hd hc) i2 y u)
    have hi : i = min x.cps.size y.cps.size := Nat.le_antisymm st.1 hg
    subst hi
    exact G.stops s (fun s1 => Inv X pins σ H s1) E st.2 fun h' tk hk htk => I.turnedL (ch := [z, TI, TO, i1, i2]) (fun c o hb q => hk c o (sub5 hb) q) hf
  self := by
    intro A i s Q E st h
    exact wpAny_pyIter_zip st.2.1 h
def iZipS (ta : TA) : TI := fun σ H R => ta σ H fun vs H1 => ∃ x y, vs = [.str x, .str y] ∧ R (ItzS x y) H1
theorem pi_zipS {X : Cx} {e e2 : Expr} {ta : TA} {p pos tpos : Pos} {elts : List Expr} {kk : Nat} (hg : Gl X "zip") (hm : X.mg "zip" = none) (ha : PA X [e, e2] ta)
    (hs : starEach [e, e2] X.env = (false, eval e X.env) :: starEach [e2] X.env := by rfl) (hpl : (backTo pos (starEach [e2] X.env)).any (·.1) = false := by rfl) :
    PI X (.Tuple elts kk tpos) (.Call (.Name "zip" p) [e, e2] [] pos) (iZipS ta) := by
  refine ⟨fun pins s σ H R I h => ?_⟩
  refine Call_ (ld_blt I hg hm PyProof.Rows.boot_zip (PyProof.Rows.callWith_type1 (thn (ha.run pos pins s σ H _ I h) fun us s1 ⟨vs, H1, I1, r1, q1⟩ => ?_) hs hpl))
  obtain ⟨x, y, ex, q⟩ := q1
  subst ex
  cases r1 with
  | cons r rr =>
    cases rr with
    | cons r' rr =>
      cases rr
      obtain ⟨t, rfl⟩ := r
      obtain ⟨u, rfl⟩ := r'
      have hle : ∀ c, c ∈ [s1.heap.objs.size + 4, s1.heap.objs.size + 2, s1.heap.objs.size + 3, s1.heap.objs.size, s1.heap.objs.size + 1] → s1.heap.objs.size ≤ c := fun c hcm => by
        simp at hcm
        omega
      refine zip_begins2 (begins_text x t) (begins_text y u) trivial trivial fun h' hz hTI hTO h1 h2 hsz hk => wpAny_pyIter_zip hz ?_
      have I2 : Inv X pins σ H1 { s1 with heap := h' } := I1.kept (t' := s1.toks) hk
      refine ⟨s1.heap.objs.size + 4, [s1.heap.objs.size + 4, s1.heap.objs.size + 2, s1.heap.objs.size + 3, s1.heap.objs.size, s1.heap.objs.size + 1], _, _, H1, rfl, I2,
        turn_zipS (x := x) (y := y) (t := t) (u := u) (zip_sep2 (fp1 := []) (fp2 := []) (by simp) (by simp)), ⟨Nat.zero_le _, hz, hTI, ⟨_, _, hTO⟩, ⟨_, h1, rfl, rfl⟩, ⟨_, h2, rfl, rfl⟩⟩, fun c hcm => I1.fpOk (hle c hcm) (I1.hok.fresh (hle c hcm)), q⟩
end Tg
end
section
set_option Elab.async false
set_option linter.all false
set_option maxRecDepth 100000
/-! fresh things, writes, comprehensions -/
namespace Tg
open PySem PySem.Spec PyProof.Rows L2
section
variable {X : Cx} {W : Wd} {g : Gh} {E : XK}
/-! ### zip -/
def pr (x y : PV) : PV := .tup [x, y]
def zipV : List PV → Option (List PV)
  | [.lst a, .lst b] => some (List.zipWith pr a b)
  | [.tup a, .tup b] => some (List.zipWith pr a b)
  | [.str a, .str b] => some (List.zipWith pr (signs a) (signs b))
  | _ => none
theorem zipWith_get {a b : List PV} {i : Nat} {p : PV} (h : (List.zipWith pr a b)[i]? = some p) : ∃ x y, a[i]? = some x ∧ b[i]? = some y ∧ p = pr x y := by
  rw [List.getElem?_zipWith] at h
  cases q1 : a[i]? with
  | none => rw [q1] at h; cases h
  | some x =>
    cases q2 : b[i]? with
    | none => rw [q1, q2] at h; cases h
    | some y => rw [q1, q2] at h; cases h; exact ⟨x, y, rfl, rfl, rfl⟩
theorem src_zipL {H : Hp} {b : Bn} {ps qs : List PV} {a c : Addr} (r : Rep W H b (.lst ps) (.ref a)) (r2 : Rep W H b (.lst qs) (.ref c)) : SrcOk W true (Itz W.K a c) H b (List.zipWith pr ps qs) := by
  intro H' b' k hf i
  have r' := r.kp k
  have r2' := r2.kp k
  cases r' with
  | lst e rs =>
    cases r2' with
    | lst e2 rs2 =>
      refine ⟨fun p hp => ?_, fun hi => ⟨_, _, lst_sq e, lst_sq e2, ?_⟩⟩
      · obtain ⟨x, y, hx, hy, rfl⟩ := zipWith_get hp
        obtain ⟨u, hu, ru⟩ := rs.get hx
        obtain ⟨v, hv, rv⟩ := rs2.get hy
        refine ⟨⟨_, _, u, v, lst_sq e, lst_sq e2, hu, hv⟩, fun z H'' yd => ?_⟩
        obtain ⟨T, x', y', rfl, hT, rfl, f1, f2⟩ := yd
        have h1 := f1 _ (lst_sq e)
        have h2 := f2 _ (lst_sq e2)
        rw [hu] at h1; rw [hv] at h2; cases h1; cases h2
        exact ⟨same_upd hT, .inr ⟨rfl, _, T, _, rfl, rfl, upd_same, .cons (ru.grow (same_upd hT)) (.cons (rv.grow (same_upd hT)) .nil)⟩⟩
      · rw [← rs.length, ← rs2.length]
        simp only [List.length_zipWith] at hi
        omega
theorem src_zipT {H : Hp} {b : Bn} {ps qs : List PV} {a c : Addr} (r : Rep W H b (.tup ps) (.ref a)) (r2 : Rep W H b (.tup qs) (.ref c)) : SrcOk W true (RZ.ItzT W.K a c) H b (List.zipWith pr ps qs) := by
  intro H' b' k hf i
  have r' := r.kp k
  have r2' := r2.kp k
  have sq : ∀ {a : Addr} {xs : List V}, ((¬ b'.no a ∧ PTu H' a xs) ∨ KTup W.K a xs) → SqT W.K H' a xs := fun n => by
    rcases n with ⟨_, e⟩ | n
    · exact e.sq _
    · exact n.sq
  cases r' with
  | tup n rs =>
    cases r2' with
    | tup n2 rs2 =>
      refine ⟨fun p hp => ?_, fun hi => ⟨_, _, sq n, sq n2, ?_⟩⟩
      · obtain ⟨x, y, hx, hy, rfl⟩ := zipWith_get hp
        obtain ⟨u, hu, ru⟩ := rs.get hx
        obtain ⟨v, hv, rv⟩ := rs2.get hy
        refine ⟨⟨_, _, u, v, sq n, sq n2, hu, hv⟩, fun z H'' yd => ?_⟩
        obtain ⟨T, x', y', rfl, hT, rfl, f1, f2⟩ := yd
        have h1 := f1 _ (sq n)
        have h2 := f2 _ (sq n2)
        rw [hu] at h1; rw [hv] at h2; cases h1; cases h2
        exact ⟨same_upd hT, .inr ⟨rfl, _, T, _, rfl, rfl, upd_same, .cons (ru.grow (same_upd hT)) (.cons (rv.grow (same_upd hT)) .nil)⟩⟩
      · rw [← rs.length, ← rs2.length]
        simp only [List.length_zipWith] at hi
        omega
theorem src_zipS {H : Hp} {b : Bn} {s t : List Nat} : SrcOk W true (ItzS ⟨s.toArray⟩ ⟨t.toArray⟩) H b (List.zipWith pr (signs s) (signs t)) := by
  intro H' b' k hf i
  refine ⟨fun p hp => ?_, fun hi => ?_⟩
  · obtain ⟨x, y, hx, hy, rfl⟩ := zipWith_get hp
    unfold signs at hx hy
    rw [List.getElem?_map] at hx hy
    cases q1 : s[i]? with
    | none => rw [q1] at hx; cases hx
    | some c =>
      cases q2 : t[i]? with
      | none => rw [q2] at hy; cases hy
      | some d =>
        rw [q1] at hx; rw [q2] at hy; cases hx; cases hy
        have l1 := (List.getElem?_eq_some_iff.mp q1).1
        have l2 := (List.getElem?_eq_some_iff.mp q2).1
        refine ⟨show i < min s.toArray.size t.toArray.size by simp; omega, fun z H'' yd => ?_⟩
        obtain ⟨T, c', d', rfl, hT, rfl, f1, f2⟩ := yd
        have f1 : s.toArray[i]? = some c' := f1
        have f2 : t.toArray[i]? = some d' := f2
        rw [List.getElem?_toArray, q1] at f1
        rw [List.getElem?_toArray, q2] at f2
        cases f1; cases f2
        exact ⟨same_upd hT, .inr ⟨rfl, _, T, _, rfl, rfl, upd_same, .cons (.str [c]) (.cons (.str [d]) .nil)⟩⟩
  · show min s.toArray.size t.toArray.size ≤ i
    simp only [List.length_zipWith, signs, List.length_map] at hi
    simpa using hi
theorem si_zip {e e2 : Expr} {elts : List Expr} {kk : Nat} {d : Den} {p pos tpos : Pos} (hK : X.K = W.K) (hg : Gl X "zip") (hm : X.mg "zip" = none) (ha : PA X [e, e2] (tEa W g E d))
    (hs : starEach [e, e2] X.env = (false, eval e X.env) :: starEach [e2] X.env := by rfl) (hpl : (backTo pos (starEach [e2] X.env)).any (·.1) = false := by rfl) :
    PI X (.Tuple elts kk tpos) (.Call (.Name "zip" p) [e, e2] [] pos) (tI W true g E (dSrc zipV d)) := by
  refine ⟨fun pins s σ H R I h => ?_⟩
  obtain ⟨ρ, S, b, O, en, f⟩ := h
  unfold dSrc at f
  cases q : d ρ S with
  | bad => rw [q] at f; exact f.elim
  | exc c v S1 =>
    rw [q] at f
    refine (RZ.pi_zipA hg hm ha hs hpl).run pins s σ H R I ⟨ρ, S, b, O, en, ?_⟩
    rw [q]
    exact f
  | ok v S1 =>
    rw [q] at f
    replace f : fin W E _ b H (okL (zipV (asL v)) S1) := f
    generalize hv : asL v = l at f
    unfold zipV at f
    split at f
    · refine (RZ.pi_zipA hg hm ha hs hpl).run pins s σ H R I ⟨ρ, S, b, O, en, ?_⟩
      rw [q]
      intro H' b' dd xs rs
      rw [hv] at rs
      cases rs with
      | cons r t =>
        cases t with
        | cons r2 t =>
          cases t
          have r0 := r
          have r20 := r2
          cases r with
          | lst e1 r1 =>
            cases r2 with
            | lst e2 r3 => exact ⟨_, _, _, _, rfl, .inl ⟨hK ▸ lst_sq e1, hK ▸ lst_sq e2, hK ▸ f H' b' dd _ (src_zipL r0 r20)⟩⟩
    · refine (RZ.pi_zipA hg hm ha hs hpl).run pins s σ H R I ⟨ρ, S, b, O, en, ?_⟩
      rw [q]
      intro H' b' dd xs rs
      rw [hv] at rs
      cases rs with
      | cons r t =>
        cases t with
        | cons r2 t =>
          cases t
          have r0 := r
          have r20 := r2
          have sq : ∀ {a : Addr} {xs : List V}, ((¬ b'.no a ∧ PTu H' a xs) ∨ KTup W.K a xs) → SqT X.K H' a xs := fun n => by
            rcases n with ⟨_, e⟩ | n
            · exact e.sq _
            · exact hK ▸ n.sq
          cases r with
          | tup n r1 =>
            cases r2 with
            | tup n2 r3 => exact ⟨_, _, _, _, rfl, .inr ⟨sq n, sq n2, hK ▸ f H' b' dd _ (src_zipT r0 r20)⟩⟩
    · refine (pi_zipS hg hm ha hs hpl).run pins s σ H R I ⟨ρ, S, b, O, en, ?_⟩
      rw [q]
      intro H' b' dd xs rs
      rw [hv] at rs
      cases rs with
      | cons r t =>
        cases t with
        | cons r2 t =>
          cases t
          cases r
          cases r2
          exact ⟨_, _, rfl, f H' b' dd _ src_zipS⟩
    · exact f.elim
end
end Tg
end
section
set_option Elab.async false
set_option linter.all false
set_option autoImplicit false
set_option maxRecDepth 100000
/-! fresh things, writes, comprehensions -/
namespace Tg
open PySem PySem.Spec PyProof.Rows L2
section
variable {X : Cx} {W : Wd} {g : Gh} {E : XK}
/-- less is banned -/
theorem Kp.less {b b' : Bn} {H : Hp} (hm : b'.m = b.m) (h : ∀ a, b'.no a → b.no a) : Kp b b' H H := .of (fun _ _ e n => ⟨e, fun q => n (h _ q)⟩) ⟨[], by rw [hm]; simp⟩
theorem StoreOk.kp {b b' : Bn} {H H' : Hp} {S : Store} (s : StoreOk W H b S) (k : Kp b b' H H') (hm : b'.m = b.m) (hk : ∀ a ∈ b.m, H' a = H a) : StoreOk W H' b' S :=
  ⟨by rw [hm]; exact s.1, by rw [hm]; exact s.2.1, fun i a ps e1 e2 => by
    rw [hm] at e1
    obtain ⟨xs, q, r⟩ := s.2.2 i a ps e1 e2
    exact ⟨xs, (hk a (List.mem_of_getElem? e1)).trans q, r.kp k⟩⟩
theorem StoreOk.there {b : Bn} {H : Hp} {S : Store} (s : StoreOk W H b S) {a : Addr} (h : a ∈ b.m) : ∃ o, H a = some o := by
  obtain ⟨i, hi⟩ := List.getElem?_of_mem h
  have hl : i < S.length := by rw [← s.1]; exact (List.getElem?_eq_some_iff.mp hi).1
  obtain ⟨xs, q, _⟩ := s.2.2 i a _ hi (List.getElem?_eq_getElem hl)
  exact ⟨_, q⟩
theorem Owns.kp {b b' : Bn} {H H' : Hp} (k : Kp b b' H H') {p : PV} {a : Addr} (h : Owns W H b p a) (e : ∀ o, H a = some o → H' a = some o) : Owns W H' b' p a := by
  cases p with
  | lst ps =>
    obtain ⟨xs, q, r⟩ := h
    exact ⟨xs, e _ q, r.kp k⟩
  | dct ps =>
    obtain ⟨xs, q, r⟩ := h
    exact ⟨xs, e _ q, r.kp k⟩
  | _ => exact h.elim
section
variable {ρ : Env} {S : Store} {b : Bn} {O : Addr → Prop} {σ : L2.St} {H : Hp}
/-- what is fresh now was not there at the entry -/
theorem EnvOk.new0 (e : EnvOk W g ρ S b O σ H) {D : Addr} (h : H D = none) : g.H0 D = none := by
  cases q : g.H0 D with
  | none => rfl
  | some o =>
    by_cases hm : D ∈ g.m0
    · obtain ⟨l, z⟩ := e.m0
      obtain ⟨o', q'⟩ := e.st.there (a := D) (by rw [z]; exact List.mem_append_left _ hm)
      rw [h] at q'; cases q'
    · by_cases hM : g.M0 D
      · obtain ⟨o', q'⟩ := e.mt D hM
        rw [h] at q'; cases q'
      · obtain ⟨_, this, _⟩ := e.keep D o q hm hM
        rw [h] at this; cases this
/-- an owned thing is written, no slot of ours is it -/
theorem EnvOk.upd (e : EnvOk W g ρ S b O σ H) {D : Addr} {o : HO} (hO : O D) (hn : ∀ (i : Nat) (p : PV), look ρ i = .own p → σ[i]? ≠ some (some (.ref D))) : EnvOk W g ρ S b O σ (L2.upd H D o) := by
  have hb := e.oB D hO
  have k : Kp b b H (L2.upd H D o) := .of (fun a o' q n => ⟨by rw [upd_ne (fun z => n (by rw [z]; exact .inl hb.1))]; exact q, n⟩) ⟨[], by simp⟩
  have ex : ∀ a, (∃ o', H a = some o') → ∃ o', L2.upd H D o a = some o' := fun a ⟨o', q⟩ => by
    by_cases z : a = D
    · rw [z]; exact ⟨_, upd_same⟩
    · rw [upd_ne z]; exact ⟨_, q⟩
  exact
  { len := e.len
    slot := fun i => by
      have h := e.slot i
      unfold SlOk at h ⊢
      cases q : look ρ i with
      | no => trivial
      | val p =>
        rw [q] at h
        obtain ⟨v, e1, r⟩ := h
        exact ⟨v, e1, r.kp k⟩
      | own p =>
        rw [q] at h
        obtain ⟨a, e1, o1, r⟩ := h
        refine ⟨a, e1, o1, r.kp k fun o' q' => ?_⟩
        rw [upd_ne (fun z => hn i p q (by rw [← z]; exact e1))]
        exact q'
    inj := e.inj
    oB := e.oB
    Bo := e.Bo
    B0t := e.B0t
    BM := e.BM
    tr := fun a h => ex a (e.tr a h)
    st := e.st.kp k rfl fun a ha => upd_ne fun z => hb.2.2 (by rw [← z]; exact ha)
    m0 := e.m0
    mn := e.mn
    mt := fun a h => ex a (e.mt a h)
    keep := fun a o' q n1 n2 => by
      have z : a ≠ D := fun z => by
        rcases hb.2.1 with h | h
        · rw [← z, q] at h; cases h
        · exact n2 (by rw [z]; exact h)
      obtain ⟨o1, q1, k1, x1⟩ := e.keep a o' q n1 n2
      exact ⟨o1, by rw [upd_ne z]; exact q1, k1, x1⟩ }
/-- a new thing is laid, and owned -/
theorem EnvOk.own (e : EnvOk W g ρ S b O σ H) {D : Addr} {o : HO} (h : H D = none) : EnvOk W g ρ S ⟨fun a => b.B a ∨ a = D, b.m⟩ (fun a => O a ∨ a = D) σ (L2.upd H D o) := by
  have hf : ¬ b.no D := e.fresh h
  have k : Kp b ⟨fun a => b.B a ∨ a = D, b.m⟩ H (L2.upd H D o) := .of (fun a o' q n => by
    have z : a ≠ D := fun z => by rw [z, h] at q; cases q
    refine ⟨by rw [upd_ne z]; exact q, fun hn => ?_⟩
    rcases hn with (hn | hn) | hn
    · exact n (.inl hn)
    · exact z hn
    · exact n (.inr hn)) ⟨[], by simp⟩
  have kk : ∀ a o', H a = some o' → L2.upd H D o a = some o' := same_upd h
  exact
  { len := e.len
    slot := fun i => by
      have hs := e.slot i
      unfold SlOk at hs ⊢
      cases q : look ρ i with
      | no => trivial
      | val p =>
        rw [q] at hs
        obtain ⟨v, e1, r⟩ := hs
        exact ⟨v, e1, r.kp k⟩
      | own p =>
        rw [q] at hs
        obtain ⟨a, e1, o1, r⟩ := hs
        exact ⟨a, e1, .inl o1, r.kp k fun o' q' => kk a o' q'⟩
    inj := e.inj
    oB := fun a ha => by
      rcases ha with ha | ha
      · obtain ⟨h1, h2, h3⟩ := e.oB a ha
        exact ⟨.inl h1, h2, h3⟩
      · subst ha
        exact ⟨.inr rfl, .inl (e.new0 h), fun q => hf (.inr q)⟩
    Bo := fun a => by
      have := e.Bo a
      constructor
      · rintro (h | h)
        · rcases this.mp h with h | h
          · exact .inl h
          · exact .inr (.inl h)
        · exact .inr (.inr h)
      · rintro (h | h | h)
        · exact .inl (this.mpr (.inl h))
        · exact .inl (this.mpr (.inr h))
        · exact .inr h
    B0t := e.B0t
    BM := e.BM
    tr := fun a ha => by
      rcases ha with (ha | ha) | ha
      · obtain ⟨o', q⟩ := e.tr a (.inl ha)
        exact ⟨o', kk a o' q⟩
      · rw [ha]; exact ⟨_, upd_same⟩
      · obtain ⟨o', q⟩ := e.tr a (.inr ha)
        exact ⟨o', kk a o' q⟩
    st := e.st.kp k rfl fun a ha => upd_ne fun z => hf (.inr (by rw [← z]; exact ha))
    m0 := e.m0
    mn := e.mn
    mt := fun a ha => by
      obtain ⟨o', q⟩ := e.mt a ha
      exact ⟨o', kk a o' q⟩
    keep := fun a o' q n1 n2 => by
      obtain ⟨o1, q1, k1, x1⟩ := e.keep a o' q n1 n2
      exact ⟨o1, kk a o1 q1, k1, x1⟩ }
/-- a slot is set to a value -/
theorem EnvOk.set (e : EnvOk W g ρ S b O σ H) {i : Nat} {p : PV} {x : V} (r : Rep W H b p x) : EnvOk W g (ρ.set i (.val p)) S b O (σ.set i (some x)) H := by
  have lk : ∀ j, look (ρ.set i (.val p)) j = if i = j ∧ j < ρ.length then .val p else look ρ j := fun j => by
    unfold look
    by_cases h : i = j
    · subst h
      by_cases hl : i < ρ.length
      · rw [List.getElem?_set_self hl, if_pos ⟨rfl, hl⟩]; rfl
      · rw [if_neg (fun z => hl z.2), List.set_eq_of_length_le (by omega)]
    · rw [List.getElem?_set_ne h, if_neg (fun z => h z.1)]
  exact
  { e with
    len := by rw [List.length_set, List.length_set]; exact e.len
    slot := fun j => by
      rw [lk]
      by_cases h : i = j ∧ j < ρ.length
      · rw [if_pos h]
        obtain ⟨rfl, hl⟩ := h
        exact ⟨x, List.getElem?_set_self (by rw [← e.len]; exact hl), r⟩
      · rw [if_neg h]
        by_cases hi : i = j
        · subst hi
          have hl : ρ.length ≤ i := Nat.le_of_not_lt fun q => h ⟨rfl, q⟩
          rw [List.set_eq_of_length_le (by rw [← e.len]; exact hl)]
          exact e.slot i
        · rw [List.getElem?_set_ne hi]
          exact e.slot j
    inj := fun j k p1 q1 a h1 h2 e1 e2 => by
      rw [lk] at h1 h2
      split at h1
      · cases h1
      · split at h2
        · cases h2
        · rename_i n1 n2
          have z : ∀ j, ¬ (i = j ∧ j < ρ.length) → (σ.set i (some x))[j]? = σ[j]? := fun j n => by
            by_cases hi : i = j
            · subst hi
              have hl : ρ.length ≤ i := Nat.le_of_not_lt fun q => n ⟨rfl, q⟩
              rw [List.set_eq_of_length_le (by rw [← e.len]; exact hl)]
            · rw [List.getElem?_set_ne hi]
          rw [z j n1] at e1
          rw [z k n2] at e2
          exact e.inj j k p1 q1 a h1 h2 e1 e2 }
end

/-! ### the slots of a block -/
def wipeE (ρ : Env) : List Nat → Env
  | [] => ρ
  | v :: vs => (wipeE ρ vs).set v .no
theorem wipeE_length (ρ : Env) : ∀ vs, (wipeE ρ vs).length = ρ.length
  | [] => rfl
  | v :: vs => by rw [wipeE, List.length_set, wipeE_length ρ vs]
theorem look_wipe (ρ : Env) : ∀ (vs : List Nat) (j : Nat), look (wipeE ρ vs) j = if j ∈ vs then .no else look ρ j
  | [], j => by simp [wipeE]
  | v :: vs, j => by
    unfold wipeE
    by_cases h : v = j
    · subst h
      rw [if_pos (by simp)]
      unfold look
      by_cases hl : v < (wipeE ρ vs).length
      · rw [List.getElem?_set_self hl]; rfl
      · rw [List.getElem?_eq_none (by rw [List.length_set]; omega)]; rfl
    · have := look_wipe ρ vs j
      unfold look at this ⊢
      rw [List.getElem?_set_ne h, this]
      by_cases h2 : j ∈ vs
      · rw [if_pos h2, if_pos (List.mem_cons_of_mem _ h2)]
      · rw [if_neg h2, if_neg (by simp [h2]; exact fun z => h z.symm)]
theorem wipe_get {σ : L2.St} {j : Nat} : ∀ {vs : List Nat}, j ∉ vs → (wipe σ vs)[j]? = σ[j]?
  | [], _ => rfl
  | v :: vs, h => by
    unfold wipe
    rw [List.getElem?_set_ne (fun z => h (by simp [z])), wipe_get (fun z => h (List.mem_cons_of_mem _ z))]
theorem wipe_get_in {σ : L2.St} {j : Nat} : ∀ {vs : List Nat}, j ∈ vs → j < σ.length → (wipe σ vs)[j]? = some none
  | v :: vs, h, hl => by
    unfold wipe
    by_cases z : v = j
    · subst z
      rw [List.getElem?_set_self (by rw [wipe_length]; exact hl)]
    · rw [List.getElem?_set_ne z]
      exact wipe_get_in ((List.mem_cons.mp h).resolve_left fun q => z q.symm) hl
theorem wipe_ext {σ τ : L2.St} {vs : List Nat} (hl : τ.length = σ.length) (h : ∀ i, i ∉ vs → τ[i]? = σ[i]?) : wipe τ vs = wipe σ vs := by
  apply List.ext_getElem?
  intro i
  by_cases hi : i ∈ vs
  · by_cases hb : i < σ.length
    · rw [wipe_get_in hi hb, wipe_get_in hi (hl ▸ hb)]
    · rw [List.getElem?_eq_none (by rw [wipe_length]; omega), List.getElem?_eq_none (by rw [wipe_length]; omega)]
  · rw [wipe_get hi, wipe_get hi, h i hi]
theorem EnvOk.wipe {ρ : Env} {S : Store} {b : Bn} {O : Addr → Prop} {σ : L2.St} {H : Hp} (e : EnvOk W g ρ S b O σ H) (vs : List Nat) : EnvOk W g (wipeE ρ vs) S b O (L2.wipe σ vs) H :=
  { e with
    len := by rw [wipeE_length, wipe_length]; exact e.len
    slot := fun j => by
      rw [look_wipe]
      by_cases h : j ∈ vs
      · rw [if_pos h]; trivial
      · rw [if_neg h, wipe_get h]; exact e.slot j
    inj := fun j k p q a h1 h2 e1 e2 => by
      rw [look_wipe] at h1 h2
      split at h1
      · cases h1
      · split at h2
        · cases h2
        · rename_i n1 n2
          rw [wipe_get n1] at e1
          rw [wipe_get n2] at e2
          exact e.inj j k p q a h1 h2 e1 e2 }

/-! ### targets -/
/-- where a value is stored: a name, several -/
inductive Tgt where
  | name (i : Nat)
  | nil
  | cons (a r : Tgt)
  | tup (r : Tgt)
def Tgt.slots : Tgt → List Nat
  | .name i => [i]
  | .nil => []
  | .cons a r => a.slots ++ r.slots
  | .tup r => r.slots
/-- stored; a row of targets takes a list -/
def Tgt.put : Tgt → PV → Env → Option Env
  | .name i, v, ρ => some (ρ.set i (.val v))
  | .nil, .lst [], ρ => some ρ
  | .nil, _, _ => none
  | .cons a r, .lst (v :: vs), ρ => match a.put v ρ with
    | some ρ1 => r.put (.lst vs) ρ1
    | none => none
  | .cons _ _, _, _ => none
  | .tup r, .tup vs, ρ => r.put (.lst vs) ρ
  | .tup _, _, _ => none
/-- the reading of a target -/
def tG (W : Wd) (w : Bool) (g : Gh) (t : Tgt) : TG := fun x σ H Q => ∃ ρ S b O p ρ', EnvOk W g ρ S b O σ H ∧ RepB W w H b p x ∧ t.put p ρ = some ρ' ∧ ∀ σ', σ'.length = σ.length → (∀ i, i ∉ t.slots → σ'[i]? = σ[i]?) → EnvOk W g ρ' S b O σ' H → Q σ' H
def tGs (W : Wd) (g : Gh) (t : Tgt) : TGs := fun xs σ H Q => ∃ ρ S b O ps ρ', EnvOk W g ρ S b O σ H ∧ Reps W H b ps xs ∧ t.put (.lst ps) ρ = some ρ' ∧ ∀ σ', σ'.length = σ.length → (∀ i, i ∉ t.slots → σ'[i]? = σ[i]?) → EnvOk W g ρ' S b O σ' H → Q σ' H
theorem pgsI {es : List Expr} {t t' : TGs} (h : PGs X es t) (hi : ∀ v σ H Q, t' v σ H Q → t v σ H Q) : PGs X es t' := ⟨fun pins s σ H v u Q I r q => h.run pins s σ H v u Q I r (hi v σ H Q q)⟩
theorem sg_name {i : Nat} {x : Str} {pos : Pos} (hN : X.N.Nodup) (hi : X.N[i]? = some x) (hx : Loc X.env.scope x) (hf : X.fn x = true ∨ X.env.scope.names.lookup x = some .local) : PG X (.Name x pos) (tG W false g (.name i)) := by
  refine pgI (pg_name hN hi hx hf) ?_
  rintro x σ H Q ⟨ρ, S, b, O, p, ρ', e, r, q, f⟩
  cases q
  rcases r with r | ⟨z, _⟩
  · exact f _ (by rw [List.length_set]) (fun j hj => List.getElem?_set_ne (fun z => hj (by simp [Tgt.slots, z]))) (e.set r)
  · cases z
theorem sg_nil : PGs X [] (tGs W g .nil) := by
  refine pgsI pgs_nil ?_
  rintro xs σ H Q ⟨ρ, S, b, O, ps, ρ', e, r, q, f⟩
  cases r with
  | nil => cases q; exact ⟨rfl, f σ rfl (fun _ _ => rfl) e⟩
  | cons _ _ => cases q
theorem sg_cons {e : Expr} {es : List Expr} {t u : Tgt} (h1 : PG X e (tG W false g t)) (h2 : PGs X es (tGs W g u))
    (hs : (assignEach (e :: es) X.env).map (·.2) = assign e X.env :: (assignEach es X.env).map (·.2) := by rfl) : PGs X (e :: es) (tGs W g (.cons t u)) := by
  refine pgsI (pgs_cons h1 h2 hs) ?_
  rintro xs σ H Q ⟨ρ, S, b, O, ps, ρ', e, r, q, f⟩
  cases r with
  | nil => cases q
  | @cons p x ps xs r rs =>
    simp only [Tgt.put] at q
    cases q1 : t.put p ρ with
    | none => rw [q1] at q; cases q
    | some ρ1 =>
      rw [q1] at q
      refine ⟨x, xs, rfl, ρ, S, b, O, p, ρ1, e, .inl r, q1, fun σ1 l1 k1 e1 => ⟨ρ1, S, b, O, ps, ρ', e1, rs, q, fun σ2 l2 k2 e2 => f σ2 (l2.trans l1) (fun i hi => ?_) e2⟩⟩
      rw [k2 i (fun z => hi (by simp [Tgt.slots, z])), k1 i (fun z => hi (by simp [Tgt.slots, z]))]
def Tgt.row : Tgt → Option Nat
  | .nil => some 0
  | .cons _ r => match r.row with
    | some n => some (n + 1)
    | none => none
  | _ => none
theorem Tgt.put_len : ∀ {t : Tgt} {ps : List PV} {ρ ρ' : Env} {n : Nat}, t.row = some n → t.put (.lst ps) ρ = some ρ' → ps.length = n
  | .nil, [], _, _, _, h, _ => by cases h; rfl
  | .nil, _ :: _, _, _, _, _, q => by cases q
  | .cons a r, [], _, _, _, _, q => by cases q
  | .cons a r, p :: ps, ρ, ρ', n, h, q => by
    simp only [Tgt.put] at q
    simp only [Tgt.row] at h
    cases q1 : a.put p ρ with
    | none => rw [q1] at q; cases q
    | some ρ1 =>
      rw [q1] at q
      cases h1 : r.row with
      | none => rw [h1] at h; cases h
      | some m =>
        rw [h1] at h
        cases h
        rw [List.length_cons, Tgt.put_len h1 q]
  | .name _, _, _, _, _, h, _ => by cases h
  | .tup _, _, _, _, _, h, _ => by cases h
theorem sg_tup {w : Bool} {es : List Expr} {k n : Nat} {pos : Pos} {t : Tgt} (hK : X.K = W.K) (hc : X.calm = true) (h : PGs X es (tGs W g t)) (hr : t.row = some n)
    (hn : (assignEach es X.env).length = n) (hst : (assignEach es X.env).findIdx? (·.1) = none) : PG X (.Tuple es k pos) (tG W w g (.tup t)) := by
  refine pgI (pg_tup (n := n) hc h hn hst) ?_
  rintro x σ H Q ⟨ρ, S, b, O, p, ρ', e, r, q, f⟩
  cases p with
  | tup ps =>
    rcases r with r | ⟨_, ps', a, xs, z, rfl, ha, rs⟩
    · cases r with
      | @tup a xs _ hn rs =>
        refine ⟨a, xs, rfl, ?_, by rw [← rs.length]; exact Tgt.put_len hr q, ρ, S, b, O, ps, ρ', e, rs, q, f⟩
        rw [hK]
        rcases hn with ⟨_, h⟩ | h
        · exact h.sq _
        · exact h.sq
    · cases z
      exact ⟨a, xs, rfl, SqT.of ha, by rw [← rs.length]; exact Tgt.put_len hr q, ρ, S, b, O, ps, ρ', e, rs, q, f⟩
  | _ => cases q

theorem Reps.append {H : Hp} {b : Bn} : ∀ {ps qs : List PV} {xs ys : List V}, Reps W H b ps xs → Reps W H b qs ys → Reps W H b (ps ++ qs) (xs ++ ys)
  | _, _, _, _, .nil, t => t
  | _, _, _, _, .cons r t, u => .cons r (Reps.append t u)
/-! ### fresh things -/
/-- the new object by its value -/
def Mk1 (W : Wd) (H : Hp) (b : Bn) : PV → HO → Prop
  | .lst ps, .lst xs => Reps W H b ps xs
  | .dct ps, .dK xs => RepK W H b ps xs
  | _, _ => False
def tEf (W : Wd) (g : Gh) (E : XK) (d : Den) : TE := fun σ H Q => tF W g E d (fun v _ H' b' => ∀ a o, H' a = none → Mk1 W H' b' v o → Q (.ref a) (upd H' a o)) σ H
theorem Mk1.rep {H : Hp} {b : Bn} {v : PV} {o : HO} {a : Addr} (h : Mk1 W H b v o) (hp : H a = none) (hf : ¬ b.no a) : Rep W (upd H a o) b v (.ref a) := by
  cases v with
  | lst ps =>
    cases o with
    | lst xs => exact .lst (.inl ⟨hf, .inl upd_same⟩) (Reps.grow h (same_upd hp))
    | _ => exact h.elim
  | dct ps =>
    cases o with
    | dK xs =>
      have : RepK W (upd H a (.dK xs)) b ps xs := RepK.step ⟨fun _ => Iff.rfl, ⟨[], by simp⟩, fun _ h n => absurd h n, fun a o e _ => ⟨o, same_upd hp a o e, .refl, fun _ => rfl⟩⟩ h
      exact .dct ⟨hf, .inl upd_same⟩ this
    | _ => exact h.elim
  | _ => exact h.elim
theorem Mk1.owns {H : Hp} {b : Bn} {v : PV} {o : HO} {a : Addr} (h : Mk1 W H b v o) (hp : H a = none) : Owns W (upd H a o) ⟨fun c => b.B c ∨ c = a, b.m⟩ v a := by
  have k : Kp b ⟨fun c => b.B c ∨ c = a, b.m⟩ H (upd H a o) := .of (fun c o' q n => by
    have z : c ≠ a := fun z => by rw [z, hp] at q; cases q
    refine ⟨by rw [upd_ne z]; exact q, fun hn => ?_⟩
    rcases hn with (hn | hn) | hn
    · exact n (.inl hn)
    · exact z hn
    · exact n (.inr hn)) ⟨[], by simp⟩
  cases v with
  | lst ps =>
    cases o with
    | lst xs => exact ⟨xs, upd_same, Reps.kp k h⟩
    | _ => exact h.elim
  | dct ps =>
    cases o with
    | dK xs => exact ⟨xs, upd_same, RepK.kp k h⟩
    | _ => exact h.elim
  | _ => exact h.elim
/-- a fresh thing as a value -/
theorem ev_ef {e : Expr} {d : Den} (h : PE X e (tEf W g E d)) : PE X e (tEv W g E d) := by
  refine peI h ?_
  rintro σ H Q ⟨ρ, S, b, O, en, f⟩
  refine ⟨ρ, S, b, O, en, ?_⟩
  cases q : d ρ S with
  | ok v S' =>
    rw [q] at f
    exact fun H' b' dd a o hp hm => f _ b' (dd.trans (.new dd.st hp)) _ (hm.rep hp ((en.adv dd).fresh hp))
  | exc c v S' => rw [q] at f; exact f
  | bad => rw [q] at f; exact f
theorem sf_lst {es : List Expr} {dr : Den} {pos : Pos} (h : PA X es (tEa W g E dr)) : PE X (.List es pos) (tEf W g E (dLst dr)) := by
  refine peI (pe_lst h) ?_
  intro σ H Q h
  refine (tF.seq (k := fun _ vs S1 => okN (asL vs) (.lst (asL vs)) S1) h).imp fun v S1 H1 b1 s1 ⟨ρ, O, e1, f⟩ xs rs => ?_
  unfold okN at f
  split at f
  · rename_i hl
    exact ⟨len_le rs hl, fun p hp => f H1 b1 (.refl s1) p _ hp rs⟩
  · exact f.elim

/-! ### list comprehensions -/
/-- no exception -/
def XK0 : XK := fun _ _ _ => False
/-- the turns of a block -/
def lcGo (t : Tgt) (tt te : Den) (ρ : Env) : List PV → Store → Rs (List PV)
  | [], S => .ok [] S
  | v :: vs, S => match t.put v ρ with
    | none => .bad
    | some ρ1 => match tt ρ1 S with
      | .ok c S1 => match truth c with
        | some true => match te ρ1 S1 with
          | .ok y S2 => (lcGo t tt te ρ vs S2).bnd fun r S3 => .ok (y :: r) S3
          | _ => .bad
        | some false => lcGo t tt te ρ vs S1
        | none => .bad
      | _ => .bad
def lcK (vs : List Nat) (t : Tgt) (tt te : Den) (ρ : Env) (v : PV) (S1 : Store) : Rs PV :=
  if (asL v).length ≤ sizeLine then (lcGo t tt te (wipeE ρ vs) (asL v) S1).bnd fun r S2 => .ok (.lst r) S2 else .bad
def dLc (vs : List Nat) (t : Tgt) (src tt te : Den) : Den := fun ρ S => (src ρ S).bnd (lcK vs t tt te ρ)
/-- the heap without D -/
def without (H : Hp) (D : Addr) : Hp := fun a => if a = D then none else H a
theorem without_ne {H : Hp} {D a : Addr} (h : a ≠ D) : without H D a = H a := by unfold without; rw [if_neg h]
theorem upd_without {H : Hp} {D : Addr} {o : HO} (h : H D = some o) : upd (without H D) D o = H := by
  funext a
  by_cases z : a = D
  · rw [z, upd_same, h]
  · rw [upd_ne z, without_ne z]
/-- within a block: the state of the turn i -/
structure LcAt (W : Wd) (g : Gh) (P : PV → Store → Hp → Bn → Prop) (E : XK) (t : Tgt) (tt te : Den) (ρw : Env) (O : Addr → Prop) (σw : L2.St) (b1 : Bn) (H1 : Hp) (D : Addr) (ps : List PV) (i : Nat) (H : Hp) (S : Store) (b : Bn) (acc : List V) (pacc : List PV) : Prop where
  e : EnvOk W g ρw S b (fun a => O a ∨ a = D) σw H
  stp : Stp b1 ⟨b1.B, b.m⟩ H1 (without H D)
  bB : ∀ a, b.B a ↔ (b1.B a ∨ a = D)
  hD : H D = some (.lst acc)
  r : Reps W H b pacc acc
  le : pacc.length ≤ i
  il : i ≤ ps.length
  f : fin W E P b1 H1 ((lcGo t tt te ρw (ps.drop i) S).bnd fun r S' => .ok (.lst (pacc ++ r)) S')
theorem lc_imp {w : Bool} {t : Tgt} {src tt te : Den} {vs : List Nat} {σ : L2.St} {H0 : Hp} {Q : VK} (hv : ∀ i ∈ t.slots, i ∈ vs) (h : tEf W g E (dLc vs t src tt te) σ H0 Q) :
    tLc (tI W w g E src) (tG W w g t) (tEt W g XK0 tt) (tEv W g XK0 te) vs σ H0 Q := by
  refine (tF.seq (k := lcK vs t tt te) h).imp fun v S1 H1 b1 s1 ⟨ρ, O, e1, f⟩ J hJ D hD => ?_
  unfold lcK at f
  split at f
  case isFalse => exact f.elim
  rename_i hlen
  generalize hps : asL v = ps at f hlen hJ
  have eo := (e1.wipe vs).own (o := .lst []) hD
  have hDm : D ∉ b1.m := fun q => e1.fresh hD (.inr q)
  have hDs : ∀ (i : Nat) (p : PV), look (wipeE ρ vs) i = .own p → (L2.wipe σ vs)[i]? ≠ some (some (.ref D)) := fun i p q z => by
    have hs := (e1.wipe vs).slot i
    unfold SlOk at hs
    rw [q] at hs
    obtain ⟨a, z2, _, hw⟩ := hs
    rw [z2] at z
    cases z
    obtain ⟨o, z3⟩ := hw.there
    rw [hD] at z3; cases z3
  refine ⟨fun i m H => m = ps.length - i ∧ ∃ S b acc pacc, LcAt W g _ E t tt te (wipeE ρ vs) O (L2.wipe σ vs) b1 H1 D ps i H S b acc pacc, ⟨_, rfl, S1, _, [], [], ⟨eo, ?_, fun a => Iff.rfl, upd_same, .nil, Nat.le_refl _, Nat.zero_le _, f⟩⟩, ?_⟩
  · refine ⟨fun _ => Iff.rfl, ⟨[], by simp⟩, fun a h n => absurd h n, fun a o q n => ⟨o, ?_, .refl, fun _ => rfl⟩⟩
    have z : a ≠ D := fun z => by rw [z, hD] at q; cases q
    rw [without_ne z, upd_ne z]; exact q
  rintro i m H ⟨rfl, S, b, acc, pacc, L⟩
  have hb2 : ∀ a, (⟨b1.B, b.m⟩ : Bn).no a → b.no a := fun a q => by
    rcases q with q | q
    · exact .inl ((L.bB a).mpr (.inl q))
    · exact .inr q
  have hmD : D ∉ b.m := (L.e.oB D (.inr rfl)).2.2
  have kp1 : Kp b1 b H1 H := ⟨fun a o q n => by
    have z : a ≠ D := fun z => by rw [z, hD] at q; cases q
    obtain ⟨o1, q1, k1, _⟩ := L.stp.keep a o q fun h => n (.inr h)
    rw [without_ne z] at q1
    refine ⟨⟨o1, q1, k1⟩, fun hn => ?_⟩
    rcases hn with hn | hn
    · rcases (L.bB a).mp hn with hn | hn
      · exact n (.inl hn)
      · exact z hn
    · exact L.stp.ban q n (.inr hn), L.stp.m⟩
  by_cases hlt : i < ps.length
  case neg =>
    have hie : ps.length ≤ i := Nat.le_of_not_lt hlt
    refine .inl ⟨(hJ H b kp1 (fun p hp => L.e.fresh hp) i).2 hie, ?_⟩
    have f2 := L.f
    rw [List.drop_of_length_le hie] at f2
    simp only [lcGo, Rs.bnd, List.append_nil] at f2
    have kw : Kp b ⟨b1.B, b.m⟩ H (without H D) := .of (fun a o q n => by
      have z : a ≠ D := fun z => n (.inl ((L.bB a).mpr (.inr z)))
      exact ⟨by rw [without_ne z]; exact q, fun q => n (hb2 a q)⟩) ⟨[], by simp⟩
    have adv : Adv W b1 ⟨b1.B, b.m⟩ H1 (without H D) S := ⟨L.stp, L.e.st.kp kw rfl fun a ha => without_ne fun z => hmD (by rw [← z]; exact ha)⟩
    have := f2 _ _ adv D (.lst acc) (by unfold without; rw [if_pos rfl]) (L.r.kp kw)
    rwa [upd_without L.hD] at this
  have hdrop : ps.drop i = ps[i] :: ps.drop (i + 1) := List.drop_eq_getElem_cons hlt
  have hp : ps[i]? = some ps[i] := List.getElem?_eq_getElem hlt
  generalize ps[i] = p at hdrop hp
  obtain ⟨go, yl⟩ := (hJ H b kp1 (fun p hp => L.e.fresh hp) i).1 p hp
  refine .inr ⟨go, fun H' => ∃ S b acc pacc, LcAt W g _ E t tt te (wipeE ρ vs) O (L2.wipe σ vs) b1 H1 D ps (i + 1) H' S b acc pacc, fun H' q => ⟨_, by omega, rfl, q⟩, fun x H' y => ?_⟩
  obtain ⟨gr, rx⟩ := yl x H' y
  have f2 := L.f
  rw [hdrop] at f2
  simp only [lcGo] at f2
  have eH := L.e.adv (.grow L.e.st gr)
  cases q1 : t.put p (wipeE ρ vs) with
  | none => simp only [q1] at f2; exact f2.elim
  | some ρ1 =>
    simp only [q1] at f2
    refine ⟨_, S, b, _, p, ρ1, eH, rx, q1, fun σ2 l2 k2 e2 => ⟨?_, ?_⟩⟩
    · exact (wipe_ext l2 fun i hi => k2 i fun z => hi (hv i z)).trans (wipe_ext (wipe_length σ vs) fun i hi => wipe_get hi)
    refine ⟨ρ1, S, b, _, e2, ?_⟩
    -- what the steps within the turn keep
    have stpN : ∀ {b' : Bn} {H'' : Hp}, Stp b b' H' H'' → Stp b1 ⟨b1.B, b'.m⟩ H1 (without H'' D) := fun {b' H''} s => by
      have c : Stp ⟨b1.B, b.m⟩ ⟨b1.B, b'.m⟩ (without H D) (without H'' D) := ⟨fun _ => Iff.rfl, s.m, fun a ha hn => (by
        have := s.new a ha hn
        have z : a ≠ D := fun z => by
          rw [z] at this
          rw [gr D _ L.hD] at this; cases this
        rw [without_ne z]
        cases hq : H a with
        | none => rfl
        | some o => rw [gr a o hq] at this; cases this), fun a o q n => (by
        by_cases z : a = D
        · rw [z] at q; unfold without at q; rw [if_pos rfl] at q; cases q
        · rw [without_ne z] at q ⊢
          obtain ⟨o1, q1, k1, x1⟩ := s.keep a o (gr a o q) n
          exact ⟨o1, q1, k1, fun h => x1 ((L.bB a).mpr (.inl h))⟩)⟩
      exact L.stp.trans c
    cases q2 : tt ρ1 S with
    | exc c v S' => simp only [q2] at f2; exact f2.elim
    | bad => simp only [q2] at f2; exact f2.elim
    | ok c S2 =>
      simp only [q2] at f2
      intro H3 b3 d3
      cases q3 : truth c with
      | none => simp only [q3] at f2; exact f2.elim
      | some cb =>
        simp only [q3] at f2
        refine ⟨cb, rfl, ?_⟩
        cases cb with
        | false =>
          exact ⟨S2, b3, acc, pacc, eH.adv d3, stpN d3.stp, fun a => (d3.stp.B a).trans (L.bB a), d3.stp.keepL (gr D _ L.hD) hmD, ((L.r.grow gr).step d3.stp), by have := L.le; omega, hlt, f2⟩
        | true =>
          simp only [if_true]
          refine ⟨ρ1, S2, b3, _, e2.adv d3, ?_⟩
          cases q4 : te ρ1 S2 with
          | exc c v S' => simp only [q4] at f2; exact f2.elim
          | bad => simp only [q4] at f2; exact f2.elim
          | ok yv S3 =>
            simp only [q4] at f2
            intro H4 b4 d4 y ry
            have d34 := d3.trans d4
            have hD4 : H4 D = some (.lst acc) := d34.stp.keepL (gr D _ L.hD) hmD
            refine ⟨acc, hD4, ?_, ?_⟩
            · rw [← L.r.length]; have := L.le; omega
            have eu := (eH.adv d34).upd (o := .lst (acc ++ [y])) (.inr rfl) hDs
            have ku : Kp b4 b4 H4 (upd H4 D (.lst (acc ++ [y]))) := .of (fun a o q n => by
              have z : a ≠ D := fun z => n (.inl ((d34.stp.B a).mpr ((L.bB a).mpr (.inr z))))
              exact ⟨by rw [upd_ne z]; exact q, n⟩) ⟨[], by simp⟩
            refine ⟨S3, b4, acc ++ [y], pacc ++ [yv], eu, ?_, fun a => (d34.stp.B a).trans (L.bB a), upd_same, ?_, by rw [List.length_append]; have := L.le; simp; omega, hlt, ?_⟩
            · have := stpN d34.stp
              have z : without (upd H4 D (.lst (acc ++ [y]))) D = without H4 D := by
                funext a
                by_cases z : a = D
                · rw [z]; unfold without; rw [if_pos rfl, if_pos rfl]
                · rw [without_ne z, without_ne z, upd_ne z]
              rw [z]; exact this
            · exact Reps.kp ku (((L.r.grow gr).step d34.stp).append (.cons ry .nil))
            · have z : ((lcGo t tt te (wipeE ρ vs) (ps.drop (i + 1)) S3).bnd fun r S3 => Rs.ok (yv :: r) S3).bnd (fun r S' => Rs.ok (PV.lst (pacc ++ r)) S') = (lcGo t tt te (wipeE ρ vs) (ps.drop (i + 1)) S3).bnd fun r S' => Rs.ok (PV.lst (pacc ++ [yv] ++ r)) S' := by
                cases lcGo t tt te (wipeE ρ vs) (ps.drop (i + 1)) S3 <;> simp [Rs.bnd]
              rw [← z]; exact f2
theorem sf_lc {w : Bool} {elt tg iter : Expr} {ifs : List Expr} {scope : Scope} {own : List (Str × Nat)} {pos : Pos} {t : Tgt} {src tt te : Den} (hc : X.calm = true) (hN : X.N.Nodup) (hi : PI X tg iter (tI W w g E src)) (ok : BlkOk X.N X.env.scope scope own)
    (hv : ∀ i ∈ t.slots, i ∈ own.map (·.2))
    (hg : ∀ (s : Shared) (H : Hp) (C : Addr) (cl : List (Str × Addr)) (fp : List Addr), PG (X.blk s H scope (compEnvC scope cl C X.env) fp) tg (tG W w g t))
    (ht : ∀ (s : Shared) (H : Hp) (C : Addr) (cl : List (Str × Addr)) (fp : List Addr), PTs (X.blk s H scope (compEnvC scope cl C X.env) fp) ifs (tEt W g XK0 tt))
    (he : ∀ (s : Shared) (H : Hp) (C : Addr) (cl : List (Str × Addr)) (fp : List Addr), PE (X.blk s H scope (compEnvC scope cl C X.env) fp) elt (tEv W g XK0 te))
    (hs : ∀ x, foldedSetIterable iter X.env x = pure x) :
    PE X (.ListComp elt [⟨tg, iter, ifs, 0⟩] scope pos) (tEf W g E (dLc (own.map (·.2)) t src tt te)) :=
  peI (pe_lc hc hN hi ok hg ht he hs) fun _ _ _ h => lc_imp hv h
end
end Tg
end
section
set_option Elab.async false
set_option linter.all false
set_option autoImplicit false
set_option maxRecDepth 100000
/-! statements -/
namespace Tg
open PySem PySem.Spec PyProof.Rows L2
inductive Fl where
  | nx (ρ : Env) | rt (v : PV) | bk (ρ : Env) | ct (ρ : Env)
abbrev DenS := Env → Store → Rs Fl
section
variable {X : Cx} {W : Wd} {g : Gh} {E : XK}
/-- what a run leaves, by its ghost -/
structure GhOk (W : Wd) (g : Gh) (S' : Store) (b' : Bn) (H' : Hp) : Prop where
  B : ∀ a, b'.B a ↔ g.B0 a
  m0 : ∃ l, b'.m = g.m0 ++ l
  mn : ∀ a ∈ b'.m, a ∉ g.m0 → g.H0 a = none
  keep : ∀ a o, g.H0 a = some o → a ∉ g.m0 → ¬ g.M0 a → ∃ o', H' a = some o' ∧ Kd o o' ∧ (g.B0 a → o' = o)
  st : StoreOk W H' b' S'
theorem EnvOk.kl {ρ : Env} {S : Store} {b : Bn} {O : Addr → Prop} {σ : L2.St} {H : Hp} (e : EnvOk W g ρ S b O σ H) : Kp b ⟨g.B0, b.m⟩ H H :=
  .less rfl fun a q => by
    rcases q with q | q
    · exact .inl ((e.Bo a).mpr (.inl q))
    · exact .inr q
theorem EnvOk.gh {ρ : Env} {S : Store} {b : Bn} {O : Addr → Prop} {σ : L2.St} {H : Hp} (e : EnvOk W g ρ S b O σ H) : GhOk W g S ⟨g.B0, b.m⟩ H :=
  ⟨fun _ => Iff.rfl, e.m0, e.mn, e.keep, e.st.kp e.kl rfl fun _ _ => rfl⟩
theorem EnvOk.low {ρ : Env} {S : Store} {b : Bn} {O : Addr → Prop} {σ : L2.St} {H : Hp} (e : EnvOk W g ρ S b O σ H) {p : PV} {x : V} (r : Rep W H b p x) : Rep W H ⟨g.B0, b.m⟩ p x := r.kp e.kl
def exG (W : Wd) (g : Gh) (E : XK) (c : Nat) (v : PV) (S' : Store) : Prop := ∀ x d H' b', GhOk W g S' b' H' → Rep W H' b' v x → H' d = some (.xd [("value", x)]) → E (.ref (W.ca c)) (some d) H'
def finS (W : Wd) (g : Gh) (E : XK) (D : Ends) (r : Rs Fl) : Prop := match r with
  | .ok (.nx ρ') S' => ∀ σ' H' b' O', EnvOk W g ρ' S' b' O' σ' H' → D.nx σ' H'
  | .ok (.bk ρ') S' => ∀ σ' H' b' O', EnvOk W g ρ' S' b' O' σ' H' → D.bk σ' H'
  | .ok (.ct ρ') S' => ∀ σ' H' b' O', EnvOk W g ρ' S' b' O' σ' H' → D.ct σ' H'
  | .ok (.rt v) S' => ∀ x H' b', GhOk W g S' b' H' → Rep W H' b' v x → D.rt x H'
  | .exc c v S' => exG W g E c v S'
  | .bad => False
/-- the reading of a statement -/
def tS (W : Wd) (g : Gh) (E : XK) (d : DenS) : TS := fun D σ H => ∃ ρ S b O, EnvOk W g ρ S b O σ H ∧ finS W g E D (d ρ S)
/-- first an expression, then the rest -/
theorem exS {α : Type} {da : Env → Store → Rs α} {k : Env → α → Store → Rs Fl} {D : Ends} {σ : L2.St} {H : Hp} (h : tS W g E (fun ρ S => (da ρ S).bnd (k ρ)) D σ H) :
    tF W g E da (fun v S1 H1 b1 => ∃ ρ O, EnvOk W g ρ S1 b1 O σ H1 ∧ finS W g E D (k ρ v S1)) σ H := by
  obtain ⟨ρ, S, b, O, e, f⟩ := h
  refine ⟨ρ, S, b, O, e, ?_⟩
  replace f : finS W g E D ((da ρ S).bnd (k ρ)) := f
  cases q : da ρ S with
  | ok v S1 =>
    rw [q] at f
    exact fun H' b' d => ⟨ρ, O, e.adv d, f⟩
  | exc c v S1 =>
    rw [q] at f
    intro x d H' b' dd r hd
    exact f x d H' _ (e.adv dd).gh ((e.adv dd).low r) hd
  | bad => rw [q] at f; exact f
theorem finS.imp {D D' : Ends} {r : Rs Fl} (h : finS W g E D r) (h1 : ∀ σ H, D.nx σ H → D'.nx σ H) (h2 : ∀ v H, D.rt v H → D'.rt v H) (h3 : ∀ σ H, D.bk σ H → D'.bk σ H) (h4 : ∀ σ H, D.ct σ H → D'.ct σ H) : finS W g E D' r := by
  cases r with
  | ok f S' =>
    cases f with
    | nx ρ => exact fun σ' H' b' O' e => h1 _ _ (h σ' H' b' O' e)
    | bk ρ => exact fun σ' H' b' O' e => h3 _ _ (h σ' H' b' O' e)
    | ct ρ => exact fun σ' H' b' O' e => h4 _ _ (h σ' H' b' O' e)
    | rt v => exact fun x H' b' q r => h2 _ _ (h x H' b' q r)
  | exc c v S' => exact h
  | bad => exact h

/-! ### the meanings -/
def dSkip : DenS := fun ρ S => .ok (.nx ρ) S
def seqK (d2 : DenS) : Fl → Store → Rs Fl
  | .nx ρ, S => d2 ρ S
  | f, S => .ok f S
def dSeqS (d1 d2 : DenS) : DenS := fun ρ S => (d1 ρ S).bnd (seqK d2)
def dExpr (d : Den) : DenS := fun ρ S => (d ρ S).bnd fun _ S1 => .ok (.nx ρ) S1
def dRet (d : Den) : DenS := fun ρ S => (d ρ S).bnd fun v S1 => .ok (.rt v) S1
def dRetN : DenS := fun _ S => .ok (.rt .non) S
def dBrk : DenS := fun ρ S => .ok (.bk ρ) S
def dCnt : DenS := fun ρ S => .ok (.ct ρ) S
def tstS (v : PV) (k : Bool → Rs Fl) : Rs Fl := match truth v with
  | some b => k b
  | none => .bad
def dIfS (dt : Den) (a b : DenS) : DenS := fun ρ S => (dt ρ S).bnd fun v S1 => tstS v fun c => if c = true then a ρ S1 else b ρ S1
def okE (o : Option Env) (S : Store) : Rs Fl := match o with
  | some ρ => .ok (.nx ρ) S
  | none => .bad
def dAsg (t : Tgt) (d : Den) : DenS := fun ρ S => (d ρ S).bnd fun v S1 => okE (t.put v ρ) S1
def isO : PV → Bool
  | .lst _ => true
  | .dct _ => true
  | _ => false
def dOwn (i : Nat) (d : Den) : DenS := fun ρ S => (d ρ S).bnd fun v S1 => if isO v = true then .ok (.nx (ρ.set i (.own v))) S1 else .bad
/-- from now on a value -/
def dFrz (i : Nat) : DenS := fun ρ S => match look ρ i with
  | .own v => .ok (.nx (ρ.set i (.val v))) S
  | _ => .bad

/-! ### they are right -/
theorem ss_skip : PSs X [] (tS W g E dSkip) := by
  refine pssI pss_nil ?_
  rintro D σ H ⟨ρ, S, b, O, e, f⟩
  exact f σ H b O e
theorem ss_pass {pos : Pos} : PS X (.Pass pos) (tS W g E dSkip) := by
  refine psI ps_pass ?_
  rintro D σ H ⟨ρ, S, b, O, e, f⟩
  exact f σ H b O e
theorem ss_seq {st : Stmt} {rest : List Stmt} {d1 d2 : DenS} (h1 : PS X st (tS W g E d1)) (h2 : PSs X rest (tS W g E d2)) : PSs X (st :: rest) (tS W g E (dSeqS d1 d2)) := by
  refine pssI (pss_cons h1 h2) ?_
  rintro D σ H ⟨ρ, S, b, O, e, f⟩
  refine ⟨ρ, S, b, O, e, ?_⟩
  unfold dSeqS at f
  cases q : d1 ρ S with
  | ok fl S1 =>
    rw [q] at f
    cases fl with
    | nx ρ' => exact fun σ' H' b' O' e' => ⟨ρ', S1, b', O', e', f⟩
    | rt v => exact f
    | bk ρ' => exact f
    | ct ρ' => exact f
  | exc c v S1 => rw [q] at f; exact f
  | bad => rw [q] at f; exact f
theorem ss_one {st : Stmt} {d : DenS} (h : PS X st (tS W g E d)) : PSs X [st] (tS W g E d) := pss_one h
/-- a step without code -/
theorem ss_expr {e : Expr} {d : Den} {pos : Pos} (he : PE X e (tEw W g E d)) (hs : swapsWith e none pos.line X.env = pure false) : PS X (.Expr e pos) (tS W g E (dExpr d)) := by
  refine psI (ps_expr he hs) ?_
  intro D σ H h
  refine (exS h).imp fun v S1 H1 b1 _ ⟨ρ, O, e1, f⟩ x _ => f σ H1 b1 O e1
theorem ss_doc {x j pos pos'} : PS X (.Expr (.Constant (.str x) j pos) pos') (tS W g E dSkip) := by
  refine psI ps_doc ?_
  rintro D σ H ⟨ρ, S, b, O, e, f⟩
  exact f σ H b O e
theorem ss_ret {e : Expr} {d : Den} {pos : Pos} (he : PE X e (tEv W g E d)) : PS X (.Return (some e) pos) (tS W g E (dRet d)) := by
  refine psI (ps_ret he) ?_
  intro D σ H h
  exact (exS h).imp fun v S1 H1 b1 _ ⟨ρ, O, e1, f⟩ x r => f x H1 _ e1.gh (e1.low r)
theorem ss_retN {pos : Pos} : PS X (.Return none pos) (tS W g E dRetN) := by
  refine psI ps_retN ?_
  rintro D σ H ⟨ρ, S, b, O, e, f⟩
  exact f .non H _ e.gh .non
theorem ss_brk {pos : Pos} : PS X (.Break pos) (tS W g E dBrk) := by
  refine psI ps_break ?_
  rintro D σ H ⟨ρ, S, b, O, e, f⟩
  exact f σ H b O e
theorem ss_cnt {pos : Pos} : PS X (.Continue pos) (tS W g E dCnt) := by
  refine psI ps_continue ?_
  rintro D σ H ⟨ρ, S, b, O, e, f⟩
  exact f σ H b O e
theorem ss_if {t : Expr} {a c : List Stmt} {dt : Den} {da db : DenS} {pos : Pos} (ht : PT X t (tEt W g E dt)) (ha : PSs X a (tS W g E da)) (hb : PSs X c (tS W g E db)) : PS X (.If t a c pos) (tS W g E (dIfS dt da db)) := by
  refine psI (ps_if ht ha hb) ?_
  intro D σ H h
  refine (exS h).imp fun v S1 H1 b1 _ ⟨ρ, O, e1, f⟩ => ?_
  unfold tstS at f
  cases q : truth v with
  | none => rw [q] at f; exact f.elim
  | some k =>
    rw [q] at f
    refine ⟨k, rfl, ?_⟩
    cases k with
    | true => exact ⟨ρ, S1, b1, O, e1, f⟩
    | false => exact ⟨ρ, S1, b1, O, e1, f⟩
theorem asg_end {t : Tgt} {v : PV} {x : V} {ρ : Env} {S1 : Store} {b1 : Bn} {O : Addr → Prop} {σ : L2.St} {H1 : Hp} {D : Ends} (e1 : EnvOk W g ρ S1 b1 O σ H1) (f : finS W g E D (okE (t.put v ρ) S1)) (r : Rep W H1 b1 v x) : tG W false g t x σ H1 D.nx := by
  cases q : t.put v ρ with
  | none => rw [q] at f; exact f.elim
  | some ρ' =>
    rw [q] at f
    exact ⟨ρ, S1, b1, O, v, ρ', e1, .inl r, q, fun σ' _ _ e' => f σ' H1 b1 O e'⟩
theorem ss_asg {tg e : Expr} {d : Den} {t : Tgt} {pos : Pos} (he : PE X e (tEv W g E d)) (hg : PG X tg (tG W false g t)) (hs : swapsWithSole [tg] e pos.line X.env = pure false) (hw : swappedStores [tg] e X.env = pure none)
    (h1 : (assignEach [tg] X.env).map (·.2) = [assign tg X.env]) : PS X (.Assign [tg] e pos) (tS W g E (dAsg t d)) := by
  refine psI (ps_asg he hg hs hw h1) ?_
  intro D σ H h
  exact (exS h).imp fun v S1 H1 b1 _ ⟨ρ, O, e1, f⟩ x r => asg_end e1 f r
/-- a slot is set to a new thing, owned -/
theorem EnvOk.setO {ρ : Env} {S : Store} {b : Bn} {O : Addr → Prop} {σ : L2.St} {H : Hp} (e : EnvOk W g ρ S b O σ H) {a : Addr} {o : HO} {v : PV} (i : Nat) (ha : H a = none) (hm : Mk1 W H b v o) :
    EnvOk W g (ρ.set i (.own v)) S ⟨fun c => b.B c ∨ c = a, b.m⟩ (fun c => O c ∨ c = a) (σ.set i (some (.ref a))) (L2.upd H a o) := by
  have e1 := e.own (o := o) ha
  have lk : ∀ j, look (ρ.set i (.own v)) j = if i = j ∧ j < ρ.length then .own v else look ρ j := fun j => by
    unfold look
    by_cases h : i = j
    · subst h
      by_cases hl : i < ρ.length
      · rw [List.getElem?_set_self hl, if_pos ⟨rfl, hl⟩]; rfl
      · rw [if_neg (fun z => hl z.2), List.set_eq_of_length_le (by omega)]
    · rw [List.getElem?_set_ne h, if_neg (fun z => h z.1)]
  have z : ∀ j, ¬ (i = j ∧ j < ρ.length) → (σ.set i (some (V.ref a)))[j]? = σ[j]? := fun j n => by
    by_cases hi : i = j
    · subst hi
      have hl : ρ.length ≤ i := Nat.le_of_not_lt fun q => n ⟨rfl, q⟩
      rw [List.set_eq_of_length_le (by rw [← e.len]; exact hl)]
    · rw [List.getElem?_set_ne hi]
  have na : ∀ j p c, look ρ j = .own p → σ[j]? = some (some (.ref c)) → c ≠ a := fun j p c h1 h2 h3 => by
    have hs := e.slot j
    unfold SlOk at hs
    rw [h1] at hs
    obtain ⟨c', h4, _, hw⟩ := hs
    rw [h2] at h4
    cases h4
    obtain ⟨o', h5⟩ := hw.there
    rw [h3, ha] at h5; cases h5
  exact
  { e1 with
    len := by rw [List.length_set, List.length_set]; exact e.len
    slot := fun j => by
      rw [lk]
      by_cases h : i = j ∧ j < ρ.length
      · rw [if_pos h]
        obtain ⟨rfl, hl⟩ := h
        exact ⟨a, List.getElem?_set_self (by rw [← e.len]; exact hl), .inr rfl, hm.owns ha⟩
      · rw [if_neg h, z j h]
        exact e1.slot j
    inj := fun j k p1 q1 c h1 h2 e1 e2 => by
      rw [lk] at h1 h2
      split at h1
      · rename_i hj
        split at h2
        · rename_i hk
          exact hj.1.symm.trans hk.1
        · rename_i hk
          rw [z k hk] at e2
          have : c = a := by
            rw [← hj.1, List.getElem?_set_self (by rw [← e.len, hj.1]; exact hj.2)] at e1
            cases e1; rfl
          exact absurd this (na k q1 c h2 e2)
      · rename_i hj
        rw [z j hj] at e1
        split at h2
        · rename_i hk
          have : c = a := by
            rw [← hk.1, List.getElem?_set_self (by rw [← e.len, hk.1]; exact hk.2)] at e2
            cases e2; rfl
          exact absurd this (na j p1 c h1 e1)
        · rename_i hk
          rw [z k hk] at e2
          exact e.inj j k p1 q1 c h1 h2 e1 e2 }
theorem ss_own {i : Nat} {x : Str} {e : Expr} {d : Den} {pos pos' : Pos} (hN : X.N.Nodup) (hi : X.N[i]? = some x) (hx : Loc X.env.scope x) (he : PE X e (tEf W g E d)) (hs : swapsWith e (some (.Name x pos')) pos.line X.env = pure false) (hf : X.fn x = true ∨ X.env.scope.names.lookup x = some .local) :
    PS X (.Assign [.Name x pos'] e pos) (tS W g E (dOwn i d)) := by
  refine psI (ps_set hN hi hx he hs hf) ?_
  intro D σ H h
  refine (exS h).imp fun v S1 H1 b1 _ ⟨ρ, O, e1, f⟩ a o ha hm => ?_
  split at f
  · exact f _ _ _ _ (e1.setO i ha hm)
  · exact f.elim
theorem EnvOk.nB0 {ρ : Env} {S : Store} {b : Bn} {O : Addr → Prop} {σ : L2.St} {H : Hp} (e : EnvOk W g ρ S b O σ H) {a : Addr} (hO : O a) : ¬ g.B0 a := fun q => by
  rcases (e.oB a hO).2.1 with h | h
  · obtain ⟨o, z⟩ := e.B0t a q
    rw [h] at z; cases z
  · exact e.BM a h q
/-- what was owned is a value now -/
theorem EnvOk.frz {ρ : Env} {S : Store} {b : Bn} {O : Addr → Prop} {σ : L2.St} {H : Hp} (e : EnvOk W g ρ S b O σ H) {i : Nat} {v : PV} (h : look ρ i = .own v) :
    ∃ b' O', EnvOk W g (ρ.set i (.val v)) S b' O' σ H := by
  have hs := e.slot i
  unfold SlOk at hs
  rw [h] at hs
  obtain ⟨a, h1, hO, hw⟩ := hs
  have hb := e.oB a hO
  have hil : i < ρ.length := by
    rw [e.len]
    exact (List.getElem?_eq_some_iff.mp h1).1
  have haB0 : ¬ g.B0 a := e.nB0 hO
  have k : Kp b ⟨fun c => b.B c ∧ c ≠ a, b.m⟩ H H := .less rfl fun c q => by
    rcases q with q | q
    · exact .inl q.1
    · exact .inr q
  have lk : ∀ j, look (ρ.set i (.val v)) j = if i = j then .val v else look ρ j := fun j => by
    unfold look
    by_cases h : i = j
    · subst h
      rw [List.getElem?_set_self hil, if_pos rfl]; rfl
    · rw [List.getElem?_set_ne h, if_neg h]
  have hrep : Rep W H ⟨fun c => b.B c ∧ c ≠ a, b.m⟩ v (.ref a) := by
    have hn : ¬ (⟨fun c => b.B c ∧ c ≠ a, b.m⟩ : Bn).no a := fun q => by
      rcases q with q | q
      · exact q.2 rfl
      · exact hb.2.2 q
    cases v with
    | lst ps =>
      obtain ⟨xs, q, r⟩ := hw
      exact .lst (.inl ⟨hn, .inl q⟩) (Reps.kp k r)
    | dct ps =>
      obtain ⟨xs, q, r⟩ := hw
      exact .dct ⟨hn, .inl q⟩ (RepK.kp k r)
    | _ => exact hw.elim
  refine ⟨⟨fun c => b.B c ∧ c ≠ a, b.m⟩, fun c => O c ∧ c ≠ a,
  { e with
    len := by rw [List.length_set]; exact e.len
    slot := fun j => by
      rw [lk]
      by_cases hj : i = j
      · rw [if_pos hj]
        subst hj
        exact ⟨_, h1, hrep⟩
      · rw [if_neg hj]
        have hs := e.slot j
        unfold SlOk at hs ⊢
        cases q : look ρ j with
        | no => trivial
        | val p =>
          rw [q] at hs
          obtain ⟨w, e1, r⟩ := hs
          exact ⟨w, e1, r.kp k⟩
        | own p =>
          rw [q] at hs
          obtain ⟨c, e1, o1, r⟩ := hs
          refine ⟨c, e1, ⟨o1, fun z => hj (e.inj i j v p a h q h1 (by rw [← z]; exact e1))⟩, r.kp k fun _ q => q⟩
    inj := fun j l p q c h2 h3 e1 e2 => by
      rw [lk] at h2 h3
      split at h2
      · cases h2
      · split at h3
        · cases h3
        · exact e.inj j l p q c h2 h3 e1 e2
    oB := fun c hc => ⟨⟨(e.oB c hc.1).1, hc.2⟩, (e.oB c hc.1).2⟩
    Bo := fun c => by
      constructor
      · rintro ⟨q, n⟩
        rcases (e.Bo c).mp q with q | q
        · exact .inl q
        · exact .inr ⟨q, n⟩
      · rintro (q | q)
        · exact ⟨(e.Bo c).mpr (.inl q), fun z => haB0 (by rw [← z]; exact q)⟩
        · exact ⟨(e.Bo c).mpr (.inr q.1), q.2⟩
    tr := fun c q => e.tr c (by
      rcases q with q | q
      · exact .inl q.1
      · exact .inr q)
    st := e.st.kp k rfl fun _ _ => rfl }⟩
end
end Tg
end
section
set_option Elab.async false
set_option linter.all false
set_option maxRecDepth 100000
/-! loops, writes -/
namespace Tg
open PySem PySem.Spec PyProof.Rows L2
section
variable {X : Cx} {W : Wd} {g : Gh} {E : XK}
/-- a loop's own ghost -/
def Gh.in (g : Gh) (H1 : Hp) (b1 : Bn) (O : Addr → Prop) : Gh := ⟨H1, b1.m, g.B0, O⟩
section
variable {ρ : Env} {S : Store} {b : Bn} {O : Addr → Prop} {σ : L2.St} {H : Hp}
theorem EnvOk.nest (e : EnvOk W g ρ S b O σ H) : EnvOk W (g.in H b O) ρ S b O σ H :=
  { e with
    oB := fun a h => ⟨(e.oB a h).1, .inr h, (e.oB a h).2.2⟩
    B0t := fun a h => e.tr a (.inl ((e.Bo a).mpr (.inl h)))
    BM := fun a h => e.nB0 h
    m0 := ⟨[], by simp [Gh.in]⟩
    mn := fun a h n => absurd h n
    mt := fun a h => e.tr a (.inl (e.oB a h).1)
    keep := fun a o q _ _ => ⟨o, q, .refl, fun _ => rfl⟩ }
/-- what was, seen from the loop's begin -/
theorem EnvOk.back (e : EnvOk W g ρ S b O σ H) : (∀ a o, g.H0 a = some o → a ∉ g.m0 → ¬ g.M0 a → (∃ o', H a = some o' ∧ Kd o o' ∧ (g.B0 a → o' = o)) ∧ a ∉ b.m ∧ ¬ O a) ∧ ∀ a, H a = none → g.H0 a = none := by
  refine ⟨fun a o q n1 n2 => ⟨e.keep a o q n1 n2, fun z => ?_, fun z => ?_⟩, fun a h => e.new0 h⟩
  · rw [e.mn a z n1] at q; cases q
  · rcases (e.oB a z).2.1 with h | h
    · rw [h] at q; cases q
    · exact n2 h
theorem EnvOk.unnest (e : EnvOk W g ρ S b O σ H) {ρ' : Env} {S' : Store} {b' : Bn} {O' : Addr → Prop} {σ' : L2.St} {H' : Hp} (e' : EnvOk W (g.in H b O) ρ' S' b' O' σ' H') : EnvOk W g ρ' S' b' O' σ' H' :=
  { e' with
    oB := fun a h => by
      obtain ⟨h1, h2, h3⟩ := e'.oB a h
      refine ⟨h1, ?_, h3⟩
      rcases h2 with h2 | h2
      · exact .inl (e.new0 h2)
      · exact (e.oB a h2).2.1
    Bo := e'.Bo
    B0t := e.B0t
    BM := e.BM
    m0 := by
      obtain ⟨l, q⟩ := e.m0
      obtain ⟨l', q'⟩ := e'.m0
      exact ⟨l ++ l', by rw [q']; show b.m ++ l' = _; rw [q, List.append_assoc]⟩
    mn := fun a h n => by
      by_cases q : a ∈ b.m
      · exact e.mn a q n
      · exact e.new0 (e'.mn a h q)
    mt := fun a h => by
      obtain ⟨o, q⟩ := e.mt a h
      by_cases hm : a ∈ b.m
      · obtain ⟨l', q'⟩ := e'.m0
        exact e'.st.there (by rw [q']; exact List.mem_append_left _ hm)
      · by_cases hO : O a
        · exact e'.mt a hO
        · obtain ⟨o', q', _⟩ := e'.keep a o q hm hO
          exact ⟨o', q'⟩
    keep := fun a o q n1 n2 => by
      obtain ⟨⟨o1, h1, k1, x1⟩, h2, h3⟩ := e.back.1 a o q n1 n2
      obtain ⟨o2, q2, k2, x2⟩ := e'.keep a o1 h1 h2 h3
      exact ⟨o2, q2, k1.trans k2, fun z => (x2 z).trans (x1 z)⟩ }
theorem GhOk.unnest (e : EnvOk W g ρ S b O σ H) {S' : Store} {b' : Bn} {H' : Hp} (e' : GhOk W (g.in H b O) S' b' H') : GhOk W g S' b' H' where
  B := e'.B
  m0 := by
    obtain ⟨l, q⟩ := e.m0
    obtain ⟨l', q'⟩ := e'.m0
    exact ⟨l ++ l', by rw [q']; show b.m ++ l' = _; rw [q, List.append_assoc]⟩
  mn := fun a h n => by
    by_cases q : a ∈ b.m
    · exact e.mn a q n
    · exact e.new0 (e'.mn a h q)
  keep := fun a o q n1 n2 => by
    obtain ⟨⟨o1, h1, k1, x1⟩, h2, h3⟩ := e.back.1 a o q n1 n2
    obtain ⟨o2, q2, k2, x2⟩ := e'.keep a o1 h1 h2 h3
    exact ⟨o2, q2, k1.trans k2, fun z => (x2 z).trans (x1 z)⟩
  st := e'.st
theorem EnvOk.kpIn (e : EnvOk W g ρ S b O σ H) {ρ' : Env} {S' : Store} {b' : Bn} {O' : Addr → Prop} {σ' : L2.St} {H' : Hp} (e' : EnvOk W (g.in H b O) ρ' S' b' O' σ' H') : Kp b b' H H' :=
  ⟨fun a o q n => (by
    have hO : ¬ O a := fun z => n (.inl (e.oB a z).1)
    obtain ⟨o1, q1, k1, _⟩ := e'.keep a o q (fun z => n (.inr z)) hO
    refine ⟨⟨o1, q1, k1⟩, fun z => ?_⟩
    rcases z with z | z
    · rcases (e'.Bo a).mp z with z | z
      · exact n (.inl ((e.Bo a).mpr (.inl z)))
      · rcases (e'.oB a z).2.1 with h | h
        · have h : H a = none := h
          rw [h] at q; cases q
        · exact hO h
    · have h : H a = none := e'.mn a z fun z => n (.inr z)
      rw [h] at q; cases q), e'.m0⟩
end
theorem finS.nest {ρ : Env} {S : Store} {b : Bn} {O : Addr → Prop} {σ : L2.St} {H : Hp} (e : EnvOk W g ρ S b O σ H) {D : Ends} {r : Rs Fl} (h : finS W g E D r) : finS W (g.in H b O) E D r := by
  cases r with
  | ok f S' =>
    cases f with
    | nx ρ => exact fun σ' H' b' O' e' => h σ' H' b' O' (e.unnest e')
    | bk ρ => exact fun σ' H' b' O' e' => h σ' H' b' O' (e.unnest e')
    | ct ρ => exact fun σ' H' b' O' e' => h σ' H' b' O' (e.unnest e')
    | rt v => exact fun x H' b' q r => h x H' b' (q.unnest e) r
  | exc c v S' => exact fun x d H' b' q r hd => h x d H' b' (q.unnest e) r hd
  | bad => exact h

/-! ### loops -/
def whK (rec : DenS) : Fl → Store → Rs Fl
  | .nx ρ, S => rec ρ S
  | .ct ρ, S => rec ρ S
  | .bk ρ, S => .ok (.nx ρ) S
  | .rt v, S => .ok (.rt v) S
def dWh (dt : Den) (db : DenS) : Nat → DenS
  | 0 => fun _ _ => .bad
  | n + 1 => fun ρ S => (dt ρ S).bnd fun v S1 => tstS v fun c => if c = true then (db ρ S1).bnd (whK (dWh dt db n)) else .ok (.nx ρ) S1
def forGo (t : Tgt) (db : DenS) : List PV → DenS
  | [] => fun ρ S => .ok (.nx ρ) S
  | v :: vs => fun ρ S => match t.put v ρ with
    | none => .bad
    | some ρ1 => (db ρ1 S).bnd (whK (forGo t db vs))
def dFor (t : Tgt) (src : Den) (db : DenS) : DenS := fun ρ S => (src ρ S).bnd fun v S1 => forGo t db (asL v) ρ S1
/-- a turn's end -/
theorem finS.turn {D : Ends} {r : Rs Fl} {rec : DenS} {N : L2.St → Hp → Prop} (h : finS W g E D (r.bnd (whK rec))) (hN : ∀ ρ' S' σ' H' b' O', EnvOk W g ρ' S' b' O' σ' H' → finS W g E D (rec ρ' S') → N σ' H') :
    finS W g E { D with nx := N, ct := N, bk := D.nx } r := by
  cases r with
  | ok f S' =>
    cases f with
    | nx ρ => exact fun σ' H' b' O' e' => hN ρ S' σ' H' b' O' e' h
    | ct ρ => exact fun σ' H' b' O' e' => hN ρ S' σ' H' b' O' e' h
    | bk ρ => exact h
    | rt v => exact h
  | exc c v S' => exact h
  | bad => exact h
theorem ss_while {c : Expr} {body : List Stmt} {dt : Den} {db : DenS} {pos : Pos} (n : Nat) (hp : PassesOwn (model X.prog X.w) X.A X.env X.xe) (hc : PT X c (tEt W g E dt)) (hb : PSs X body (tS W g E db)) : PS X (.While c body [] pos) (tS W g E (dWh dt db n)) := by
  refine psI (ps_while hp hc hb) ?_
  intro D σ H h
  refine ⟨fun m σ H => tS W g E (dWh dt db m) D σ H, ⟨n, h⟩, ?_⟩
  intro m σ H h
  cases m with
  | zero =>
    obtain ⟨ρ, S, b, O, e, f⟩ := h
    exact f.elim
  | succ m =>
    refine (exS h).imp fun v S1 H1 b1 _ ⟨ρ, O, e1, f⟩ => ?_
    unfold tstS at f
    cases q : truth v with
    | none => rw [q] at f; exact f.elim
    | some k =>
      rw [q] at f
      refine ⟨k, rfl, ?_⟩
      cases k with
      | false => exact f σ H1 b1 O e1
      | true =>
        simp only [if_true] at f ⊢
        exact ⟨fun σ' H' => tS W g E (dWh dt db m) D σ' H', fun σ' H' q => ⟨m, Nat.lt_succ_self m, q⟩, ρ, S1, b1, O, e1, finS.turn f fun ρ' S' σ' H' b' O' e' f' => ⟨ρ', S', b', O', e', f'⟩⟩
theorem ss_for {w : Bool} {tg iter : Expr} {body : List Stmt} {t : Tgt} {src : Den} {db : DenS} {pos : Pos} (hp : PassesOwn (model X.prog X.w) X.A X.env X.xe) (hc : X.calm = true) (hi : PI X tg iter (tI W w g E src)) (hg : ∀ g, PG X tg (tG W w g t)) (hb : ∀ g, PSs X body (tS W g E db))
    (hs : ∀ x, foldedSetIterable iter X.env x = pure x) : PS X (.For tg iter body [] pos) (tS W g E (dFor t src db)) := by
  have hg' : PG X tg (fun v σ H Q => ∃ g, tG W w g t v σ H Q) := ⟨fun pins s σ H v u Q I r ⟨g, q⟩ => (hg g).run pins s σ H v u Q I r q⟩
  have hb' : PSs X body (fun D σ H => ∃ g, tS W g E db D σ H) := ⟨fun pins s σ H D I ⟨g, q⟩ => (hb g).run pins s σ H D I q⟩
  refine psI (ps_for hp hc hi hg' hb' hs) ?_
  intro D σ0 H0 h
  refine (exS h).imp fun v S1 H1 b1 s1 ⟨ρ0, O0, e1, f⟩ J hJ => ?_
  generalize asL v = ps at f hJ
  refine ⟨fun i m σ H => m = ps.length - i ∧ i ≤ ps.length ∧ ∃ ρ S b O, EnvOk W (g.in H1 b1 O0) ρ S b O σ H ∧ finS W (g.in H1 b1 O0) E D (forGo t db (ps.drop i) ρ S), ⟨_, rfl, Nat.zero_le _, ρ0, S1, b1, O0, e1.nest, finS.nest e1 f⟩, ?_⟩
  rintro i m σ H ⟨rfl, hi, ρ, S, b, O, e, f⟩
  have sj := hJ H b (e1.kpIn e) (fun p hp => e.fresh hp) i
  by_cases hlt : i < ps.length
  case neg =>
    have hie : ps.length ≤ i := Nat.le_of_not_lt hlt
    rw [List.drop_of_length_le hie] at f
    exact .inl ⟨sj.2 hie, f σ H b O e⟩
  have hdrop : ps.drop i = ps[i] :: ps.drop (i + 1) := List.drop_eq_getElem_cons hlt
  have hp : ps[i]? = some ps[i] := List.getElem?_eq_getElem hlt
  generalize ps[i] = p at hdrop hp
  obtain ⟨go, yl⟩ := sj.1 p hp
  refine .inr ⟨go, fun σ' H' => ∃ ρ S b O, EnvOk W (g.in H1 b1 O0) ρ S b O σ' H' ∧ finS W (g.in H1 b1 O0) E D (forGo t db (ps.drop (i + 1)) ρ S), fun σ' H' q => ⟨_, by omega, rfl, hlt, q⟩, fun x H' y => ⟨g.in H1 b1 O0, ?_⟩⟩
  obtain ⟨gr, rx⟩ := yl x H' y
  rw [hdrop] at f
  simp only [forGo] at f
  cases q1 : t.put p ρ with
  | none => simp only [q1] at f; exact f.elim
  | some ρ1 =>
    simp only [q1] at f
    exact ⟨ρ, S, b, O, p, ρ1, e.adv (.grow e.st gr), rx, q1, fun σ2 _ _ e2 => ⟨g.in H1 b1 O0, ρ1, S, b, O, e2, finS.turn f fun ρ' S' σ' H' b' O' e' f' => ⟨ρ', S', b', O', e', f'⟩⟩⟩
end
end Tg
end
section
set_option Elab.async false
set_option linter.all false
set_option autoImplicit false
set_option maxRecDepth 100000
/-! writes of what is owned; rows of assignments -/
namespace Tg
open PySem PySem.Spec PyProof.Rows L2
section
variable {X : Cx} {W : Wd} {g : Gh} {E : XK}
/-- an owned thing is written -/
theorem EnvOk.wr {ρ : Env} {S : Store} {b : Bn} {O : Addr → Prop} {σ : L2.St} {H : Hp} (e : EnvOk W g ρ S b O σ H) {i : Nat} {p p' : PV} {a : Addr} {o : HO} (h : look ρ i = .own p) (h1 : σ[i]? = some (some (.ref a))) (hm : Owns W (L2.upd H a o) b p' a) :
    EnvOk W g (ρ.set i (.own p')) S b O σ (L2.upd H a o) := by
  have hil : i < ρ.length := by
    rw [e.len]
    exact (List.getElem?_eq_some_iff.mp h1).1
  have hs := e.slot i
  unfold SlOk at hs
  rw [h] at hs
  obtain ⟨a', h1', hO, hw⟩ := hs
  rw [h1] at h1'
  cases h1'
  have e0 : EnvOk W g (ρ.set i .no) S b O σ H := by
    have lk : ∀ j, look (ρ.set i .no) j = if i = j then .no else look ρ j := fun j => by
      unfold look
      by_cases h : i = j
      · subst h
        rw [List.getElem?_set_self hil, if_pos rfl]; rfl
      · rw [List.getElem?_set_ne h, if_neg h]
    exact { e with
      len := by rw [List.length_set]; exact e.len
      slot := fun j => by
        rw [lk]
        by_cases hj : i = j
        · rw [if_pos hj]; trivial
        · rw [if_neg hj]; exact e.slot j
      inj := fun j l p q c h2 h3 e1 e2 => by
        rw [lk] at h2 h3
        split at h2
        · cases h2
        · split at h3
          · cases h3
          · exact e.inj j l p q c h2 h3 e1 e2 }
  have lk0 : ∀ j, look (ρ.set i .no) j = if i = j then .no else look ρ j := fun j => by
    unfold look
    by_cases h : i = j
    · subst h
      rw [List.getElem?_set_self hil, if_pos rfl]; rfl
    · rw [List.getElem?_set_ne h, if_neg h]
  have nj : ∀ (j : Nat) (p : PV), look (ρ.set i .no) j = .own p → σ[j]? ≠ some (some (.ref a)) := fun j q hq hz => by
    rw [lk0] at hq
    split at hq
    · cases hq
    · rename_i hne
      exact hne (e.inj i j p q a h hq h1 hz)
  have e1 := e0.upd (o := o) hO nj
  have lk : ∀ j, look (ρ.set i (.own p')) j = if i = j then .own p' else look (ρ.set i .no) j := fun j => by
    rw [lk0]
    unfold look
    by_cases h : i = j
    · subst h
      rw [List.getElem?_set_self hil, if_pos rfl]; rfl
    · rw [List.getElem?_set_ne h, if_neg h, if_neg h]
  exact { e1 with
    len := by rw [List.length_set]; exact e.len
    slot := fun j => by
      rw [lk]
      by_cases hj : i = j
      · rw [if_pos hj]
        subst hj
        exact ⟨a, h1, hO, hm⟩
      · rw [if_neg hj]; exact e1.slot j
    inj := fun j l q1 q2 c h2 h3 z1 z2 => by
      rw [lk] at h2 h3
      split at h2
      · rename_i hj
        split at h3
        · rename_i hl
          exact hj.symm.trans hl
        · rw [← hj, h1] at z1
          cases z1
          exact absurd z2 (nj l q2 h3)
      · split at h3
        · rename_i hl
          rw [← hl, h1] at z2
          cases z2
          exact absurd z1 (nj j q1 h2)
        · exact e1.inj j l q1 q2 c h2 h3 z1 z2 }
/-- what the values lean on is not what is owned -/
theorem EnvOk.kw {ρ : Env} {S : Store} {b : Bn} {O : Addr → Prop} {σ : L2.St} {H : Hp} (e : EnvOk W g ρ S b O σ H) {a : Addr} {o : HO} (hO : O a) : Kp b b H (L2.upd H a o) :=
  .of (fun c o' q n => ⟨by rw [upd_ne (fun z => n (by rw [z]; exact .inl (e.oB a hO).1))]; exact q, n⟩) ⟨[], by simp⟩
theorem EnvOk.ownAt {ρ : Env} {S : Store} {b : Bn} {O : Addr → Prop} {σ : L2.St} {H : Hp} (e : EnvOk W g ρ S b O σ H) {i : Nat} {p : PV} (h : look ρ i = .own p) : ∃ a, σ[i]? = some (some (.ref a)) ∧ O a ∧ Owns W H b p a := by
  have hs := e.slot i
  unfold SlOk at hs
  rw [h] at hs
  exact hs

/-! ### frz -/
theorem ss_frz {i : Nat} {rest : List Stmt} {d2 : DenS} (h2 : PSs X rest (tS W g E d2)) : PSs X rest (tS W g E (dSeqS (dFrz i) d2)) := by
  refine pssI h2 ?_
  rintro D σ H ⟨ρ, S, b, O, e, f⟩
  unfold dSeqS dFrz at f
  cases q : look ρ i with
  | no => rw [q] at f; exact f.elim
  | val v => rw [q] at f; exact f.elim
  | own v =>
    rw [q] at f
    obtain ⟨b', O', e'⟩ := e.frz q
    exact ⟨_, S, b', O', e', f⟩

/-! ### x.append(e) -/
def appV : Sl → PV → Option PV
  | .own (.lst l), v => if l.length < sizeLine then some (.lst (l ++ [v])) else none
  | _, _ => none
def setO (i : Nat) (o : Option PV) (ρ : Env) (S : Store) : Rs Fl := match o with
  | some p => .ok (.nx (ρ.set i (.own p))) S
  | none => .bad
/-- the slot is seen before: an owned list, dict -/
def hasO (i : Nat) (ρ : Env) : Bool := match look ρ i with
  | .own _ => true
  | _ => false
def dApp (i : Nat) (dr : Den) : DenS := fun ρ S => if hasL (look ρ i) = true then (dr ρ S).bnd fun vs S1 => match asL vs with
  | [v] => setO i (appV (look ρ i) v) ρ S1
  | _ => .bad
  else .bad
where hasL : Sl → Bool
  | .own (.lst _) => true
  | _ => false
theorem ss_app {i : Nat} {x : Str} {e : Expr} {dr : Den} {p0 apos cpos pos : Pos} (hK : X.K = W.K) (hN : X.N[i]? = some x) (hv : Vis X.env.scope x) (hd : (x == ("__debug__" : Str)) = false) (hcd : (x == ("__classdict__" : Str)) = false)
    (ha : PA X [e] (tEa W g E dr)) (hbase : attributeBase (.Name x p0) "append" X.env (eval (.Name x p0) X.env) = eval (.Name x p0) X.env) (hline : (apos.endLine == cpos.line) = true)
    (hfew : ((backTo cpos (starEach [e] X.env)).all (fun x => !x.1) && (backToKw cpos (keywordEach [] X.env)).all (fun x => x.1.isSome)
      && decide (([e] : List Expr).length + ([] : List Keyword).length + (if ([] : List Keyword).isEmpty then 0 else 1) < 30)) = true)
    (hs : starEach [e] X.env = (false, eval e X.env) :: starEach [] X.env) (hplain : (backTo cpos (starEach [] X.env)).any (·.1) = false)
    (hsw : swapsWith (.Call (.Attribute (.Name x p0) "append" apos) [e] [] cpos) none pos.line X.env = pure false) :
    PS X (.Expr (.Call (.Attribute (.Name x p0) "append" apos) [e] [] cpos) pos) (tS W g E (dApp i dr)) := by
  refine psI (ps_expr (pe_bm PySem.F.plainAttrs_list PySem.F.slot_list_append PySem.F.type_list_append mt_append (pe_var hN hv hd hcd) ha hbase hfew hline hs hplain) hsw) ?_
  rintro D σ H h
  obtain ⟨ρ, S, b, O, en, f⟩ := h
  unfold dApp at f
  split at f
  case isFalse => exact f.elim
  rename_i hl
  unfold dApp.hasL at hl
  split at hl
  case h_2 => cases hl
  rename_i l hq
  obtain ⟨a, h1, hO, xs, hx, rx⟩ := en.ownAt hq
  refine ⟨_, h1, .inl ⟨rfl, xs, hK ▸ SqL.of hx⟩, ?_⟩
  refine (exS (k := fun ρ vs S1 => match asL vs with
    | [v] => setO i (appV (look ρ i) v) ρ S1
    | _ => .bad) ⟨ρ, S, b, O, en, f⟩).imp fun v S1 H1 b1 _ ⟨ρ1, O1, e1, f1⟩ ys ry => ?_
  split at f1
  case h_2 => exact f1.elim
  rename_i v1 hv1
  rw [hv1] at ry
  cases ry with
  | cons r t =>
    cases t
    unfold appV at f1
    cases hq1 : look ρ1 i with
    | no => simp only [hq1] at f1; exact f1.elim
    | val _ => simp only [hq1] at f1; exact f1.elim
    | own p =>
      cases p with
      | lst l1 =>
        simp only [hq1] at f1
        split at f1
        · rename_i hlen
          obtain ⟨a1, h11, hO1, xs1, hx1, rx1⟩ := e1.ownAt hq1
          rw [h1] at h11
          cases h11
          refine ⟨a, xs1, _, rfl, rfl, hx1, by rw [← rx1.length]; exact hlen, ?_⟩
          refine f1 _ _ _ _ (e1.wr hq1 h1 ⟨_, upd_same, ?_⟩)
          exact Reps.kp (e1.kw hO1) (rx1.append (.cons r .nil))
        · exact f1.elim
      | _ => simp only [hq1] at f1; exact f1.elim

/-! ### x[k] = e -/
/-- a cell's list is written -/
theorem EnvOk.wrC {ρ : Env} {S : Store} {b : Bn} {O : Addr → Prop} {σ : L2.St} {H : Hp} (e : EnvOk W g ρ S b O σ H) {c : Nat} {a : Addr} {ps : List PV} {xs : List V} (h : b.m[c]? = some a) (r : Reps W H b ps xs) :
    EnvOk W g ρ (S.set c ps) b O σ (L2.upd H a (.lst xs)) := by
  have ham : a ∈ b.m := List.mem_of_getElem? h
  have k : Kp b b H (L2.upd H a (.lst xs)) := .of (fun d o' q n => ⟨by rw [upd_ne (fun z => n (by rw [z]; exact .inr ham))]; exact q, n⟩) ⟨[], by simp⟩
  have ex : ∀ d, (∃ o', H d = some o') → ∃ o', L2.upd H a (.lst xs) d = some o' := fun d ⟨o', q⟩ => by
    by_cases z : d = a
    · rw [z]; exact ⟨_, upd_same⟩
    · rw [upd_ne z]; exact ⟨_, q⟩
  exact
  { e with
    slot := fun i => by
      have hs := e.slot i
      unfold SlOk at hs ⊢
      cases q : look ρ i with
      | no => trivial
      | val p =>
        rw [q] at hs
        obtain ⟨v, e1, r⟩ := hs
        exact ⟨v, e1, r.kp k⟩
      | own p =>
        rw [q] at hs
        obtain ⟨d, e1, o1, r⟩ := hs
        refine ⟨d, e1, o1, r.kp k fun o' q' => ?_⟩
        rw [upd_ne (fun z => (e.oB d o1).2.2 (by rw [z]; exact ham))]
        exact q'
    tr := fun d h => ex d (e.tr d h)
    st := by
      refine ⟨by rw [List.length_set]; exact e.st.1, e.st.2.1, fun i d qs h1 h2 => ?_⟩
      by_cases hi : c = i
      · subst hi
        rw [h] at h1
        cases h1
        have hl : c < S.length := by rw [← e.st.1]; exact (List.getElem?_eq_some_iff.mp h).1
        rw [List.getElem?_set_self hl] at h2
        cases h2
        exact ⟨xs, upd_same, r.kp k⟩
      · rw [List.getElem?_set_ne hi] at h2
        obtain ⟨ys, q, ry⟩ := e.st.2.2 i d qs h1 h2
        have hne : d ≠ a := fun z => by
          have h1' := h1
          rw [z] at h1'
          have l1 := (List.getElem?_eq_some_iff.mp h).1
          have l2 := (List.getElem?_eq_some_iff.mp h1').1
          exact hi ((List.getElem_inj e.st.2.1).mp ((List.getElem?_eq_some_iff.mp h).2.trans (List.getElem?_eq_some_iff.mp h1').2.symm))
        exact ⟨ys, by rw [upd_ne hne]; exact q, ry.kp k⟩
    mt := fun d h => ex d (e.mt d h)
    keep := fun d o' q n1 n2 => by
      have z : d ≠ a := fun z => by
        have := e.mn d (by rw [z]; exact ham) n1
        rw [q] at this; cases this
      obtain ⟨o1, q1, k1, x1⟩ := e.keep d o' q n1 n2
      exact ⟨o1, by rw [upd_ne z]; exact q1, k1, x1⟩ }
def putL (kvs : List (KP × PV)) (k : KP) (v : PV) : List (KP × PV) :=
  if (kvs.any fun kv => decide (kv.1 = k)) = true then kvs.map (fun kv => if kv.1 = k then (kv.1, v) else kv) else kvs ++ [(k, v)]
theorem RepK.any {H : Hp} {b : Bn} (k : KP) : ∀ {ps : List (KP × PV)} {xs : List (Key × V)}, RepK W H b ps xs → (xs.any fun kv => decide (kv.1 = kK k)) = ps.any fun kv => decide (kv.1 = k)
  | _, _, .nil => rfl
  | _, _, .cons (k := j) r t => by
    rw [List.any_cons, List.any_cons, RepK.any k t]
    congr 1
    by_cases h : j = k
    · subst h; simp
    · rw [decide_eq_false h, decide_eq_false (fun q => h (kK_inj.mp q))]
theorem RepK.repl {H : Hp} {b : Bn} (k : KP) {v : PV} {x : V} (rv : Rep W H b v x) : ∀ {ps : List (KP × PV)} {xs : List (Key × V)}, RepK W H b ps xs →
    RepK W H b (ps.map fun kv => if kv.1 = k then (kv.1, v) else kv) (xs.map fun kv => if kv.1 = kK k then (kv.1, x) else kv)
  | _, _, .nil => .nil
  | _, _, .cons (k := j) r t => by
    rw [List.map_cons, List.map_cons]
    by_cases h : j = k
    · subst h
      simp only [if_true]
      exact .cons rv (RepK.repl j rv t)
    · have : ¬ (kK j = kK k) := fun q => h (kK_inj.mp q)
      simp only [if_neg h, if_neg this]
      exact .cons r (RepK.repl k rv t)
theorem RepK.snoc {H : Hp} {b : Bn} (k : KP) {v : PV} {x : V} (rv : Rep W H b v x) : ∀ {ps : List (KP × PV)} {xs : List (Key × V)}, RepK W H b ps xs → RepK W H b (ps ++ [(k, v)]) (xs ++ [(kK k, x)])
  | _, _, .nil => .cons rv .nil
  | _, _, .cons r t => .cons r (RepK.snoc k rv t)
theorem RepK.put {H : Hp} {b : Bn} {k : KP} {v : PV} {x : V} {ps : List (KP × PV)} {xs : List (Key × V)} (r : RepK W H b ps xs) (rv : Rep W H b v x) : RepK W H b (putL ps k v) (putK xs (kK k) x) := by
  unfold putL putK
  rw [RepK.any k r]
  split
  · exact RepK.repl k rv r
  · exact RepK.snoc k rv r
theorem Reps.set {H : Hp} {b : Bn} {v : PV} {x : V} (rv : Rep W H b v x) : ∀ {ps : List PV} {xs : List V} (j : Nat), Reps W H b ps xs → Reps W H b (ps.set j v) (xs.set j x)
  | _, _, _, .nil => by simp; exact .nil
  | _, _, 0, .cons r t => .cons rv t
  | _, _, j + 1, .cons r t => .cons r (Reps.set rv j t)
def putV : Sl → Store → PV → PV → Option (Sl × Store)
  | .own (.dct kvs), S, .str k, v => if kvs.length < sizeLine then some (.own (.dct (putL kvs (.s k) v)), S) else none
  | .own (.dct kvs), S, .int k, v => if kvs.length < sizeLine then some (.own (.dct (putL kvs (.i k) v)), S) else none
  | .own (.lst l), S, .int i, v => match ixN l.length i with
    | some j => some (.own (.lst (l.set j v)), S)
    | none => none
  | .val (.cell c), S, .int i, v => match S[c]? with
    | some l => match ixN l.length i with
      | some j => some (.val (.cell c), S.set c (l.set j v))
      | none => none
    | none => none
  | _, _, _, _ => none
def setP (i : Nat) (o : Option (Sl × Store)) (ρ : Env) : Rs Fl := match o with
  | some (s, S) => .ok (.nx (ρ.set i s)) S
  | none => .bad
def isSet : Sl → Bool
  | .no => false
  | _ => true
def putK2 (i : Nat) (v : PV) (ρ : Env) (k : PV) (S2 : Store) : Rs Fl := setP i (putV (look ρ i) S2 k v) ρ
def dPut (i : Nat) (dv dk : Den) : DenS := fun ρ S => (dv ρ S).bnd fun v S1 => if isSet (look ρ i) = true then (dk ρ S1).bnd (putK2 i v ρ) else .bad
theorem EnvOk.isSet {ρ : Env} {S : Store} {b : Bn} {O : Addr → Prop} {σ : L2.St} {H : Hp} (e : EnvOk W g ρ S b O σ H) {i : Nat} (h : Tg.isSet (look ρ i) = true) : ∃ z, σ[i]? = some (some z) := by
  have hs := e.slot i
  unfold SlOk at hs
  cases q : look ρ i with
  | no => rw [q] at h; cases h
  | val p =>
    rw [q] at hs
    obtain ⟨z, h1, _⟩ := hs
    exact ⟨z, h1⟩
  | own p =>
    rw [q] at hs
    obtain ⟨a, h1, _⟩ := hs
    exact ⟨_, h1⟩
theorem PSet.or {t u : TSet} (h : PSet X t) (h' : PSet X u) : PSet X (fun o i v H Q => t o i v H Q ∨ u o i v H Q) := fun pins s σ H o i v ov iv w Q I r1 r2 r3 q => by
  rcases q with q | q
  · exact h pins s σ H o i v ov iv w Q I r1 r2 r3 q
  · exact h' pins s σ H o i v ov iv w Q I r1 r2 r3 q
theorem set_look {ρ : Env} {i : Nat} {s : Sl} (h : look ρ i = s) (hn : s ≠ .no) : ρ.set i s = ρ := by
  apply List.ext_getElem?
  intro j
  by_cases hj : i = j
  · subst hj
    unfold look at h
    cases q : ρ[i]? with
    | none => rw [q] at h; exact absurd h.symm hn
    | some t =>
      rw [q] at h
      have : t = s := h
      rw [List.getElem?_set_self (List.getElem?_eq_some_iff.mp q).1, this]
  · rw [List.getElem?_set_ne hj]
theorem put_end {i : Nat} {k v : PV} {y x z : V} {ρ : Env} {S : Store} {b : Bn} {O : Addr → Prop} {σ : L2.St} {H : Hp} {D : Ends} (e : EnvOk W g ρ S b O σ H) (f : finS W g E D (setP i (putV (look ρ i) S k v) ρ)) (ry : Rep W H b k y) (rx : Rep W H b v x) (hz : σ[i]? = some (some z)) :
    rSetL z y x H (fun H3 => D.nx σ H3) ∨ rSetD z y x H fun H3 => D.nx σ H3 := by
  unfold putV at f
  split at f
  · rename_i kvs k hq
    obtain ⟨a, h1, hO, xs, hx, r⟩ := e.ownAt hq
    rw [hz] at h1
    cases h1
    cases ry
    split at f
    · rename_i hl
      refine .inr ⟨a, _, rfl, DPut.k (k := kK (.s k)) hx (by rw [← RepK.length r]; exact hl), ?_⟩
      exact f _ _ _ _ (e.wr hq hz ⟨_, upd_same, RepK.kp (e.kw hO) (r.put rx)⟩)
    · exact f.elim
  · rename_i kvs k hq
    obtain ⟨a, h1, hO, xs, hx, r⟩ := e.ownAt hq
    rw [hz] at h1
    cases h1
    cases ry
    split at f
    · rename_i hl
      refine .inr ⟨a, _, rfl, DPut.k (k := kK (.i k)) hx (by rw [← RepK.length r]; exact hl), ?_⟩
      exact f _ _ _ _ (e.wr hq hz ⟨_, upd_same, RepK.kp (e.kw hO) (r.put rx)⟩)
    · exact f.elim
  · rename_i l n hq
    obtain ⟨a, h1, hO, xs, hx, r⟩ := e.ownAt hq
    rw [hz] at h1
    cases h1
    cases ry
    split at f
    · rename_i j hj
      refine .inl ⟨a, xs, n, j, rfl, rfl, hx, by rw [← r.length]; exact hj, ?_⟩
      exact f _ _ _ _ (e.wr hq hz ⟨_, upd_same, Reps.kp (e.kw hO) (r.set rx j)⟩)
    · exact f.elim
  · rename_i c n hq
    have hs := e.slot i
    unfold SlOk at hs
    rw [hq] at hs
    obtain ⟨z', h1, rc⟩ := hs
    rw [hz] at h1
    cases h1
    cases rc with
    | @cell _ a hc =>
      cases ry
      split at f
      · rename_i l hl
        split at f
        · rename_i j hj
          obtain ⟨xs, hx, r⟩ := e.st.2.2 c a l hc hl
          refine .inl ⟨a, xs, n, j, rfl, rfl, hx, by rw [← r.length]; exact hj, ?_⟩
          have := f _ _ _ _ (by rw [set_look hq (by simp)]; exact e.wrC hc (r.set rx j))
          exact this
        · exact f.elim
      · exact f.elim
  · exact f.elim
theorem ss_put {i : Nat} {x : Str} {e k : Expr} {dv dk : Den} {p0 tpos pos : Pos} (hu : X.A.units + 1 < cLine) (hN : X.N[i]? = some x) (hv : Vis X.env.scope x) (hd : (x == ("__debug__" : Str)) = false) (hcd : (x == ("__classdict__" : Str)) = false)
    (he : PE X e (tEv W g E dv)) (hk : PE X k (tEv W g E dk))
    (ha : ∀ v, assign (.Subscript (.Name x p0) k tpos) X.env v = (do
      let ov ← holding [v] (eval (.Name x p0) X.env)
      let iv ← holding [v, ov] (eval k X.env)
      standAt tpos
      holding [v, ov, iv] (setItem ov iv v)
      release [v, ov, iv] []))
    (hs : swapsWithSole [.Subscript (.Name x p0) k tpos] e pos.line X.env = pure false) (hw : swappedStores [.Subscript (.Name x p0) k tpos] e X.env = pure none)
    (h1 : (assignEach [.Subscript (.Name x p0) k tpos] X.env).map (·.2) = [assign (.Subscript (.Name x p0) k tpos) X.env]) :
    PS X (.Assign [.Subscript (.Name x p0) k tpos] e pos) (tS W g E (dPut i dv dk)) := by
  refine psI (ps_asg he (pg_sub (pe_var hN hv hd hcd) hk (PSet.or set_list (set_dict hu)) ha) hs hw h1) ?_
  intro D σ H h
  refine (exS h).imp fun v S1 H1 b1 _ ⟨ρ1, O1, e1, f1⟩ x rx => ?_
  split at f1
  case isFalse => exact f1.elim
  rename_i hset
  obtain ⟨z, hz⟩ := e1.isSet hset
  obtain ⟨f2⟩ := (⟨f1⟩ : PLift (finS W g E D ((dk ρ1 S1).bnd (putK2 i v ρ1))))
  refine ⟨z, hz, ρ1, S1, b1, O1, e1, ?_⟩
  cases q : dk ρ1 S1 with
  | ok k S2 =>
    rw [q] at f2
    intro H2 b2 d2 y ry
    have := put_end (e1.adv d2) f2 ry (rx.step d2.stp) hz
    rcases this with h | h
    · exact .inl h
    · exact .inr h
  | exc c v S' =>
    rw [q] at f2
    intro x d H' b' dd r hd
    exact f2 x d H' _ (e1.adv dd).gh ((e1.adv dd).low r) hd
  | bad => rw [q] at f2; exact f2.elim
end
end Tg
end
section
set_option Elab.async false
set_option linter.all false
set_option maxRecDepth 100000
/-! rows of assignments, op=, raise -/
namespace Tg
open PySem PySem.Spec PyProof.Rows L2
section
variable {X : Cx} {W : Wd} {g : Gh} {E : XK}
/-- other places for the slots -/
theorem EnvOk.reix {ρ ρ' : Env} {S : Store} {b : Bn} {O : Addr → Prop} {σ σ' : L2.St} {H : Hp} (e : EnvOk W g ρ S b O σ H) (f : Nat → Nat) (hl : ρ'.length = σ'.length) (hf : ∀ i j, f i = f j → i = j) (h : ∀ j, look ρ' j = .no ∨ (look ρ' j = look ρ (f j) ∧ σ'[j]? = σ[f j]?)) : EnvOk W g ρ' S b O σ' H :=
  { e with
    len := hl
    slot := fun j => by
      rcases h j with h | ⟨h1, h2⟩
      · rw [h]; trivial
      · rw [h1, h2]; exact e.slot (f j)
    inj := fun i j p q a h1 h2 e1 e2 => by
      rcases h i with z | ⟨z1, z2⟩
      · rw [z] at h1; cases h1
      · rcases h j with y | ⟨y1, y2⟩
        · rw [y] at h2; cases h2
        · rw [z1] at h1; rw [y1] at h2; rw [z2] at e1; rw [y2] at e2
          exact hf i j (e.inj _ _ p q a h1 h2 e1 e2) }
theorem look_app {ρ r : Env} {j : Nat} : look (ρ ++ r) j = if j < ρ.length then look ρ j else look r (j - ρ.length) := by
  unfold look
  by_cases h : j < ρ.length
  · rw [if_pos h, List.getElem?_append_left h]
  · rw [if_neg h, List.getElem?_append_right (Nat.le_of_not_lt h)]
theorem look_set {ρ : Env} {i j : Nat} {s : Sl} : look (ρ.set i s) j = if i = j ∧ j < ρ.length then s else look ρ j := by
  unfold look
  by_cases h : i = j
  · subst h
    by_cases hl : i < ρ.length
    · rw [List.getElem?_set_self hl, if_pos ⟨rfl, hl⟩]; rfl
    · rw [if_neg (fun z => hl z.2), List.set_eq_of_length_le (by omega)]
  · rw [List.getElem?_set_ne h, if_neg (fun z => h z.1)]
theorem look_ge {ρ : Env} {j : Nat} (h : ρ.length ≤ j) : look ρ j = .no := by
  unfold look
  rw [List.getElem?_eq_none h]; rfl
/-- the first that waits goes to its slot -/
theorem EnvOk.pend {ρ r : Env} {S : Store} {b : Bn} {O : Addr → Prop} {σ xs : L2.St} {H : Hp} {s : Sl} {x : Option V} (e : EnvOk W g (ρ ++ s :: r) S b O (σ ++ x :: xs) H) (hl : ρ.length = σ.length) (i : Nat) : EnvOk W g (ρ.set i s ++ r) S b O (σ.set i x ++ xs) H := by
  have hr : r.length = xs.length := by
    have := e.len
    rw [List.length_append, List.length_append, List.length_cons, List.length_cons] at this
    omega
  refine e.reix (fun j => if j < ρ.length then (if i = j then ρ.length else j) else j + 1) (by rw [List.length_append, List.length_append, List.length_set, List.length_set]; omega) (fun a c q => ?_) fun j => ?_
  · split at q <;> split at q <;> (try split at q) <;> (try split at q) <;> omega
  · right
    rw [look_app, look_app, look_set, List.length_set]
    by_cases h : j < ρ.length
    · simp only [if_pos h]
      rw [List.getElem?_append_left (by rw [List.length_set]; omega)]
      by_cases hi : i = j
      · subst hi
        rw [if_pos ⟨rfl, h⟩, if_pos rfl, if_neg (Nat.lt_irrefl _), Nat.sub_self, List.getElem?_set_self (by omega), hl, List.getElem?_append_right (Nat.le_refl _), Nat.sub_self]
        exact ⟨rfl, rfl⟩
      · rw [if_neg (fun z => hi z.1), if_neg hi, if_pos h, List.getElem?_set_ne hi, List.getElem?_append_left (by omega)]
        exact ⟨rfl, rfl⟩
    · have h' : ρ.length ≤ j := Nat.le_of_not_lt h
      rw [if_neg h, if_neg h, if_neg (by omega), List.getElem?_append_right (by rw [List.length_set]; omega), List.length_set, List.getElem?_append_right (by omega)]
      have : j + 1 - ρ.length = (j - ρ.length) + 1 := by omega
      have h2 : j + 1 - σ.length = (j - σ.length) + 1 := by omega
      rw [this, h2]
      exact ⟨by unfold look; rw [List.getElem?_cons_succ], by rw [List.getElem?_cons_succ]⟩
theorem EnvOk.cut {ρ r : Env} {S : Store} {b : Bn} {O : Addr → Prop} {σ xs : L2.St} {H : Hp} (e : EnvOk W g (ρ ++ r) S b O (σ ++ xs) H) (hl : ρ.length = σ.length) : EnvOk W g ρ S b O σ H :=
  e.reix (fun j => j) hl (fun _ _ q => q) fun j => by
    by_cases h : j < ρ.length
    · right
      rw [look_app, if_pos h, List.getElem?_append_left (by omega)]
      exact ⟨rfl, rfl⟩
    · exact .inl (look_ge (by omega))
theorem EnvOk.snoc {ρ : Env} {S : Store} {b : Bn} {O : Addr → Prop} {σ : L2.St} {H : Hp} (e : EnvOk W g ρ S b O σ H) : EnvOk W g (ρ ++ [.no]) S b O (σ ++ [none]) H :=
  e.reix (fun j => j) (by rw [List.length_append, List.length_append, e.len]; rfl) (fun _ _ q => q) fun j => by
    by_cases h : j < ρ.length
    · right
      rw [look_app, if_pos h, List.getElem?_append_left (by rw [← e.len]; omega)]
      exact ⟨rfl, rfl⟩
    · left
      rw [look_app, if_neg h]
      cases j - ρ.length with
      | zero => rfl
      | succ n => rfl
theorem snoc_set {α : Type} (l : List α) (a c : α) : (l ++ [a]).set l.length c = l ++ [c] := by
  rw [List.set_append_right _ _ (Nat.le_refl _), Nat.sub_self]; rfl
theorem EnvOk.snocV {ρ : Env} {S : Store} {b : Bn} {O : Addr → Prop} {σ : L2.St} {H : Hp} (e : EnvOk W g ρ S b O σ H) {p : PV} {x : V} (r : Rep W H b p x) : EnvOk W g (ρ ++ [.val p]) S b O (σ ++ [some x]) H := by
  have := e.snoc.set (i := ρ.length) r
  rw [snoc_set] at this
  rw [e.len, snoc_set] at this
  exact this
theorem EnvOk.snocO {ρ : Env} {S : Store} {b : Bn} {O : Addr → Prop} {σ : L2.St} {H : Hp} (e : EnvOk W g ρ S b O σ H) {a : Addr} {o : HO} {v : PV} (ha : H a = none) (hm : Mk1 W H b v o) :
    EnvOk W g (ρ ++ [.own v]) S ⟨fun c => b.B c ∨ c = a, b.m⟩ (fun c => O c ∨ c = a) (σ ++ [some (.ref a)]) (L2.upd H a o) := by
  have := e.snoc.setO ρ.length ha hm
  rw [snoc_set] at this
  rw [e.len, snoc_set] at this
  exact this

/-! ### several values, some owned -/
abbrev DenO := Env → Store → Rs (List Sl)
def oNil : DenO := fun _ S => .ok [] S
def oCons (own : Bool) (d : Den) (r : DenO) : DenO := fun ρ S => (d ρ S).bnd fun v S1 => if (!own || isO v) = true then (r ρ S1).bnd fun ss S2 => .ok ((if own then .own v else .val v) :: ss) S2 else .bad
def tO (W : Wd) (g : Gh) (E : XK) (d : DenO) : TA := fun σ H Q => ∃ ρ pend S b O, ∃ xs : L2.St, EnvOk W g (ρ ++ pend) S b O (σ ++ xs) H ∧ ρ.length = σ.length ∧ pend.length = xs.length ∧ (match d ρ S with
  | .ok ss S' => ∀ H' b' O' (ys : List V), EnvOk W g (ρ ++ (pend ++ ss)) S' b' O' (σ ++ (xs ++ ys.map some)) H' → ss.length = ys.length → Q ys H'
  | .exc c v S' => exG W g E c v S'
  | .bad => False)
theorem so_nil : PA X [] (tO W g E oNil) := by
  refine paI pa_nil ?_
  rintro σ H Q ⟨ρ, pend, S, b, O, xs, e, hl, hp, f⟩
  exact f H b O [] (by rw [List.append_nil, List.map_nil, List.append_nil]; exact e) rfl
theorem so_val {e : Expr} {es : List Expr} {d : Den} {r : DenO} (he : PE X e (tEv W g E d)) (hr : PA X es (tO W g E r)) (hs : starEach (e :: es) X.env = (false, eval e X.env) :: starEach es X.env) : PA X (e :: es) (tO W g E (oCons false d r)) := by
  refine paI (pa_cons he hr hs) ?_
  rintro σ H Q ⟨ρ, pend, S, b, O, xs, en, hl, hp, f⟩
  refine ⟨ρ, S, b, O, en.cut hl, ?_⟩
  unfold oCons at f
  cases q : d ρ S with
  | bad => simp only [q, Rs.bnd] at f
  | exc c v S' =>
    simp only [q, Rs.bnd] at f
    intro x dd H' b' ad rx hd
    exact f x dd H' _ (en.adv ad).gh ((en.adv ad).low rx) hd
  | ok v S1 =>
    simp only [q, Rs.bnd, Bool.not_false, Bool.true_or, if_true] at f
    intro H1 b1 ad x rx
    have e1 := (en.adv ad).snocV rx
    refine ⟨ρ, pend ++ [.val v], S1, b1, O, xs ++ [some x], by rw [← List.append_assoc, ← List.append_assoc]; exact e1, hl, by simp [hp], ?_⟩
    cases q2 : r ρ S1 with
    | bad => simp only [q2] at f
    | exc c v S' => simp only [q2] at f; exact f
    | ok ss S2 =>
      simp only [q2] at f
      intro H' b' O' ys e' hy
      exact f H' b' O' (x :: ys) (by simpa using e') (by simp [hy])
theorem so_own {e : Expr} {es : List Expr} {d : Den} {r : DenO} (he : PE X e (tEf W g E d)) (hr : PA X es (tO W g E r)) (hs : starEach (e :: es) X.env = (false, eval e X.env) :: starEach es X.env) : PA X (e :: es) (tO W g E (oCons true d r)) := by
  refine paI (pa_cons he hr hs) ?_
  rintro σ H Q ⟨ρ, pend, S, b, O, xs, en, hl, hp, f⟩
  refine ⟨ρ, S, b, O, en.cut hl, ?_⟩
  unfold oCons at f
  cases q : d ρ S with
  | bad => simp only [q, Rs.bnd] at f
  | exc c v S' =>
    simp only [q, Rs.bnd] at f
    intro x dd H' b' ad rx hd
    exact f x dd H' _ (en.adv ad).gh ((en.adv ad).low rx) hd
  | ok v S1 =>
    simp only [q, Rs.bnd] at f
    by_cases ho : (!true || isO v) = true
    case neg => rw [if_neg ho] at f; exact f.elim
    rw [if_pos ho] at f
    simp only [if_true] at f
    intro H1 b1 ad a o ha hm
    have e1 := (en.adv ad).snocO ha hm
    refine ⟨ρ, pend ++ [.own v], S1, _, _, xs ++ [some (.ref a)], by rw [← List.append_assoc, ← List.append_assoc]; exact e1, hl, by simp [hp], ?_⟩
    cases q2 : r ρ S1 with
    | bad => simp only [q2] at f
    | exc c v S' => simp only [q2] at f; exact f
    | ok ss S2 =>
      simp only [q2] at f
      intro H' b' O' ys e' hy
      exact f H' b' O' (.ref a :: ys) (by simpa using e') (by simp [hy])
def dPar2 (i j : Nat) (d : DenO) : DenS := fun ρ S => (d ρ S).bnd fun ss S1 => match ss with
  | [s, t] => .ok (.nx ((ρ.set i s).set j t)) S1
  | _ => .bad
theorem ps_parC {i j : Nat} {x y : Str} {a b : Expr} {ta : TA} {px py pt pos : Pos} {kt k2 pt2} (hc : X.calm = true) (hN : X.N.Nodup) (hi : X.N[i]? = some x) (hj : X.N[j]? = some y)
    (hx : L2.Loc X.env.scope x) (hy : L2.Loc X.env.scope y) (fx : X.fn x = true ∨ X.env.scope.names.lookup x = some .local) (fy : X.fn y = true ∨ X.env.scope.names.lookup y = some .local) (ha : PA X [a, b] ta)
    (hw : swappedStores [.Tuple [.Name x px, .Name y py] kt pt] (.Tuple [a, b] k2 pt2) X.env = pure none)
    (hs : swapsWithSole [.Tuple [.Name x px, .Name y py] kt pt] (.Tuple [a, b] k2 pt2) pos.line X.env = pure false) :
    PS X (.Assign [.Tuple [.Name x px, .Name y py] kt pt] (.Tuple [a, b] k2 pt2) pos) (tPar i j ta) := by
  refine ⟨fun pins s σ H D I h => ?_⟩
  refine wpAny_Assign_stores (Tuple_ (thn (ha.run _ pins s σ H _ I h) fun us s1 ⟨vs, H1, I1, r1, q1⟩ => ?_)) hs hw
  obtain ⟨v, w, e1, q1⟩ := q1
  subst e1
  obtain ⟨u1, u2, rfl, rv, rw'⟩ : ∃ u1 u2, us = [u1, u2] ∧ RelV v u1 ∧ RelV w u2 := by
    cases r1 with
    | cons p q =>
      cases q with
      | cons p' q' =>
        cases q'
        exact ⟨_, _, rfl, p, p'⟩
  refine wpAny_newObj_type ?_ (by show 2 ≤ sizeLine; decide)
  have I2 : Inv X pins σ H1 { s1 with heap := s1.heap.push { cls := .type "tuple", data := .seq [u1, u2].toArray } } := I1.kept (t' := s1.toks) fun b o e => Heap.get?_push_of_some _ e
  show wpAny (model X.prog X.w) X.A (assign (.Tuple [.Name x px, .Name y py] kt pt) X.env (.ref s1.heap.objs.size)) _ _ _
  refine assign_Tuple_tuple (I.ok.hd hc) (IsTup.new s1.heap _) rfl rfl fun h' hx' => ?_
  have I3 := I2.kept (h' := h') (t' := s1.toks) fun b o e => hx' b o (Nat.ne_of_lt (Heap.lt_size e)) e
  show wpAny _ _ (assignInOrder [assign (.Name x px) X.env, assign (.Name y py) X.env] [u1, u2]) _ _ _
  refine assignInOrder_cons (wpAny_assign_Name (store_ok I3 hN hi hx rv (fun s2 I4 => ?_) fx))
  refine assignInOrder_cons (wpAny_assign_Name (store_ok I4 hN hj hy rw' (fun s3 I5 => assignInOrder_nil ?_) fy))
  exact ⟨_, H1, I5, q1⟩
theorem ps_par3C {i j l : Nat} {x y z : Str} {a b c : Expr} {ta : TA} {px py pz pt pos : Pos} {kt k2 pt2} (hc : X.calm = true) (hN : X.N.Nodup) (hi : X.N[i]? = some x) (hj : X.N[j]? = some y) (hl : X.N[l]? = some z)
    (hx : L2.Loc X.env.scope x) (hy : L2.Loc X.env.scope y) (hz : L2.Loc X.env.scope z) (fx : X.fn x = true ∨ X.env.scope.names.lookup x = some .local) (fy : X.fn y = true ∨ X.env.scope.names.lookup y = some .local) (fz : X.fn z = true ∨ X.env.scope.names.lookup z = some .local) (ha : PA X [a, b, c] ta)
    (hw : swappedStores [.Tuple [.Name x px, .Name y py, .Name z pz] kt pt] (.Tuple [a, b, c] k2 pt2) X.env = pure none)
    (hs : swapsWithSole [.Tuple [.Name x px, .Name y py, .Name z pz] kt pt] (.Tuple [a, b, c] k2 pt2) pos.line X.env = pure false) :
    PS X (.Assign [.Tuple [.Name x px, .Name y py, .Name z pz] kt pt] (.Tuple [a, b, c] k2 pt2) pos) (tPar3 i j l ta) := by
  refine ⟨fun pins s σ H D I h => ?_⟩
  refine wpAny_Assign_stores (Tuple_ (thn (ha.run _ pins s σ H _ I h) fun us s1 ⟨vs, H1, I1, r1, q1⟩ => ?_)) hs hw
  obtain ⟨v1, v2, v3, e1, q1⟩ := q1
  subst e1
  obtain ⟨u1, u2, u3, rfl, r1', r2', r3'⟩ : ∃ u1 u2 u3, us = [u1, u2, u3] ∧ RelV v1 u1 ∧ RelV v2 u2 ∧ RelV v3 u3 := by
    cases r1 with
    | cons p q =>
      cases q with
      | cons p' q' =>
        cases q' with
        | cons p'' q'' =>
          cases q''
          exact ⟨_, _, _, rfl, p, p', p''⟩
  refine wpAny_newObj_type ?_ (by show 3 ≤ sizeLine; decide)
  have I2 : Inv X pins σ H1 { s1 with heap := s1.heap.push { cls := .type "tuple", data := .seq [u1, u2, u3].toArray } } := I1.kept (t' := s1.toks) fun b o e => Heap.get?_push_of_some _ e
  show wpAny (model X.prog X.w) X.A (assign (.Tuple [.Name x px, .Name y py, .Name z pz] kt pt) X.env (.ref s1.heap.objs.size)) _ _ _
  refine assign_Tuple_tuple (I.ok.hd hc) (IsTup.new s1.heap _) rfl rfl fun h' hx' => ?_
  have I3 := I2.kept (h' := h') (t' := s1.toks) fun b o e => hx' b o (Nat.ne_of_lt (Heap.lt_size e)) e
  show wpAny _ _ (assignInOrder [assign (.Name x px) X.env, assign (.Name y py) X.env, assign (.Name z pz) X.env] [u1, u2, u3]) _ _ _
  refine assignInOrder_cons (wpAny_assign_Name (store_ok I3 hN hi hx r1' (fun s2 I4 => ?_) fx))
  refine assignInOrder_cons (wpAny_assign_Name (store_ok I4 hN hj hy r2' (fun s3 I5 => ?_) fy))
  refine assignInOrder_cons (wpAny_assign_Name (store_ok I5 hN hl hz r3' (fun s4 I6 => assignInOrder_nil ?_) fz))
  exact ⟨_, H1, I6, q1⟩
theorem ss_par2 {i j : Nat} {st : Stmt} {d : DenO} (hp : PS X st (tPar i j (tO W g E d))) : PS X st (tS W g E (dPar2 i j d)) := by
  refine psI hp ?_
  rintro D σ H ⟨ρ, S, b, O, e, f⟩
  refine ⟨ρ, [], S, b, O, [], by simpa using e, e.len, rfl, ?_⟩
  unfold dPar2 at f
  cases q : d ρ S with
  | bad => rw [q] at f; exact f.elim
  | exc c v S' => rw [q] at f; exact f
  | ok ss S1 =>
    simp only [q, Rs.bnd] at f
    simp only
    intro H' b' O' ys e' hy
    split at f
    · rename_i s t
      match ys, hy with
      | [x, y], _ =>
        have e1 := EnvOk.pend (by simpa using e') e.len i
        have e2 := EnvOk.pend e1 (by rw [List.length_set, List.length_set]; exact e.len) j
        exact ⟨x, y, rfl, f _ _ _ _ (by simpa using e2)⟩
    · exact f.elim
def dPar3 (i j k : Nat) (d : DenO) : DenS := fun ρ S => (d ρ S).bnd fun ss S1 => match ss with
  | [s, t, u] => .ok (.nx (((ρ.set i s).set j t).set k u)) S1
  | _ => .bad
theorem ss_par3 {i j l : Nat} {st : Stmt} {d : DenO} (hp : PS X st (tPar3 i j l (tO W g E d))) : PS X st (tS W g E (dPar3 i j l d)) := by
  refine psI hp ?_
  rintro D σ H ⟨ρ, S, b, O, e, f⟩
  refine ⟨ρ, [], S, b, O, [], by simpa using e, e.len, rfl, ?_⟩
  unfold dPar3 at f
  cases q : d ρ S with
  | bad => rw [q] at f; exact f.elim
  | exc c v S' => rw [q] at f; exact f
  | ok ss S1 =>
    simp only [q, Rs.bnd] at f
    simp only
    intro H' b' O' ys e' hy
    split at f
    · rename_i s t u
      match ys, hy with
      | [x, y, z], _ =>
        have e1 := EnvOk.pend (by simpa using e') e.len i
        have e2 := EnvOk.pend e1 (by rw [List.length_set, List.length_set]; exact e.len) j
        have e3 := EnvOk.pend e2 (by rw [List.length_set, List.length_set, List.length_set, List.length_set]; exact e.len) l
        exact ⟨x, y, z, rfl, f _ _ _ _ (by simpa using e3)⟩
    · exact f.elim

/-! ### x op= e -/
def dAug (i : Nat) (f : PV → PV → Option PV) (d : Den) : DenS := fun ρ S => if isSet (look ρ i) = true then (d ρ S).bnd fun u S1 => match look ρ i with
    | .val v => okE ((f v u).map fun w => ρ.set i (.val w)) S1
    | _ => .bad
  else .bad
/-- where a value function's rule of op= stands -/
theorem ss_aug {i : Nat} {x : Str} {e : Expr} {d : Den} {op : Operator} {f : PV → PV → Option PV} {r : TIp} {p0 pos : Pos} (hN : X.N.Nodup) (hi : X.N[i]? = some x) (hx : Loc X.env.scope x) (he : PE X e (tEv W g E d)) (ho : PIp X op r) (hf : Op2 W (RW W) (RW W) f r)
    (hfn : X.fn x = true ∨ X.env.scope.names.lookup x = some .local) : PS X (.AugAssign (.Name x p0) op e pos) (tS W g E (dAug i f d)) := by
  refine psI (ps_aug hN hi hx he ho hfn) ?_
  rintro D σ H ⟨ρ, S, b, O, e, fs⟩
  unfold dAug at fs
  split at fs
  case isFalse => exact fs.elim
  rename_i hset
  obtain ⟨z, hz⟩ := e.isSet hset
  refine ⟨z, hz, (exS (k := fun ρ u S1 => match look ρ i with
    | .val v => okE ((f v u).map fun w => ρ.set i (.val w)) S1
    | _ => .bad) ⟨ρ, S, b, O, e, fs⟩).imp fun u S1 H1 b1 _ ⟨ρ1, O1, e1, f1⟩ y ry => ?_⟩
  cases hq : look ρ1 i with
  | no => rw [hq] at f1; exact f1.elim
  | own p => rw [hq] at f1; exact f1.elim
  | val v =>
    simp only [hq] at f1
    have hs := e1.slot i
    unfold SlOk at hs
    rw [hq] at hs
    obtain ⟨z', h1, rz⟩ := hs
    rw [hz] at h1
    cases h1
    cases hw : f v u with
    | none => rw [hw] at f1; exact f1.elim
    | some w =>
      rw [hw] at f1
      exact hf v u w z y H1 b1 _ (fun p hp => e1.fresh hp) (.inl rz) (.inl ry) hw fun t H' k rt => f1 _ _ _ _ ((e1.adv (.grow e1.st k)).set rt)
end
end Tg
end
section
set_option Elab.async false
set_option linter.all false
set_option autoImplicit false
set_option maxRecDepth 100000
/-! more expressions -/
namespace Tg
open PySem PySem.Spec PyProof.Rows L2
section
variable {X : Cx} {W : Wd} {g : Gh} {E : XK}
/-! ### f-strings -/
def onT (v : PV) (k : List Nat → Rs PV) : Rs PV := match v with
  | .str s => k s
  | _ => .bad
def fmtK (v : PV) (S1 : Store) : Rs PV := match fText v with
  | some s => .ok (.str s) S1
  | none => .bad
def dFmt (d : Den) : Den := fun ρ S => (d ρ S).bnd fmtK
def jNil : Den := fun _ S => .ok (.str []) S
def jCons (a r : Den) : Den := fun ρ S => (a ρ S).bnd fun v S1 => onT v fun s => (r ρ S1).bnd fun u S2 => onT u fun t => .ok (.str (s ++ t)) S2
/-- no exception within -/
def dJs (r : Den) : Den := fun ρ S => match r ρ S with
  | .ok (.str t) S1 => if t.length ≤ sizeLine then .ok (.str t) S1 else .bad
  | _ => .bad
theorem se_fmt {e : Expr} {d : Den} {pos : Pos} (he : PE X e (tEv W g E d)) : PE X (.FormattedValue e (-1) none pos) (tEv W g E (dFmt d)) := by
  refine peI (pe_fmt he) ?_
  intro σ H Q h
  refine (tF.seq (k := fun _ => fmtK) h).imp fun v S1 H1 b1 s1 ⟨ρ, O, e1, f⟩ x rx => ?_
  have key : ∀ m : Nat, Q (.str ⟨(TL.numL m).toArray⟩) H1 → Q (.str (Str.ofString (toString (Int.ofNat m)))) H1 := fun m h => by
    rw [show Str.ofString (toString (Int.ofNat m)) = SX.S (TL.numL m) from SX.num_S m]; exact h
  unfold fmtK fText at f
  split at f
  · rename_i s hs
    split at hs
    · split at hs
      · rename_i z hz
        cases hs
        cases rx
        exact .inl ⟨_, rfl, by simpa [lenL] using hz, f H1 b1 (.refl s1) _ (.str _)⟩
      · cases hs
    · split at hs
      · rename_i n hn
        cases hs
        cases rx
        refine .inr ⟨_, rfl, by simpa using hn, ?_⟩
        exact key _ (f H1 b1 (.refl s1) _ (.str _))
      · cases hs
    · cases hs
  · exact f.elim
inductive JP (X : Cx) (W : Wd) (g : Gh) (E : XK) : List Expr → Den → Prop where
  | nil : JP X W g E [] jNil
  | cons {e : Expr} {es : List Expr} {d r : Den} (h : PE X e (tEv W g E d)) (t : JP X W g E es r) : JP X W g E (e :: es) (jCons d r)
theorem js_app (a c : List Nat) : (⟨a.toArray⟩ : Str) ++ ⟨c.toArray⟩ = ⟨(a ++ c).toArray⟩ := SX.S_cat a c
theorem jp_run {es : List Expr} {r : Den} (h : JP X W g E es r) : ∃ ts, PJ X es ts ∧ ∀ σ H acc (Q : Str → Hp → Prop), (∃ ρ S b O t S', EnvOk W g ρ S b O σ H ∧ r ρ S = .ok (.str t) S' ∧ (acc ++ t).length ≤ sizeLine ∧ ∀ H' b', Adv W b b' H H' S' → Q ⟨(acc ++ t).toArray⟩ H') → tJs ts ⟨acc.toArray⟩ σ H Q := by
  induction h with
  | nil =>
    refine ⟨[], .nil, ?_⟩
    rintro σ H acc Q ⟨ρ, S, b, O, t, S', e, q, hl, f⟩
    cases q
    have := f H b (.refl e.st)
    rw [List.append_nil] at this
    exact this
  | @cons ex es d r he _ ih =>
    obtain ⟨ts, pj, hr⟩ := ih
    refine ⟨_, .cons he pj, ?_⟩
    rintro σ H acc Q ⟨ρ, S, b, O, t, S', e, q, hl, f⟩
    unfold jCons at q
    cases q1 : d ρ S with
    | bad => rw [q1] at q; cases q
    | exc c v S1 => rw [q1] at q; cases q
    | ok v S1 =>
      rw [q1] at q
      cases v with
      | str s =>
        simp only [Rs.bnd, onT] at q
        cases q2 : r ρ S1 with
        | bad => rw [q2] at q; cases q
        | exc c v S1 => rw [q2] at q; cases q
        | ok u S2 =>
          rw [q2] at q
          cases u with
          | str t2 =>
            simp only [Rs.ok.injEq, PV.str.injEq] at q
            obtain ⟨rfl, rfl⟩ := q
            refine ⟨ρ, S, b, O, e, ?_⟩
            rw [q1]
            intro H1 b1 d1 x rx
            cases rx
            refine ⟨_, rfl, ?_, ?_⟩
            · rw [js_app, lenL]
              rw [← List.append_assoc, List.length_append] at hl
              omega
            · rw [js_app]
              exact hr σ H1 (acc ++ s) Q ⟨ρ, S1, b1, O, t2, S2, e.adv d1, q2, by rw [List.append_assoc]; exact hl, fun H' b' dd => by rw [List.append_assoc]; exact f H' b' (d1.trans dd)⟩
          | _ => cases q
      | _ => cases q
theorem se_js {e1 e2 : Expr} {es : List Expr} {r : Den} {pos : Pos} (h : JP X W g E (e1 :: e2 :: es) r) : PE X (.JoinedStr (e1 :: e2 :: es) pos) (tEv W g E (dJs r)) := by
  obtain ⟨ts, pj, hr⟩ := jp_run h
  refine peI (pe_joined pj) ?_
  rintro σ H Q ⟨ρ, S, b, O, e, f⟩
  unfold dJs at f
  split at f
  · rename_i t S1 q
    split at f
    · rename_i hl
      exact hr σ H [] _ ⟨ρ, S, b, O, t, S1, e, q, hl, fun H' b' dd => f H' b' dd _ (.str t)⟩
    · exact f.elim
  · exact f.elim
/-! ### -a -/
theorem se_neg {a : Expr} {da : Den} {pos : Pos} (ha : PE X a (tEr W g E (RW W) da)) : PE X (.UnaryOp .USub a pos) (tEv W g E (dB1 vNeg da)) :=
  peI (pe_un un_neg ha) fun σ H Q h => (one (Ra := RW W) (k := fun _ v S => okv (vNeg v) S) h).imp fun _ _ _ _ _ q y ry => by
    refine op1_end (Ra := RW W) (f := vNeg) ?_ (q y ry)
    intro v w x H b Q hf rv hw k
    unfold vNeg at hw
    split at hw
    · cases rw_int rv; cases hw
      exact ⟨_, rfl, k _ H (fun _ _ e => e) (.int _)⟩
    · cases hw
/-! ### x.rpartition(c) -/
def rpar (c : Nat) : List Nat → Option (List Nat × List Nat)
  | [] => none
  | x :: xs => match rpar c xs with
    | some (p, q) => some (x :: p, q)
    | none => if x = c then some ([], xs) else none
def mRpart : PV → PV → Option PV
  | .str a, .str [c] => if a.length ≤ sizeLine then some (match rpar c a with
    | some (p, q) => .tup [.str p, .str [c], .str q]
    | none => .tup [.str [], .str [], .str a]) else none
  | _, _ => none
theorem rpar_none {c : Nat} : ∀ {a : List Nat}, rpar c a = none → ∀ i : Nat, a[i]? ≠ some c
  | [], _, i, h => by simp at h
  | x :: xs, e, i, h => by
    unfold rpar at e
    cases q : rpar c xs with
    | some pq => obtain ⟨p, q'⟩ := pq; rw [q] at e; cases e
    | none =>
      rw [q] at e
      simp only at e
      split at e
      · cases e
      · rename_i hne
        cases i with
        | zero => simp at h; exact hne h
        | succ i => exact rpar_none q i (by simpa using h)
theorem rpar_some {c : Nat} : ∀ {a p q : List Nat}, rpar c a = some (p, q) → a = p ++ c :: q ∧ ∀ k : Nat, p.length < k → a[k]? ≠ some c
  | x :: xs, p, q, e => by
    unfold rpar at e
    cases h : rpar c xs with
    | some pq =>
      obtain ⟨p', q'⟩ := pq
      rw [h] at e
      cases e
      obtain ⟨h1, h2⟩ := rpar_some h
      refine ⟨by rw [h1]; rfl, fun k hk => ?_⟩
      cases k with
      | zero => simp at hk
      | succ k =>
        rw [List.getElem?_cons_succ]
        exact h2 k (by simpa using hk)
    | none =>
      rw [h] at e
      simp only at e
      split at e
      · rename_i hc
        cases e
        refine ⟨by rw [hc]; rfl, fun k hk => ?_⟩
        cases k with
        | zero => simp at hk
        | succ k =>
          rw [List.getElem?_cons_succ]
          exact rpar_none h k
      · cases e
theorem last_rpar (a : List Nat) (c : Nat) : Builtin.Str.lastOccurrence ⟨a.toArray⟩ ⟨#[c]⟩ 0 (⟨a.toArray⟩ : Str).length = (rpar c a).map (fun pq => pq.1.length) := by
  have hat : ∀ i, StrLaws.At ⟨a.toArray⟩ ⟨#[c]⟩ (⟨a.toArray⟩ : Str).length i ↔ a[i]? = some c := fun i => by
    have := StrLaws.subAt_one ⟨a.toArray⟩ c i
    exact this
  rcases StrLaws.last_spec ⟨a.toArray⟩ ⟨#[c]⟩ with ⟨h1, h2⟩ | ⟨i, h1, h2, h3⟩
  · rw [h1]
    cases q : rpar c a with
    | none => rfl
    | some pq =>
      obtain ⟨p, r⟩ := pq
      obtain ⟨e, _⟩ := rpar_some q
      have : a[p.length]? = some c := by rw [e]; simp
      exact absurd ((hat _).mpr this) (h2 _)
  · rw [h1]
    cases q : rpar c a with
    | none => exact absurd ((hat i).mp h2) (rpar_none q i)
    | some pq =>
      obtain ⟨p, r⟩ := pq
      obtain ⟨e, h4⟩ := rpar_some q
      have hp : a[p.length]? = some c := by rw [e]; simp
      rcases Nat.lt_trichotomy i p.length with h | h | h
      · exact absurd ((hat _).mpr hp) (h3 _ h)
      · rw [h]; rfl
      · exact absurd ((hat i).mp h2) (h4 i h)
theorem mt_rpartF : MtR X "str.rpartition" (fun x xs H Q => ∃ (a : List Nat) (c : Nat), x = .str ⟨a.toArray⟩ ∧ xs = [.str ⟨#[c]⟩] ∧ a.length ≤ sizeLine ∧
    NewT (match rpar c a with
      | some (p, q) => [.str ⟨p.toArray⟩, .str ⟨#[c]⟩, .str ⟨q.toArray⟩]
      | none => [.str ⟨#[]⟩, .str ⟨#[]⟩, .str ⟨a.toArray⟩]) H Q) := by
  intro pins s σ H x xs v us Q I rx rs h
  obtain ⟨a, c, rfl, rfl, hz, h⟩ := h
  obtain ⟨t, rfl⟩ := rx
  cases rs with
  | cons r1 rs =>
    cases rs
    obtain ⟨u, rfl⟩ := r1
    refine call_meets PySem.F.slot_str_rpartition (typeIs_str _ _ _) PySem.F.entry_str_rpartition (PySem.F.args_str_rpartition_2 _ _) (meets_str_rpartition _ _ t u rfl (by rw [lenL]; exact hz)) ?_
    rw [last_rpar]
    cases q : rpar c a with
    | none =>
      rw [q] at h
      exact newT_end I (.cons (relTx _ _) (.cons (relTx _ _) (.cons (relTx _ _) .nil))) (by show 3 ≤ sizeLine; decide) h
    | some pq =>
      obtain ⟨p, r⟩ := pq
      rw [q] at h
      obtain ⟨e, _⟩ := rpar_some q
      have e1 : Builtin.Str.strSub ⟨a.toArray⟩ 0 p.length = ⟨p.toArray⟩ := TL.ext_tl (by rw [TL.tl_strSub, List.drop_zero, Nat.sub_zero]; show a.take p.length = p; rw [e]; simp)
      have e2 : Builtin.Str.strSub ⟨a.toArray⟩ (p.length + (⟨#[c]⟩ : Str).length) (⟨a.toArray⟩ : Str).length = ⟨r.toArray⟩ := TL.ext_tl (by rw [TL.tl_strSub_end]; show a.drop (p.length + 1) = r; rw [e]; simp)
      simp only [Option.map_some]
      rw [e1, e2]
      exact newT_end I (.cons (relTx _ _) (.cons (relTx _ _) (.cons (relTx _ _) .nil))) (by show 3 ≤ sizeLine; decide) h
end
end Tg
end
section
set_option Elab.async false
set_option linter.all false
set_option autoImplicit false
set_option maxRecDepth 100000
/-! dicts: made, walked; a local def; cells -/
namespace Tg
open PySem PySem.Spec PyProof.Rows L2
section
variable {X : Cx} {W : Wd} {g : Gh} {E : XK}
/-! ### dict(pairs) -/
def pairOf : PV → Option (KP × PV)
  | .tup [k, v] => match kOf k with
    | some k => some (k, v)
    | none => none
  | _ => none
def pairsOf : List PV → Option (List (KP × PV))
  | [] => some []
  | p :: ps => match pairOf p, pairsOf ps with
    | some q, some qs => some (q :: qs)
    | _, _ => none
def mergeL (kvs more : List (KP × PV)) : List (KP × PV) := more.foldl (fun acc kv => putL acc kv.1 kv.2) kvs
def uDict : PV → Option PV
  | .tup l => (pairsOf l).map fun ps => .dct (mergeL [] ps)
  | .lst l => (pairsOf l).map fun ps => .dct (mergeL [] ps)
  | _ => none
/-- a list or a tuple of pairs, what it lies on -/
def PlainAt (K : PySem.W.Frag) (H : Hp) (a : Addr) (T : String) (xs : List V) : Prop := (T = "list" ∧ SqL K H a xs) ∨ (T = "tuple" ∧ (PTu H a xs ∨ KTup K a xs))
theorem plain_of {pins : List (Addr × Obj)} {σ : L2.St} {H : Hp} {s : Shared} {a : Addr} {T : String} {xs : List V} (I : Inv X pins σ H s) (h : PlainAt X.K H a T xs) : ∃ us : List Value, Vals xs us ∧ PlainSeq T s.heap a us.toArray ∧ xs.length ≤ sizeLine := by
  rcases h with ⟨rfl, h⟩ | ⟨rfl, ⟨o, e, hd⟩ | ⟨o, its, n, ⟨h1, h2, h3, h4, h5⟩, hd⟩⟩
  · obtain ⟨us, r, ⟨o, n, ho, hc, hd, hdat⟩, hz⟩ := I.list h
    exact ⟨us, r, ⟨o, n, ho, hc, hd, hdat⟩, hz⟩
  · obtain ⟨h1, h2, us, r, o', ho', hc, n, hdat⟩ := I.hok a _ e
    rw [h1] at ho'
    cases ho'
    exact ⟨us, r, ⟨o, n, h1, hc, hd, hdat⟩, h2⟩
  · exact ⟨its.toList, h5, ⟨o, n, I.kIn _ _ h1, h2, hd, by simpa using h3⟩, by rw [h5.length]; simpa using h4⟩
theorem call_dictT (hcalm : X.calm = true) : CallR X (.type "dict") (fun xs H Q => ∃ (a : Addr) (T : String) (ps : List Addr) (kvs : List (Key × V)), xs = [.ref a] ∧ PlainAt X.K H a T (ps.map V.ref) ∧ Paired (fun p kv => SqT X.K H p [kV kv.1, kv.2]) ps kvs ∧
    ∀ p, H p = none → Q (.ref p) (upd H p (.dK (mergeK [] kvs)))) := by
  intro pins s σ H xs us Q I r q
  obtain ⟨a, T, ps, kvs, rfl, hq, hp, q⟩ := q
  obtain ⟨u, rfl, rx⟩ := vals1 r
  cases rx
  obtain ⟨ts, rv, pl, hz⟩ := plain_of I hq
  have ei := refs_at rv
  subst ei
  rw [List.length_map] at hz
  obtain ⟨prs, rel, hl, hpr⟩ := pairs_of I hp
  -- the pairs as the walk reads them
  have hex : ∀ j : Nat, ∃ u : Value, ∀ q : Key × Value, prs[j]? = some q → ∃ b : Addr, ps[j]? = some b ∧ IsTup s.heap b #[u, q.2] ∧ keyIs q.1 u = true := fun j => by
    cases e : prs[j]? with
    | none => exact ⟨.none, fun q h => by cases h⟩
    | some q =>
      obtain ⟨b, u, h1, h2, h3⟩ := hpr j q e
      exact ⟨u, fun q' h => by cases h; exact ⟨b, h1, h2, h3⟩⟩
  let kf : Nat → Value := fun j => Classical.choose (hex j)
  have hkf : ∀ j (q : Key × Value), prs[j]? = some q → ∃ b : Addr, ps[j]? = some b ∧ IsTup s.heap b #[kf j, q.2] ∧ keyIs q.1 (kf j) = true := fun j => Classical.choose_spec (hex j)
  let pv : List (Value × Value) := prs.mapIdx fun j q => (kf j, q.2)
  have hpv : ∀ (j : Nat) (k v : Value), pv[j]? = some (k, v) → ∃ q, prs[j]? = some q ∧ k = kf j ∧ v = q.2 := fun j k v h => by
    simp only [pv, List.getElem?_mapIdx] at h
    cases e : prs[j]? with
    | none => rw [e] at h; cases h
    | some q => rw [e] at h; cases h; exact ⟨q, rfl, rfl, rfl⟩
  have hpl : pv.length = prs.length := by simp [pv]
  have ok : PlainSeq T s.heap a (ps.map Value.ref).toArray ∧ PairItems s.heap (ps.map Value.ref).toArray (fun j => ps.getD j 0) pv := by
    refine ⟨pl, by simp [hpl, hl], fun j k v h => ?_⟩
    obtain ⟨q, h1, rfl, rfl⟩ := hpv j k v h
    obtain ⟨b, e1, e2, _⟩ := hkf j q h1
    refine ⟨by simp [e1], .inl ?_⟩
    have : ps.getD j 0 = b := by rw [List.getD_eq_getElem?_getD, e1]; rfl
    show s.heap.IsTuple (ps.getD j 0) _
    rw [this]
    exact e2
  have have' : PairsHave (mixKind X.prog X.w) pv.length (PairRel pv) prs := ⟨hpl.symm, fun i key v h => by
    obtain ⟨q, h1, rfl, rfl⟩ := hpv i key v h
    obtain ⟨b, _, _, e3⟩ := hkf i q h1
    exact ⟨q.1, h1, e3⟩⟩
  have end' : ∀ h' tk, h'.DictOf (mixKind X.prog X.w) s.heap.objs.size (merged [] prs) → (∀ b o, b ∉ ([] : List Addr) → s.heap.get? b = some o → h'.get? b = some o) → EP X pins σ Q (.ref s.heap.objs.size) { s with heap := h', toks := tk } := fun h' tk hd' k => by
    have hm : (s.heap.objs.size == sysModules) = false := beq_eq_false_iff_ne.mpr (Nat.ne_of_gt I.big)
    have hn : (mergeK [] kvs).length ≤ sizeLine := Nat.le_trans (length_mergeK kvs []) (by rw [List.length_nil, Nat.zero_add, rel.length, hl]; exact hz)
    exact ⟨.ref s.heap.objs.size, upd H s.heap.objs.size (.dK (mergeK [] kvs)), I.laid (fun b u e => k b u (by simp) e) (Nat.le_refl _) ⟨hn, hm, merged [] prs, KV.merge rel .nil, hd'⟩, rfl, q _ (I.hok.fresh (Nat.le_refl _))⟩
  have hzp : pv.length ≤ sizeLine := by rw [hpl, hl]; exact hz
  rcases hq with ⟨rfl, _⟩ | ⟨rfl, _⟩
  · exact PySem.call_dict_pairs (PairArg.list a (ps.map Value.ref).toArray (fun j => ps.getD j 0) pv) (I.ok.hd hcalm) ok have' hzp end'
  · exact PySem.call_dict_pairs (PairArg.tuple a (ps.map Value.ref).toArray (fun j => ps.getD j 0) pv) (I.ok.hd hcalm) ok have' hzp end'
theorem pairOf_eq {p : PV} {k : KP} {v : PV} (h : pairOf p = some (k, v)) : ∃ kv, p = .tup [kv, v] ∧ kOf kv = some k := by
  unfold pairOf at h
  split at h
  · rename_i k0 v0
    cases q : kOf k0 with
    | none => rw [q] at h; cases h
    | some k1 => rw [q] at h; cases h; exact ⟨k0, rfl, q⟩
  · cases h
theorem pairs_rep {H : Hp} {b : Bn} : ∀ {l : List PV} {xs : List V} {ps : List (KP × PV)}, Reps W H b l xs → pairsOf l = some ps → ∃ (as : List Addr) (kvs : List (Key × V)), xs = as.map V.ref ∧ Paired (fun p kv => SqT W.K H p [kV kv.1, kv.2]) as kvs ∧ RepK W H b ps kvs
  | _, _, _, .nil, e => by cases e; exact ⟨[], [], rfl, .nil, .nil⟩
  | p :: l, _, ps, .cons r t, e => by
    unfold pairsOf at e
    cases q1 : pairOf p with
    | none => rw [q1] at e; cases e
    | some kv =>
      cases q2 : pairsOf l with
      | none => rw [q1, q2] at e; cases e
      | some qs =>
        rw [q1, q2] at e
        simp only [Option.some.injEq] at e
        subst e
        obtain ⟨k, v⟩ := kv
        obtain ⟨kp, rfl, hk⟩ := pairOf_eq q1
        obtain ⟨as, kvs, rfl, hp, hr⟩ := pairs_rep t q2
        cases r with
        | @tup a xs _ hn rs =>
          cases rs with
          | cons rk rs =>
            cases rs with
            | cons rv rs =>
              cases rs
              have ek := kOf_of hk (.inl rk)
              subst ek
              refine ⟨a :: as, (kK k, _) :: kvs, rfl, .cons ?_ hp, .cons rv hr⟩
              rcases hn with ⟨_, h⟩ | h
              · exact h.sq _
              · exact h.sq
theorem RepK.merge {H : Hp} {b : Bn} : ∀ {more : List (KP × PV)} {xs : List (Key × V)} {kvs : List (KP × PV)} {ys : List (Key × V)}, RepK W H b more xs → RepK W H b kvs ys → RepK W H b (mergeL kvs more) (mergeK ys xs)
  | _, _, _, _, .nil, r => r
  | _, _, _, _, .cons rv t, r => by
    unfold mergeL mergeK
    rw [List.foldl_cons, List.foldl_cons]
    exact RepK.merge t (r.put rv)
theorem sf_dict {e : Expr} {d : Den} {p pos : Pos} (hK : X.K = W.K) (hc : X.calm = true) (hg : Gl X "dict") (hm : X.mg "dict" = none) (he : PE X e (tEv W g E d))
    (hs : starEach [e] X.env = (false, eval e X.env) :: starEach [] X.env) (hpl : (backTo pos (starEach [] X.env)).any (·.1) = false) : PE X (.Call (.Name "dict" p) [e] [] pos) (tEf W g E (dB1 uDict d)) := by
  refine peI (pe_callTy (call_dictT hc) hg hm (by decide +kernel) (pa_cons he pa_nil hs) (by decide) (by decide) hs hpl) ?_
  intro σ H Q h
  refine (tF.seq (k := fun _ v S => okv (uDict v) S) h).imp fun v S1 H1 b1 s1 ⟨ρ, O, e1, f⟩ x rx => ?_
  cases v with
  | tup l =>
    simp only [uDict] at f
    cases q : pairsOf l with
    | none => rw [q] at f; exact f.elim
    | some ps =>
      rw [q] at f
      cases rx with
      | @tup a xs _ hn rs =>
        obtain ⟨as, kvs, rfl, hp, hr⟩ := pairs_rep rs q
        refine ⟨a, "tuple", as, kvs, rfl, .inr ⟨rfl, ?_⟩, hK ▸ hp, fun p hp => f H1 b1 (.refl s1) p _ hp (RepK.merge hr .nil)⟩
        rw [hK]
        rcases hn with ⟨_, h⟩ | h
        · exact .inl h
        · exact .inr h
  | lst l =>
    simp only [uDict] at f
    cases q : pairsOf l with
    | none => rw [q] at f; exact f.elim
    | some ps =>
      rw [q] at f
      cases rx with
      | @lst a xs _ h rs =>
        obtain ⟨as, kvs, rfl, hp, hr⟩ := pairs_rep rs q
        exact ⟨a, "list", as, kvs, rfl, .inl ⟨rfl, hK ▸ lst_sq h⟩, hK ▸ hp, fun p hp => f H1 b1 (.refl s1) p _ hp (RepK.merge hr .nil)⟩
  | _ => exact f.elim

/-! ### {} -/
theorem sf_dnew {pos : Pos} : PE X (.Dict [] [] pos) (tEf W g E (dC (.dct []))) := by
  refine peI pe_dnewK ?_
  rintro σ H Q ⟨ρ, S, b, O, e, f⟩
  intro p hp
  exact f H b (.refl e.st) p _ hp .nil

/-! ### d.keys(), d.values(), d.items(), d -/
/-- the dict is fixed from now on -/
def tFix (te : TE) : TE := fun σ H Q => te σ H fun x H1 => ∃ d kvs, x = .ref d ∧ ((H1 d = some (.dK kvs) ∧ ∀ od, Q x (upd H1 d (.frz od (.dK kvs)))) ∨ ∃ od, H1 d = some (.frz od (.dK kvs)) ∧ Q x H1)
theorem pe_fix {e : Expr} {te : TE} (h : PE X e te) : PE X e (tFix te) := ⟨fun pins s σ H Q I hq => by
  refine thn (h.run pins s σ H _ I hq) fun u s1 ⟨x, H1, I1, r, d, kvs, ex, q⟩ => ?_
  rcases q with ⟨hd, q⟩ | ⟨od, hd, q⟩
  · obtain ⟨od, I2⟩ := I1.lock hd trivial
    exact ⟨x, _, I2, r, q od⟩
  · exact ⟨x, H1, I1, r, q⟩⟩
/-- what is walked in a dict -/
inductive DW where
  | keys | vals | items
  deriving DecidableEq
def kV' : KP → PV
  | .i n => .int n
  | .s l => .str l
def DW.of : DW → List (KP × PV) → List PV
  | .keys, ps => ps.map fun kv => kV' kv.1
  | .vals, ps => ps.map (·.2)
  | .items, ps => ps.map fun kv => pr (kV' kv.1) kv.2
def walkV (m : DW) : PV → Option (List PV)
  | .dct ps => some (m.of ps)
  | _ => none
def dWalk (m : DW) (d : Den) : Den := fun ρ S => (d ρ S).bnd fun v S1 => okL (walkV m v) S1
theorem kV_rep {H : Hp} {b : Bn} (k : KP) : Rep W H b (kV' k) (kV (kK k)) := by
  cases k with
  | i n => exact .int n
  | s l => exact .str l
theorem RepK.get {H : Hp} {b : Bn} : ∀ {ps : List (KP × PV)} {xs : List (Key × V)} {i : Nat} {q : KP × PV}, RepK W H b ps xs → ps[i]? = some q → ∃ x, xs[i]? = some (kK q.1, x) ∧ Rep W H b q.2 x
  | _, _, 0, _, .cons r _, e => by simp at e; subst e; exact ⟨_, rfl, r⟩
  | _, _, i + 1, _, .cons _ t, e => by
    obtain ⟨x, h1, h2⟩ := RepK.get (i := i) t (by simpa using e)
    exact ⟨x, by simpa using h1, h2⟩
/-- a fixed dict, later -/
theorem fix_kp {b b' : Bn} {H H' : Hp} {a : Addr} {od : Obj} {kvs : List (Key × V)} (k : Kp b b' H H') (n : ¬ b.no a) (e : H a = some (.frz od (.dK kvs))) : H' a = some (.frz od (.dK kvs)) := by
  obtain ⟨⟨o', q, kd⟩, _⟩ := k.k a _ e n
  rw [kd.frz] at q
  exact q
theorem src_vals {H : Hp} {b : Bn} {ps : List (KP × PV)} {kvs : List (Key × V)} {a : Addr} {od : Obj} (n : ¬ b.no a) (e : H a = some (.frz od (.dK kvs))) (r : RepK W H b ps kvs) : SrcOk W false (Itd a od kvs) H b (DW.vals.of ps) := by
  intro H' b' k hf i
  have e' := fix_kp k n e
  have r' := RepK.kp k r
  have hl := RepK.length r'
  refine ⟨fun p hp => ?_, fun hi => ⟨e', by rw [← hl]; simpa [DW.of] using hi⟩⟩
  simp only [DW.of, List.getElem?_map] at hp
  cases q : ps[i]? with
  | none => rw [q] at hp; cases hp
  | some kv =>
    rw [q] at hp
    cases hp
    obtain ⟨x, hx, rx⟩ := RepK.get r' q
    refine ⟨⟨e', (List.getElem?_eq_some_iff.mp hx).1⟩, fun z H'' y => ?_⟩
    obtain ⟨rfl, k', hk⟩ := y
    rw [hx] at hk
    cases hk
    exact ⟨fun _ _ e => e, .inl rx⟩
theorem src_keys {H : Hp} {b : Bn} {ps : List (KP × PV)} {kvs : List (Key × V)} {a : Addr} {od : Obj} (n : ¬ b.no a) (e : H a = some (.frz od (.dK kvs))) (r : RepK W H b ps kvs) : SrcOk W false (Itk a od kvs) H b (DW.keys.of ps) := by
  intro H' b' k hf i
  have e' := fix_kp k n e
  have r' := RepK.kp k r
  have hl := RepK.length r'
  refine ⟨fun p hp => ?_, fun hi => ⟨e', by rw [← hl]; simpa [DW.of] using hi⟩⟩
  simp only [DW.of, List.getElem?_map] at hp
  cases q : ps[i]? with
  | none => rw [q] at hp; cases hp
  | some kv =>
    rw [q] at hp
    cases hp
    obtain ⟨x, hx, rx⟩ := RepK.get r' q
    refine ⟨⟨e', (List.getElem?_eq_some_iff.mp hx).1⟩, fun z H'' y => ?_⟩
    obtain ⟨rfl, k', v', hk, rfl⟩ := y
    rw [hx] at hk
    cases hk
    exact ⟨fun _ _ e => e, .inl (kV_rep _)⟩
theorem src_items {H : Hp} {b : Bn} {ps : List (KP × PV)} {kvs : List (Key × V)} {a : Addr} {od : Obj} (n : ¬ b.no a) (e : H a = some (.frz od (.dK kvs))) (r : RepK W H b ps kvs) : SrcOk W true (Iti a od kvs) H b (DW.items.of ps) := by
  intro H' b' k hf i
  have e' := fix_kp k n e
  have r' := RepK.kp k r
  have hl := RepK.length r'
  refine ⟨fun p hp => ?_, fun hi => ⟨e', by rw [← hl]; simpa [DW.of] using hi⟩⟩
  simp only [DW.of, List.getElem?_map] at hp
  cases q : ps[i]? with
  | none => rw [q] at hp; cases hp
  | some kv =>
    rw [q] at hp
    cases hp
    obtain ⟨x, hx, rx⟩ := RepK.get r' q
    refine ⟨⟨e', (List.getElem?_eq_some_iff.mp hx).1⟩, fun z H'' y => ?_⟩
    obtain ⟨T, k', v', hk, rfl, hT, rfl⟩ := y
    rw [hx] at hk
    cases hk
    exact ⟨same_upd hT, .inr ⟨rfl, _, T, _, rfl, rfl, upd_same, .cons ((kV_rep _).grow (same_upd hT)) (.cons (rx.grow (same_upd hT)) .nil)⟩⟩
/-- the reading of the dict that is walked -/
theorem walk_of {m : DW} {w : Bool} {d : Den} {σ : L2.St} {H : Hp} {R : It → Hp → Prop} {J : Addr → Obj → List (Key × V) → It} (hJ : ∀ {H : Hp} {b : Bn} {ps : List (KP × PV)} {kvs : List (Key × V)} {a : Addr} {od : Obj}, ¬ b.no a → H a = some (.frz od (.dK kvs)) → RepK W H b ps kvs → SrcOk W w (J a od kvs) H b (m.of ps))
    (h : tI W w g E (dWalk m d) σ H R) : tFix (tEv W g E d) σ H fun x H1 => ∃ a od kvs, x = .ref a ∧ H1 a = some (.frz od (.dK kvs)) ∧ R (J a od kvs) H1 := by
  refine (tF.seq (k := fun _ v S1 => okL (walkV m v) S1) h).imp fun v S1 H1 b1 s1 ⟨ρ, O, e1, f⟩ x rx => ?_
  cases v with
  | dct ps =>
    cases rx with
    | @dct a kvs _ hn r =>
      obtain ⟨n, hd⟩ := hn
      refine ⟨a, kvs, rfl, ?_⟩
      rcases hd with hd | ⟨od, hd⟩
      · refine .inl ⟨hd, fun od => ⟨a, od, kvs, rfl, upd_same, ?_⟩⟩
        have st : Stp b1 b1 H1 (upd H1 a (.frz od (.dK kvs))) := ⟨fun _ => Iff.rfl, ⟨[], by simp⟩, fun _ h n => absurd h n, fun c o q _ => by
          by_cases z : c = a
          · subst z
            rw [hd] at q
            cases q
            exact ⟨_, upd_same, .inr ⟨od, kvs, rfl, rfl⟩, fun h => absurd (.inl h) n⟩
          · exact ⟨o, by rw [upd_ne z]; exact q, .refl, fun _ => rfl⟩⟩
        have kp : Kp b1 b1 H1 (upd H1 a (.frz od (.dK kvs))) := st.kp
        have so : StoreOk W (upd H1 a (.frz od (.dK kvs))) b1 S1 := s1.kp kp rfl fun c hc => upd_ne fun z => n (.inr (by rw [← z]; exact hc))
        exact f _ b1 ⟨st, so⟩ _ (hJ n upd_same (RepK.kp kp r))
      · exact .inr ⟨od, hd, a, od, kvs, rfl, hd, f H1 b1 (.refl s1) _ (hJ n hd r)⟩
  | _ => exact f.elim
theorem si_vals {tg e : Expr} {d : Den} {apos cpos : Pos} (he : PE X e (tEv W g E d)) (hbase : attributeBase e "values" X.env (eval e X.env) = eval e X.env) (hline : (apos.endLine == cpos.line) = true) :
    PI X tg (.Call (.Attribute e "values" apos) [] [] cpos) (tI W false g E (dWalk .vals d)) :=
  ⟨fun pins s σ H R I h => (pi_values (pe_fix he) hbase hline).run pins s σ H R I (by
    have := walk_of (J := Itd) src_vals h
    refine this.imp fun v S' H' b' _ q x rx => ?_
    obtain ⟨d, kvs, rfl, q⟩ := q x rx
    refine ⟨d, kvs, rfl, ?_⟩
    rcases q with ⟨h1, h2⟩ | ⟨od, h1, h2⟩
    · refine .inl ⟨h1, fun od => ?_⟩
      obtain ⟨a, od', kvs', ea, h3, h4⟩ := h2 od
      exact ⟨a, od', kvs', ea, h3, h4⟩
    · obtain ⟨a, od', kvs', ea, h3, h4⟩ := h2
      exact .inr ⟨od, h1, a, od', kvs', ea, h3, h4⟩)⟩
theorem si_items {e : Expr} {elts : List Expr} {kk : Nat} {tpos : Pos} {d : Den} {apos cpos : Pos} (he : PE X e (tEv W g E d)) (hbase : attributeBase e "items" X.env (eval e X.env) = eval e X.env) (hline : (apos.endLine == cpos.line) = true) :
    PI X (.Tuple elts kk tpos) (.Call (.Attribute e "items" apos) [] [] cpos) (tI W true g E (dWalk .items d)) :=
  ⟨fun pins s σ H R I h => (pi_items (pe_fix he) hbase hline).run pins s σ H R I (walk_of (J := Iti) src_items h)⟩
theorem si_keys {tg e : Expr} {d : Den} (he : PE X e (tEv W g E d)) : PI X tg e (tI W false g E (dWalk .keys d)) :=
  ⟨fun pins s σ H R I h => (pi_keys (pe_fix he)).run pins s σ H R I (by
    have := walk_of (J := Itk) src_keys h
    refine this.imp fun v S' H' b' _ q x rx => ?_
    obtain ⟨d, kvs, rfl, q⟩ := q x rx
    refine ⟨d, kvs, rfl, ?_⟩
    rcases q with ⟨h1, h2⟩ | ⟨od, h1, h2⟩
    · refine .inl ⟨h1, fun od => ?_⟩
      obtain ⟨a, od', kvs', ea, h3, h4⟩ := h2 od
      exact ⟨a, od', ea, .inl ⟨kvs', h3, h4⟩⟩
    · obtain ⟨a, od', kvs', ea, h3, h4⟩ := h2
      exact .inr ⟨od, h1, a, od', ea, .inl ⟨kvs', h3, h4⟩⟩)⟩
end
end Tg
end
section
set_option Elab.async false
set_option linter.all false
set_option autoImplicit false
set_option maxRecDepth 100000
/-! comprehensions stored; two clauses -/
namespace Tg
open PySem PySem.Spec PyProof.Rows L2
section
variable {X : Cx} {W : Wd} {g : Gh} {E : XK}
/-- name = a fresh thing: owned, or a value -/
theorem own_end {i : Nat} {d : Den} {D : Ends} {σ : L2.St} {H : Hp} (h : tS W g E (dOwn i d) D σ H) : tAsg (tEf W g E d) (gName i) D σ H := by
  refine (exS h).imp fun v S1 H1 b1 _ ⟨ρ, O, e1, f⟩ a o ha hm => ?_
  split at f
  · exact f _ _ _ _ (e1.setO i ha hm)
  · exact f.elim
theorem val_end {i : Nat} {d : Den} {D : Ends} {σ : L2.St} {H : Hp} (h : tS W g E (dAsg (.name i) d) D σ H) : tAsg (tEf W g E d) (gName i) D σ H := by
  refine (exS h).imp fun v S1 H1 b1 s1 ⟨ρ, O, e1, f⟩ a o ha hm => ?_
  have e2 := e1.adv (.new (o := o) s1 ha)
  exact f _ _ _ _ (e2.set (hm.rep ha (e1.fresh ha)))
theorem ss_setLc {w own : Bool} {i : Nat} {y : Str} {py : Pos} {elt tg iter : Expr} {ifs : List Expr} {scope : Scope} {own' : List (Str × Nat)} {pos spos : Pos} {t : Tgt} {src tt te : Den} (hc : X.calm = true) (hN : X.N.Nodup) (hy : X.N[i]? = some y) (hyl : X.env.scope.names.lookup y = some .local)
    (hsw : swapsWith (.ListComp elt [⟨tg, iter, ifs, 0⟩] scope pos) (some (.Name y py)) spos.line X.env = pure true) (hi : PI X tg iter (tI W w g E src)) (ok : BlkOk X.N X.env.scope scope own') (hv : ∀ i ∈ t.slots, i ∈ own'.map (·.2))
    (hg : ∀ (s : Shared) (H : Hp) (C : Addr) (cl : List (Str × Addr)) (fp : List Addr), PG (X.blk s H scope (compEnvC scope cl C X.env) fp) tg (tG W w g t))
    (ht : ∀ (s : Shared) (H : Hp) (C : Addr) (cl : List (Str × Addr)) (fp : List Addr), PTs (X.blk s H scope (compEnvC scope cl C X.env) fp) ifs (tEt W g XK0 tt))
    (he : ∀ (s : Shared) (H : Hp) (C : Addr) (cl : List (Str × Addr)) (fp : List Addr), PE (X.blk s H scope (compEnvC scope cl C X.env) fp) elt (tEv W g XK0 te)) (hs : ∀ x, foldedSetIterable iter X.env x = pure x) :
    PS X (.Assign [.Name y py] (.ListComp elt [⟨tg, iter, ifs, 0⟩] scope pos) spos) (tS W g E (if own = true then dOwn i (dLc (own'.map (·.2)) t src tt te) else dAsg (.name i) (dLc (own'.map (·.2)) t src tt te))) := by
  refine psI (ps_setLc hc hN hy hyl hsw hi ok hg ht he hs) ?_
  intro D σ H h
  have key : tAsg (tEf W g E (dLc (own'.map (·.2)) t src tt te)) (gName i) D σ H := by
    cases own with
    | true => exact own_end h
    | false => exact val_end h
  exact lc_imp hv key

/-! ### two clauses -/
def lcGo2 (vs1 : List Nat) (t0 : Tgt) (tt0 : Den) (t1 : Tgt) (src1 tt1 te : Den) (ρ : Env) : List PV → Store → Rs (List PV)
  | [], S => .ok [] S
  | v :: vs, S => match t0.put v ρ with
    | none => .bad
    | some ρ1 => match tt0 ρ1 S with
      | .ok c S1 => match truth c with
        | some true => match src1 ρ1 S1 with
          | .ok q S2 => (lcGo t1 tt1 te (wipeE ρ1 vs1) (asL q) S2).bnd fun rs S3 => (lcGo2 vs1 t0 tt0 t1 src1 tt1 te ρ vs S3).bnd fun r S4 => .ok (rs ++ r) S4
          | _ => .bad
        | some false => lcGo2 vs1 t0 tt0 t1 src1 tt1 te ρ vs S1
        | none => .bad
      | _ => .bad
/-- of a list of at most the line's length -/
def okLine (r : List PV) (S : Store) : Rs PV := if r.length ≤ sizeLine then .ok (.lst r) S else .bad
def lcK2 (vs vs1 : List Nat) (t0 : Tgt) (tt0 : Den) (t1 : Tgt) (src1 tt1 te : Den) (ρ : Env) (v : PV) (S1 : Store) : Rs PV := (lcGo2 vs1 t0 tt0 t1 src1 tt1 te (wipeE ρ vs) (asL v) S1).bnd okLine
def dLc2 (vs vs1 : List Nat) (t0 : Tgt) (src0 tt0 : Den) (t1 : Tgt) (src1 tt1 te : Den) : Den := fun ρ S => (src0 ρ S).bnd (lcK2 vs vs1 t0 tt0 t1 src1 tt1 te ρ)
/-- what stands within a block that fills D -/
structure Fill (W : Wd) (g : Gh) (ρw : Env) (O : Addr → Prop) (σw : L2.St) (b1 : Bn) (H1 : Hp) (D : Addr) (H : Hp) (S : Store) (b : Bn) (acc : List V) (pacc : List PV) : Prop where
  e : EnvOk W g ρw S b (fun a => O a ∨ a = D) σw H
  stp : Stp b1 ⟨b1.B, b.m⟩ H1 (without H D)
  bB : ∀ a, b.B a ↔ (b1.B a ∨ a = D)
  hD : H D = some (.lst acc)
  r : Reps W H b pacc acc
section
variable {ρw : Env} {O : Addr → Prop} {σw : L2.St} {b1 : Bn} {H1 : Hp} {D : Addr} {H : Hp} {S : Store} {b : Bn} {acc : List V} {pacc : List PV}
theorem Fill.mD (L : Fill W g ρw O σw b1 H1 D H S b acc pacc) : D ∉ b.m := (L.e.oB D (.inr rfl)).2.2
theorem Fill.kp (L : Fill W g ρw O σw b1 H1 D H S b acc pacc) (hD : H1 D = none) : Kp b1 b H1 H := ⟨fun a o q n => (by
    have z : a ≠ D := fun z => by rw [z, hD] at q; cases q
    obtain ⟨o1, q1, k1, _⟩ := L.stp.keep a o q fun h => n (.inr h)
    rw [without_ne z] at q1
    refine ⟨⟨o1, q1, k1⟩, fun hn => ?_⟩
    rcases hn with hn | hn
    · rcases (L.bB a).mp hn with hn | hn
      · exact n (.inl hn)
      · exact z hn
    · exact L.stp.ban q n (.inr hn)), L.stp.m⟩
/-- a step within -/
theorem Fill.adv (L : Fill W g ρw O σw b1 H1 D H S b acc pacc) {S' : Store} {b' : Bn} {H' : Hp} (d : Adv W b b' H H' S') : Fill W g ρw O σw b1 H1 D H' S' b' acc pacc := by
  have c : Stp ⟨b1.B, b.m⟩ ⟨b1.B, b'.m⟩ (without H D) (without H' D) := ⟨fun _ => Iff.rfl, d.stp.m, fun a ha hn => (by
    have := d.stp.new a ha hn
    have z : a ≠ D := fun z => by
      rw [z, L.hD] at this; cases this
    rw [without_ne z]; exact this), fun a o q n => (by
    by_cases z : a = D
    · rw [z] at q; unfold without at q; rw [if_pos rfl] at q; cases q
    · rw [without_ne z] at q ⊢
      obtain ⟨o1, q1, k1, x1⟩ := d.stp.keep a o q n
      exact ⟨o1, q1, k1, fun h => x1 ((L.bB a).mpr (.inl h))⟩)⟩
  exact ⟨L.e.adv d, L.stp.trans c, fun a => (d.stp.B a).trans (L.bB a), d.stp.keepL L.hD L.mD, L.r.step d.stp⟩
/-- one more -/
theorem Fill.more (L : Fill W g ρw O σw b1 H1 D H S b acc pacc) (hn : ∀ (i : Nat) (p : PV), look ρw i = .own p → σw[i]? ≠ some (some (.ref D))) {y : V} {yv : PV} (ry : Rep W H b yv y) : Fill W g ρw O σw b1 H1 D (upd H D (.lst (acc ++ [y]))) S b (acc ++ [y]) (pacc ++ [yv]) := by
  have ku : Kp b b H (upd H D (.lst (acc ++ [y]))) := .of (fun a o q n => by
    have z : a ≠ D := fun z => n (.inl ((L.bB a).mpr (.inr z)))
    exact ⟨by rw [upd_ne z]; exact q, n⟩) ⟨[], by simp⟩
  refine ⟨L.e.upd (.inr rfl) hn, ?_, L.bB, upd_same, Reps.kp ku (L.r.append (.cons ry .nil))⟩
  have z : without (upd H D (.lst (acc ++ [y]))) D = without H D := by
    funext a
    by_cases z : a = D
    · rw [z]; unfold without; rw [if_pos rfl, if_pos rfl]
    · rw [without_ne z, without_ne z, upd_ne z]
  rw [z]
  exact L.stp
/-- the end of the block -/
theorem Fill.done (L : Fill W g ρw O σw b1 H1 D H S b acc pacc) {Q : VK} (f : fin W E (fun v _ H' b' => ∀ a o, H' a = none → Mk1 W H' b' v o → Q (.ref a) (upd H' a o)) b1 H1 (.ok (.lst pacc) S)) : Q (.ref D) H := by
  have kw : Kp b ⟨b1.B, b.m⟩ H (without H D) := .of (fun a o q n => by
    have z : a ≠ D := fun z => n (.inl ((L.bB a).mpr (.inr z)))
    exact ⟨by rw [without_ne z]; exact q, fun q => n (by
      rcases q with q | q
      · exact .inl ((L.bB a).mpr (.inl q))
      · exact .inr q)⟩) ⟨[], by simp⟩
  have adv : Adv W b1 ⟨b1.B, b.m⟩ H1 (without H D) S := ⟨L.stp, L.e.st.kp kw rfl fun a ha => without_ne fun z => L.mD (by rw [← z]; exact ha)⟩
  have := f _ _ adv D (.lst acc) (by unfold without; rw [if_pos rfl]) (L.r.kp kw)
  rwa [upd_without L.hD] at this
end
/-- begun -/
theorem Fill.begin {ρ : Env} {S : Store} {b1 : Bn} {O : Addr → Prop} {σ : L2.St} {H1 : Hp} {D : Addr} (e : EnvOk W g ρ S b1 O σ H1) (hD : H1 D = none) : Fill W g ρ O σ b1 H1 D (upd H1 D (.lst [])) S ⟨fun a => b1.B a ∨ a = D, b1.m⟩ [] [] :=
  ⟨e.own hD, ⟨fun _ => Iff.rfl, ⟨[], by simp⟩, fun a h n => absurd h n, fun a o q n => (by
    have z : a ≠ D := fun z => by rw [z, hD] at q; cases q
    exact ⟨o, by rw [without_ne z, upd_ne z]; exact q, .refl, fun _ => rfl⟩)⟩, fun _ => Iff.rfl, upd_same, .nil⟩
theorem own_ne {ρ : Env} {S : Store} {b1 : Bn} {O : Addr → Prop} {σ : L2.St} {H1 : Hp} {D : Addr} (e : EnvOk W g ρ S b1 O σ H1) (hD : H1 D = none) : ∀ (i : Nat) (p : PV), look ρ i = .own p → σ[i]? ≠ some (some (.ref D)) := fun i p q z => by
  obtain ⟨a, z2, _, hw⟩ := e.ownAt q
  rw [z2] at z
  cases z
  obtain ⟨o, z3⟩ := hw.there
  rw [hD] at z3; cases z3
theorem bnd_ne {α β : Type} {r : Rs α} {k : α → Store → Rs β} {c : Nat} {v : PV} {S' : Store} (h : ∀ c v S', r ≠ .exc c v S') (hk : ∀ a S c v S', k a S ≠ .exc c v S') : r.bnd k ≠ .exc c v S' := by
  cases r with
  | ok a S => exact hk a S c v S'
  | exc c v S => exact absurd rfl (h c v S)
  | bad => exact fun z => nomatch z
theorem lcGo_ne {t : Tgt} {tt te : Den} {ρ : Env} : ∀ (l : List PV) (S : Store) (c : Nat) (v : PV) (S' : Store), lcGo t tt te ρ l S ≠ .exc c v S'
  | [], S, c, v, S' => fun h => nomatch h
  | p :: l, S, c, v, S' => by
    unfold lcGo
    split
    · exact fun z => nomatch z
    · split
      · split
        · split
          · exact bnd_ne (lcGo_ne l _) fun _ _ _ _ _ z => nomatch z
          · exact fun z => nomatch z
        · exact lcGo_ne l _ c v S'
        · exact fun z => nomatch z
      · exact fun z => nomatch z
theorem lcGo2_ne {vs1 : List Nat} {t0 t1 : Tgt} {tt0 src1 tt1 te : Den} {ρ : Env} : ∀ (l : List PV) (S : Store) (c : Nat) (v : PV) (S' : Store), lcGo2 vs1 t0 tt0 t1 src1 tt1 te ρ l S ≠ .exc c v S'
  | [], S, c, v, S' => fun h => nomatch h
  | p :: l, S, c, v, S' => by
    unfold lcGo2
    split
    · exact fun z => nomatch z
    · split
      · split
        · split
          · exact bnd_ne (lcGo_ne _ _) fun _ _ _ _ _ => bnd_ne (lcGo2_ne l _) fun _ _ _ _ _ z => nomatch z
          · exact fun z => nomatch z
        · exact lcGo2_ne l _ c v S'
        · exact fun z => nomatch z
      · exact fun z => nomatch z
theorem put_own : ∀ {t : Tgt} {v : PV} {ρ ρ' : Env} {j : Nat} {p : PV}, t.put v ρ = some ρ' → look ρ' j = .own p → look ρ j = .own p ∧ j ∉ t.slots
  | .name i, v, ρ, ρ', j, p, h, hj => by
    cases h
    rw [look_set] at hj
    split at hj
    · cases hj
    · rename_i hn
      refine ⟨hj, fun z => ?_⟩
      have z : j = i := by simpa [Tgt.slots] using z
      subst z
      have : ρ.length ≤ j := Nat.le_of_not_lt fun q => hn ⟨rfl, q⟩
      rw [look_ge this] at hj
      cases hj
  | .nil, .lst [], ρ, ρ', j, p, h, hj => by
    cases h
    exact ⟨hj, by simp [Tgt.slots]⟩
  | .cons a r, .lst (v :: vs), ρ, ρ', j, p, h, hj => by
    simp only [Tgt.put] at h
    cases q : a.put v ρ with
    | none => rw [q] at h; cases h
    | some ρ1 =>
      rw [q] at h
      obtain ⟨h1, h2⟩ := put_own (t := r) h hj
      obtain ⟨h3, h4⟩ := put_own (t := a) q h1
      exact ⟨h3, fun z => (List.mem_append.mp z).elim h4 h2⟩
  | .tup r, .tup vs, ρ, ρ', j, p, h, hj => put_own (t := r) h hj
  | .nil, .lst (_ :: _), _, _, _, _, h, _ => by cases h
  | .nil, .non, _, _, _, _, h, _ => by cases h
  | .nil, .bl _, _, _, _, _, h, _ => by cases h
  | .nil, .int _, _, _, _, _, h, _ => by cases h
  | .nil, .str _, _, _, _, _, h, _ => by cases h
  | .nil, .tup _, _, _, _, _, h, _ => by cases h
  | .nil, .dct _, _, _, _, _, h, _ => by cases h
  | .nil, .kdc _, _, _, _, _, h, _ => by cases h
  | .nil, .fn _, _, _, _, _, h, _ => by cases h
  | .nil, .cell _, _, _, _, _, h, _ => by cases h
  | .cons _ _, .lst [], _, _, _, _, h, _ => by cases h
  | .cons _ _, .non, _, _, _, _, h, _ => by cases h
  | .cons _ _, .bl _, _, _, _, _, h, _ => by cases h
  | .cons _ _, .int _, _, _, _, _, h, _ => by cases h
  | .cons _ _, .str _, _, _, _, _, h, _ => by cases h
  | .cons _ _, .tup _, _, _, _, _, h, _ => by cases h
  | .cons _ _, .dct _, _, _, _, _, h, _ => by cases h
  | .cons _ _, .kdc _, _, _, _, _, h, _ => by cases h
  | .cons _ _, .fn _, _, _, _, _, h, _ => by cases h
  | .cons _ _, .cell _, _, _, _, _, h, _ => by cases h
  | .tup _, .lst _, _, _, _, _, h, _ => by cases h
  | .tup _, .non, _, _, _, _, h, _ => by cases h
  | .tup _, .bl _, _, _, _, _, h, _ => by cases h
  | .tup _, .int _, _, _, _, _, h, _ => by cases h
  | .tup _, .str _, _, _, _, _, h, _ => by cases h
  | .tup _, .dct _, _, _, _, _, h, _ => by cases h
  | .tup _, .kdc _, _, _, _, _, h, _ => by cases h
  | .tup _, .fn _, _, _, _, _, h, _ => by cases h
  | .tup _, .cell _, _, _, _, _, h, _ => by cases h
theorem lc2_imp {w0 w1 : Bool} {t0 t1 : Tgt} {src0 tt0 src1 tt1 te : Den} {vs vs1 : List Nat} {σ : L2.St} {H0 : Hp} {Q : VK} (hv : ∀ i ∈ t0.slots, i ∈ vs) (hv1 : ∀ i ∈ t1.slots, i ∈ vs1) (hsub : ∀ i ∈ vs1, i ∈ vs) (h : tEf W g E (dLc2 vs vs1 t0 src0 tt0 t1 src1 tt1 te) σ H0 Q) :
    tLc2 (tI W w0 g E src0) (tG W w0 g t0) (tEt W g XK0 tt0) (tI W w1 g XK0 src1) (tG W w1 g t1) (tEt W g XK0 tt1) (tEv W g XK0 te) vs vs1 σ H0 Q := by
  refine (tF.seq (k := lcK2 vs vs1 t0 tt0 t1 src1 tt1 te) h).imp fun v S1 H1 b1 s1 ⟨ρ, O, e1, f⟩ J hJ D hD => ?_
  unfold lcK2 at f
  generalize hps : asL v = ps at f hJ
  have ew := e1.wipe vs
  have hDs := own_ne ew hD
  -- the outer state
  let LI : Nat → Hp → Prop := fun i H => ∃ S b acc pacc, Fill W g (wipeE ρ vs) O (L2.wipe σ vs) b1 H1 D H S b acc pacc ∧ i ≤ ps.length ∧ fin W E (fun v _ H' b' => ∀ a o, H' a = none → Mk1 W H' b' v o → Q (.ref a) (upd H' a o)) b1 H1 ((lcGo2 vs1 t0 tt0 t1 src1 tt1 te (wipeE ρ vs) (ps.drop i) S).bnd fun r S' => okLine (pacc ++ r) S')
  refine ⟨fun i m H => m = ps.length - i ∧ LI i H, ⟨_, rfl, S1, _, [], [], .begin ew hD, Nat.zero_le _, f⟩, ?_⟩
  rintro i m H ⟨rfl, S, b, acc, pacc, L, il, f⟩
  have kp1 := L.kp hD
  by_cases hlt : i < ps.length
  case neg =>
    have hie : ps.length ≤ i := Nat.le_of_not_lt hlt
    refine .inl ⟨(hJ H b kp1 (fun p hp => L.e.fresh hp) i).2 hie, ?_⟩
    rw [List.drop_of_length_le hie] at f
    simp only [lcGo2, Rs.bnd, List.append_nil, okLine] at f
    split at f
    · exact L.done f
    · exact f.elim
  have hdrop : ps.drop i = ps[i] :: ps.drop (i + 1) := List.drop_eq_getElem_cons hlt
  have hp : ps[i]? = some ps[i] := List.getElem?_eq_getElem hlt
  generalize ps[i] = p at hdrop hp
  obtain ⟨go, yl⟩ := (hJ H b kp1 (fun p hp => L.e.fresh hp) i).1 p hp
  refine .inr ⟨go, LI (i + 1), fun H' q => ⟨_, by omega, rfl, q⟩, fun x H' y => ?_⟩
  obtain ⟨gr, rx⟩ := yl x H' y
  rw [hdrop] at f
  simp only [lcGo2] at f
  have LH := L.adv (.grow L.e.st gr)
  cases q1 : t0.put p (wipeE ρ vs) with
  | none => simp only [q1] at f; exact f.elim
  | some ρ1 =>
    simp only [q1] at f
    refine ⟨_, S, b, _, p, ρ1, LH.e, rx, q1, fun σ2 l2 k2 e2 => ⟨?_, ?_⟩⟩
    · exact (wipe_ext l2 fun i hi => k2 i fun z => hi (hv i z)).trans (wipe_ext (wipe_length σ vs) fun i hi => wipe_get hi)
    refine ⟨ρ1, S, b, _, e2, ?_⟩
    cases q2 : tt0 ρ1 S with
    | exc c v S' => simp only [q2] at f; exact f.elim
    | bad => simp only [q2] at f; exact f.elim
    | ok c S2 =>
      simp only [q2] at f
      intro H3 b3 d3
      cases q3 : truth c with
      | none => simp only [q3] at f; exact f.elim
      | some cb =>
        simp only [q3] at f
        refine ⟨cb, rfl, ?_⟩
        cases cb with
        | false => exact ⟨S2, b3, acc, pacc, LH.adv d3, hlt, f⟩
        | true =>
          simp only [if_true]
          have L3 := LH.adv d3
          have e3 := e2.adv d3
          refine ⟨ρ1, S2, b3, _, e3, ?_⟩
          cases q4 : src1 ρ1 S2 with
          | exc c v S' => simp only [q4] at f; exact f.elim
          | bad => simp only [q4] at f; exact f.elim
          | ok qv S3 =>
            simp only [q4] at f
            intro H4 b4 d4 J1 hJ1
            generalize hqs : asL qv = qs at f hJ1
            have L4 := L3.adv d4
            have e4 := e3.adv d4
            have hDs2 : ∀ (i : Nat) (p : PV), look (wipeE ρ1 vs1) i = .own p → (L2.wipe σ2 vs1)[i]? ≠ some (some (.ref D)) := by
              intro j p' hj hz
              rw [look_wipe] at hj
              split at hj
              · cases hj
              · rename_i hj1
                rw [wipe_get hj1] at hz
                obtain ⟨h1, h2⟩ := put_own q1 hj
                rw [k2 j h2] at hz
                exact hDs j p' h1 hz
            let LI2 : Nat → Hp → Prop := fun j H => ∃ S b acc pacc, Fill W g (wipeE ρ vs) O (L2.wipe σ vs) b1 H1 D H S b acc pacc ∧ EnvOk W g (wipeE ρ1 vs1) S b (fun a => O a ∨ a = D) (L2.wipe σ2 vs1) H ∧ Kp b4 b H4 H ∧ j ≤ qs.length ∧
              fin W E (fun v _ H' b' => ∀ a o, H' a = none → Mk1 W H' b' v o → Q (.ref a) (upd H' a o)) b1 H1 ((lcGo t1 tt1 te (wipeE ρ1 vs1) (qs.drop j) S).bnd fun rs S3 => (lcGo2 vs1 t0 tt0 t1 src1 tt1 te (wipeE ρ vs) (ps.drop (i + 1)) S3).bnd fun r S4 => okLine (pacc ++ (rs ++ r)) S4)
            refine ⟨fun j k H => k = qs.length - j ∧ LI2 j H, ⟨_, rfl, S3, b4, acc, pacc, L4, e4.wipe vs1, .refl, Nat.zero_le _, ?_⟩, ?_⟩
            · have z : ((lcGo t1 tt1 te (wipeE ρ1 vs1) qs S3).bnd fun rs S3 => (lcGo2 vs1 t0 tt0 t1 src1 tt1 te (wipeE ρ vs) (ps.drop (i + 1)) S3).bnd fun r S4 => .ok (rs ++ r) S4).bnd (fun r S' => okLine (pacc ++ r) S')
                  = (lcGo t1 tt1 te (wipeE ρ1 vs1) qs S3).bnd fun rs S3 => (lcGo2 vs1 t0 tt0 t1 src1 tt1 te (wipeE ρ vs) (ps.drop (i + 1)) S3).bnd fun r S4 => okLine (pacc ++ (rs ++ r)) S4 := by
                cases lcGo t1 tt1 te (wipeE ρ1 vs1) qs S3 with
                | ok rs S5 => simp only [Rs.bnd]; cases lcGo2 vs1 t0 tt0 t1 src1 tt1 te (wipeE ρ vs) (ps.drop (i + 1)) S5 <;> rfl
                | exc c v S5 => rfl
                | bad => rfl
              rw [z] at f
              exact f
            rintro j k H ⟨rfl, S, b, acc, pacc, L, ei, kpi, jl, f⟩
            by_cases hlj : j < qs.length
            case neg =>
              have hje : qs.length ≤ j := Nat.le_of_not_lt hlj
              refine .inl ⟨(hJ1 H b kpi (fun p hp => L.e.fresh hp) j).2 hje, S, b, acc, pacc, L, hlt, ?_⟩
              rw [List.drop_of_length_le hje] at f
              simpa only [lcGo, Rs.bnd, List.nil_append] using f
            have hdj : qs.drop j = qs[j] :: qs.drop (j + 1) := List.drop_eq_getElem_cons hlj
            have hpj : qs[j]? = some qs[j] := List.getElem?_eq_getElem hlj
            generalize qs[j] = u at hdj hpj
            obtain ⟨goj, ylj⟩ := (hJ1 H b kpi (fun p hp => L.e.fresh hp) j).1 u hpj
            refine .inr ⟨goj, LI2 (j + 1), fun H' q => ⟨_, by omega, rfl, q⟩, fun x' H' yd => ?_⟩
            obtain ⟨gr', rx'⟩ := ylj x' H' yd
            rw [hdj] at f
            simp only [lcGo] at f
            have dg : Adv W b b H H' S := .grow L.e.st gr'
            have LH' := L.adv dg
            have eiH := ei.adv dg
            have kpH : Kp b4 b H4 H' := kpi.trans dg.stp.kp
            cases r1 : t1.put u (wipeE ρ1 vs1) with
            | none => simp only [r1] at f; exact f.elim
            | some ρ2 =>
              simp only [r1] at f
              refine ⟨_, S, b, _, u, ρ2, eiH, rx', r1, fun σ3 l3 k3 e5 => ⟨?_, ?_⟩⟩
              · exact (wipe_ext l3 fun i hi => k3 i fun z => hi (hv1 i z)).trans (wipe_ext (wipe_length σ2 vs1) fun i hi => wipe_get hi)
              refine ⟨ρ2, S, b, _, e5, ?_⟩
              cases r2 : tt1 ρ2 S with
              | exc c v S' => simp only [r2] at f; exact f.elim
              | bad => simp only [r2] at f; exact f.elim
              | ok c' S5 =>
                simp only [r2] at f
                intro H5 b5 d5
                cases r3 : truth c' with
                | none => simp only [r3] at f; exact f.elim
                | some cb' =>
                  simp only [r3] at f
                  refine ⟨cb', rfl, ?_⟩
                  cases cb' with
                  | false => exact ⟨S5, b5, acc, pacc, LH'.adv d5, eiH.adv d5, kpH.trans d5.stp.kp, hlj, f⟩
                  | true =>
                    simp only [if_true]
                    refine ⟨ρ2, S5, b5, _, e5.adv d5, ?_⟩
                    cases r4 : te ρ2 S5 with
                    | exc c v S' => simp only [r4] at f; exact f.elim
                    | bad => simp only [r4] at f; exact f.elim
                    | ok yv S6 =>
                      simp only [r4] at f
                      intro H6 b6 d6 y ry
                      have d56 := d5.trans d6
                      have L6 := LH'.adv d56
                      have z : ((lcGo t1 tt1 te (wipeE ρ1 vs1) (qs.drop (j + 1)) S6).bnd fun r S3 => Rs.ok (yv :: r) S3).bnd (fun rs S3 => (lcGo2 vs1 t0 tt0 t1 src1 tt1 te (wipeE ρ vs) (ps.drop (i + 1)) S3).bnd fun r S4 => okLine (pacc ++ (rs ++ r)) S4)
                          = (lcGo t1 tt1 te (wipeE ρ1 vs1) (qs.drop (j + 1)) S6).bnd (fun rs S3 => (lcGo2 vs1 t0 tt0 t1 src1 tt1 te (wipeE ρ vs) (ps.drop (i + 1)) S3).bnd fun r S4 => okLine (pacc ++ [yv] ++ (rs ++ r)) S4) := by
                        cases lcGo t1 tt1 te (wipeE ρ1 vs1) (qs.drop (j + 1)) S6 <;> simp [Rs.bnd]
                      rw [z] at f
                      refine ⟨acc, L6.hD, ?_, S6, b6, _, _, L6.more hDs ry, (eiH.adv d56).upd (.inr rfl) hDs2, (kpH.trans d56.stp.kp).trans ?_, hlj, f⟩
                      · rw [← L6.r.length]
                        cases q5 : lcGo t1 tt1 te (wipeE ρ1 vs1) (qs.drop (j + 1)) S6 with
                        | ok rs S7 =>
                          rw [q5] at f
                          simp only [Rs.bnd] at f
                          cases q6 : lcGo2 vs1 t0 tt0 t1 src1 tt1 te (wipeE ρ vs) (ps.drop (i + 1)) S7 with
                          | ok r S8 =>
                            rw [q6] at f
                            simp only [okLine] at f
                            split at f
                            · rename_i hl
                              simp only [List.length_append, List.length_singleton] at hl
                              omega
                            · exact f.elim
                          | exc c v S8 => exact absurd q6 (lcGo2_ne _ _ _ _ _)
                          | bad => rw [q6] at f; exact f.elim
                        | exc c v S7 => exact absurd q5 (lcGo_ne _ _ _ _ _)
                        | bad => rw [q5] at f; exact f.elim
                      · exact .of (fun a o q n => by
                          have z : a ≠ D := fun z => n (.inl ((L6.bB a).mpr (.inr z)))
                          exact ⟨by rw [upd_ne z]; exact q, n⟩) ⟨[], by simp⟩
theorem sf_lc2 {w0 w1 : Bool} {elt tg iter tg1 iter1 : Expr} {ifs ifs1 : List Expr} {scope : Scope} {own : List (Str × Nat)} {vs1 : List Nat} {pos : Pos} {t0 t1 : Tgt} {src0 tt0 src1 tt1 te : Den} (hc : X.calm = true) (hN : X.N.Nodup) (hi : PI X tg iter (tI W w0 g E src0)) (ok : BlkOk X.N X.env.scope scope own)
    (hv : ∀ i ∈ t0.slots, i ∈ own.map (·.2)) (hv1 : ∀ i ∈ t1.slots, i ∈ vs1) (hsub : ∀ i ∈ vs1, i ∈ own.map (·.2))
    (hg : ∀ (s : Shared) (H : Hp) (C : Addr) (cl : List (Str × Addr)) (fp : List Addr), PG (X.blk s H scope (compEnvC scope cl C X.env) fp) tg (tG W w0 g t0))
    (ht : ∀ (s : Shared) (H : Hp) (C : Addr) (cl : List (Str × Addr)) (fp : List Addr), PTs (X.blk s H scope (compEnvC scope cl C X.env) fp) ifs (tEt W g XK0 tt0))
    (hi1 : ∀ (s : Shared) (H : Hp) (C : Addr) (cl : List (Str × Addr)) (fp : List Addr), PI (X.blk s H scope (compEnvC scope cl C X.env) fp) tg1 iter1 (tI W w1 g XK0 src1))
    (hg1 : ∀ (s : Shared) (H : Hp) (C : Addr) (cl : List (Str × Addr)) (fp : List Addr), PG (X.blk s H scope (compEnvC scope cl C X.env) fp) tg1 (tG W w1 g t1))
    (ht1 : ∀ (s : Shared) (H : Hp) (C : Addr) (cl : List (Str × Addr)) (fp : List Addr), PTs (X.blk s H scope (compEnvC scope cl C X.env) fp) ifs1 (tEt W g XK0 tt1))
    (he : ∀ (s : Shared) (H : Hp) (C : Addr) (cl : List (Str × Addr)) (fp : List Addr), PE (X.blk s H scope (compEnvC scope cl C X.env) fp) elt (tEv W g XK0 te))
    (hs : ∀ x, foldedSetIterable iter X.env x = pure x) (hs1 : ∀ env x, foldedSetIterable iter1 env x = pure x) :
    PE X (.ListComp elt [⟨tg, iter, ifs, 0⟩, ⟨tg1, iter1, ifs1, 0⟩] scope pos) (tEf W g E (dLc2 (own.map (·.2)) vs1 t0 src0 tt0 t1 src1 tt1 te)) :=
  peI (pe_lc2 hc hN hi ok hsub hg ht hi1 hg1 ht1 he hs hs1) fun _ _ _ h => lc2_imp hv hv1 hsub h
/-! ### tests of a clause -/
theorem st_none : PTs X [] (tEt W g E (dC (.bl true))) := ⟨fun pins s σ H Q I ⟨ρ, S, b, O, e, f⟩ => pts_nil.run pins s σ H Q I (by
  obtain ⟨c, h1, h2⟩ := f H b (.refl e.st)
  cases h1
  exact h2)⟩
/-! ### a local name that holds a def -/
/-- the defs of the world -/
def dCallL (C : CallT) (nf i : Nat) (r : Den) : Den := fun ρ S => match look ρ i with
  | .val (.fn j) => if j < nf then (r ρ S).bnd fun vs S1 => C j (asL vs) S1 else .bad
  | _ => .bad
theorem se_callL {C : CallT} {nf i k : Nat} {x : Str} {p pos : Pos} {e : Expr} {es : List Expr} {dr : Den}
    (gd : X.A.guards = some []) (F : ∀ j, j < nf → ∃ fd ps, FnG X.prog X.w X.K X.mg X.base (CX X.prog X.w) k (W.fa j) fd ps (spOf W C j) ∧ PySem.W.keepIn X.K (.ref (W.fa j)) = true ∧ Binds X.K fd ps [])
    (hr : Room k X.A) (hN : X.N[i]? = some x) (hv : Vis X.env.scope x) (hx : Passes (CX X.prog X.w) X E) (ha : PA X (e :: es) (tEa W g E dr)) (hd : (x == ("__debug__" : Str)) = false) (hcd : (x == ("__classdict__" : Str)) = false)
    (he : starEach (e :: es) X.env = (false, eval e X.env) :: starEach es X.env) (hpl : (backTo pos (starEach es X.env)).any (·.1) = false) :
    PE X (.Call (.Name x p) (e :: es) [] pos) (tEv W g E (dCallL C nf i dr)) := by
  refine ⟨fun pins s σ H Q I h => ?_⟩
  obtain ⟨ρ, S, b, O, en, f⟩ := h
  unfold dCallL at f
  cases q : look ρ i with
  | no => rw [q] at f; exact f.elim
  | own v => rw [q] at f; exact f.elim
  | val v =>
    rw [q] at f
    cases v with
    | fn j =>
      simp only at f
      split at f
      case isFalse => exact f.elim
      rename_i hj
      have hs := en.slot i
      unfold SlOk at hs
      rw [q] at hs
      obtain ⟨z, hz, rz⟩ := hs
      cases rz
      obtain ⟨fd, ps, Fj, hk, hb⟩ := F j hj
      refine (callLG gd Fj hr hN hv hk hb hx ha hd hcd he hpl).run pins s σ H Q I ⟨hz, ?_⟩
      refine (tF.seq (k := fun _ vs S1 => C j (asL vs) S1) ⟨ρ, S, b, O, en, f⟩).imp fun v S1 H1 b1 s1 ⟨ρ, O, e1, f⟩ xs rs => ?_
      exact ⟨asL v, S1, b1, rs, s1, e1.tr, f⟩
    | _ => exact f.elim
/-! ### x[i] of a value or a cell's list -/
def ixS (v u : PV) (S : Store) : Option PV := match v, u with
  | .cell c, .int i => match S[c]? with
    | some l => atP l i
    | none => none
  | _, _ => vIdx v u
def dIx (a b : Den) : Den := fun ρ S => (a ρ S).bnd fun v S1 => (b ρ S1).bnd fun u S2 => okv (ixS v u S2) S2
theorem se_ix {a c : Expr} {da db : Den} {pos : Pos} (hP : X.prog = W.P) (hw : X.w = W.w) (hK : X.K = W.K) (ha : PE X a (tEr W g E (RW W) da)) (hb : PE X c (tEr W g E (RW W) db)) (hs : PlainIx c) : PE X (.Subscript a c pos) (tEv W g E (dIx da db)) := by
  refine peI (pe_ix (o_idx hP hw hK) ha hb hs) ?_
  intro σ H Q h
  refine (two (Ra := RW W) (Rb := RW W) (k := fun _ v u S => okv (ixS v u S) S) stb_w h).imp fun _ _ _ _ _ q x rx => (q x rx).imp fun _ _ _ _ _ q' y ry => ?_
  obtain ⟨ρ, S, b, O, v, u, e, ra, rb, f⟩ := q' y ry
  cases hq : ixS v u S with
  | none => rw [hq] at f; exact f.elim
  | some w =>
    rw [hq] at f
    unfold ixS at hq
    split at hq
    · rename_i cc i
      rcases ra with ra | ⟨_, _, _, r⟩
      · cases ra with
        | @cell _ a hm =>
          cases rw_int rb
          split at hq
          · rename_i l hl
            obtain ⟨xs, hx, r⟩ := e.st.2.2 cc a l hm hl
            obtain ⟨z, h1, h2⟩ := atP_of r hq
            exact .inl (.inl ⟨a, xs, i, z, rfl, rfl, SqL.of hx, h1, f _ b (.refl e.st) _ h2⟩)
          · cases hq
      · exact r.elim
    · exact f_idx v u w _ _ _ b _ (fun p hp => e.fresh hp) ra rb hq fun z H' k rz => f H' b (.grow e.st k) z rz
/-! ### raise -/
def dRaise (c : Nat) (d : Den) : DenS := fun ρ S => (d ρ S).bnd fun v S1 => .exc c v S1
end
end Tg
end
section
set_option Elab.async false
set_option linter.all false
set_option autoImplicit false
set_option maxRecDepth 100000
/-! repr of data; a list that is a cell from its making -/
namespace Tg
open PySem PySem.Spec PyProof.Rows L2
section
variable {X : Cx} {W : Wd} {g : Gh} {E : XK}
def r_repr (W : Wd) : List V → Hp → VK → Prop := fun xs H Q => ∃ v d, xs = [v] ∧ Dp W.K H v d ∧ showOk d = true ∧ Q (.str d.shown) H
theorem cr_repr (hK : X.K = W.K) (gd : X.A.guards = some []) (hu : X.A.units + 70 < cLine) : CallR X (.builtin "repr") (r_repr W) := by
  rintro pins s σ H xs us Q I r ⟨v, d, rfl, hd, ok, q⟩
  rw [← hK] at hd
  unfold showOk at ok
  simp only [Bool.and_eq_true, decide_eq_true_eq, Bool.not_eq_true'] at ok
  obtain ⟨⟨o1, o2⟩, o3, o4⟩ := ok
  cases r with
  | @cons _ u _ _ rv rn =>
    cases rn
    obtain ⟨as, rd⟩ := Dp.reads I d v u hd rv
    cases u with
    | ref a =>
      refine repr_of_reads' rd o1 (fun z => by rw [o2] at z; cases z) gd (by show X.A.units + _ < _; omega) (fun _ _ e => e) (fun h' u tk k => ?_) o4
      exact ⟨.str _, H, I.kept (t' := tk) k, ⟨_, rfl⟩, q⟩
    | none =>
      cases rd
      exact PySem.P.repr_of_none ⟨.str _, H, I.tok _, ⟨_, rfl⟩, q⟩
    | bool b =>
      cases rd
      exact PySem.P.repr_of_bool ⟨.str _, H, I.tok _, ⟨_, rfl⟩, q⟩
    | int i t =>
      cases rd
      exact PySem.P.repr_of_int (of_decide_eq_true o1) ⟨.str _, H, I.tok _, ⟨_, rfl⟩, q⟩
    | str x t =>
      cases rd
      exact PySem.P.repr_of_str ⟨.str _, H, I.tok _, ⟨_, rfl⟩, q⟩ o4
    | _ => cases rd
theorem f_repr : OpC W uRepr (r_repr W) := by
  intro v w x H b Q hf rv hw k
  unfold uRepr at hw
  cases q : toD v with
  | none => rw [q] at hw; cases hw
  | some d =>
    rw [q] at hw
    simp only at hw
    split at hw
    · rename_i ok
      cases hw
      refine ⟨x, d, rfl, dpw_of rv q, ok, ?_⟩
      have := k (.str ⟨d.shown.cps.toList.toArray⟩) H (fun _ _ e => e) (.str _)
      simpa using this
    · cases hw
/-- a new cell -/
theorem Adv.cell {b : Bn} {H : Hp} {S : Store} {p : Addr} {ps : List PV} {xs : List V} (s : StoreOk W H b S) (hp : H p = none) (hn : ¬ b.no p) (r : Reps W H b ps xs) :
    Adv W b ⟨b.B, b.m ++ [p]⟩ H (upd H p (.lst xs)) (S ++ [ps]) := by
  have st : Stp b ⟨b.B, b.m ++ [p]⟩ H (upd H p (.lst xs)) := by
    refine ⟨fun _ => Iff.rfl, ⟨[p], rfl⟩, fun a h n => ?_, fun a o e _ => ⟨o, ?_, .refl, fun _ => rfl⟩⟩
    · rcases List.mem_append.mp h with h | h
      · exact absurd h n
      · rw [List.mem_singleton.mp h]; exact hp
    · rw [upd_ne (ne_of_none e hp)]; exact e
  refine ⟨st, by rw [List.length_append, List.length_append, s.1]; rfl, ?_, fun i a qs h1 h2 => ?_⟩
  · refine List.nodup_append.mpr ⟨s.2.1, by simp, fun a ha c hc z => ?_⟩
    rw [List.mem_singleton.mp hc] at z
    exact hn (.inr (z ▸ ha))
  · by_cases hi : i < b.m.length
    · rw [List.getElem?_append_left hi] at h1
      rw [List.getElem?_append_left (by rw [← s.1]; exact hi)] at h2
      obtain ⟨ys, q, ry⟩ := s.2.2 i a qs h1 h2
      exact ⟨ys, by rw [upd_ne (ne_of_none q hp)]; exact q, ry.step st⟩
    · have hl := (List.getElem?_eq_some_iff.mp h1).1
      have ei : i = b.m.length := by
        rw [List.length_append] at hl
        have : ([p] : List Addr).length = 1 := rfl
        omega
      subst ei
      rw [List.getElem?_append_right (Nat.le_refl _), Nat.sub_self] at h1
      rw [s.1, List.getElem?_append_right (Nat.le_refl _), Nat.sub_self] at h2
      cases h1
      cases h2
      exact ⟨xs, upd_same, r.step st⟩
theorem se_lstc {es : List Expr} {dr : Den} {pos : Pos} (h : PA X es (tEa W g E dr)) : PE X (.List es pos) (tEv W g E (dLstC dr)) := by
  refine peI (pe_lst h) ?_
  intro σ H Q h
  refine (tF.seq (k := fun _ => cellK) h).imp fun v S1 H1 b1 s1 ⟨ρ, O, e1, f⟩ xs rs => ?_
  unfold cellK at f
  split at f
  · rename_i hl
    refine ⟨len_le rs hl, fun p hp => ?_⟩
    have ad := Adv.cell s1 hp (e1.fresh hp) rs
    refine f _ _ ad _ (.cell ?_)
    show (b1.m ++ [p])[S1.length]? = some p
    rw [← s1.1, List.getElem?_append_right (Nat.le_refl _), Nat.sub_self]
    rfl
  · exact f.elim
end
end Tg
end
section
set_option Elab.async false
set_option linter.all false
set_option autoImplicit false
set_option maxRecDepth 100000
/-! sorted of data; a dict of written texts; calls by keywords alone -/
namespace Tg
open PySem PySem.Spec PyProof.Rows L2
section
variable {X : Cx} {W : Wd} {g : Gh} {E : XK}
/-! ### sorted -/
def r_sortedD (K : PySem.W.Frag) : List V → Hp → VK → Prop := fun xs H Q => ∃ a ys ds, xs = [.ref a] ∧ SqL K H a ys ∧ DpAll K H ys ds ∧ sortOk ds = true ∧ ∀ p, H p = none → Q (.ref p) (upd H p (.lst (sortD ys ds)))
theorem each_zip {h : Heap} : ∀ {ys : List V} {its : List Value} {ds : List PyData} {as : List Addr}, Vals ys its → ReadsAll h its ds as →
    PySem.W.EachIs (fun v (b : V × PyData) => RelV b.1 v) its (ys.zip ds) ∧ PySem.W.EachIs (fun v (b : V × PyData) => ∃ as, Reads h v b.2 as) its (ys.zip ds) ∧ (ys.zip ds).map (·.2) = ds
  | _, _, _, _, .nil, r => by
    cases r
    exact ⟨.nil, .nil, rfl⟩
  | _, _, _, _, .cons rv rs, r => by
    cases r with
    | cons h1 h2 =>
      obtain ⟨e1, e2, e3⟩ := each_zip rs h2
      exact ⟨.cons rv e1, .cons ⟨_, h1⟩ e2, by rw [List.zip_cons_cons, List.map_cons, e3]⟩
theorem each_vals : ∀ {us : List Value} {l : List (V × PyData)}, PySem.W.EachIs (fun v (b : V × PyData) => RelV b.1 v) us l → Vals (l.map (·.1)) us
  | _, _, .nil => .nil
  | _, _, .cons r t => .cons r (each_vals t)
theorem sortable_of {ds : List PyData} (h : (ds.all isTupD || ds.all isOneD) = true) : PySem.W.Sortable ds := by
  rcases Bool.or_eq_true_iff.mp h with h | h
  · left
    intro d hd
    have := List.all_eq_true.mp h d hd
    unfold isTupD at this
    split at this
    · exact ⟨_, _, rfl⟩
    · cases this
  · right
    intro d hd
    have := List.all_eq_true.mp h d hd
    unfold isOneD at this
    constructor
    · rintro rfl; cases this
    · rintro xs rfl; cases this
theorem sortOk_of {ds : List PyData} (h : sortOk ds = true) : PySem.W.AllAlike ds ∧ PySem.W.Sortable ds ∧ ∀ d ∈ ds, d.depth < 60 := by
  unfold sortOk at h
  simp only [Bool.and_eq_true] at h
  refine ⟨fun d hd e he => List.all_eq_true.mp (List.all_eq_true.mp h.1 d hd) e he, sortable_of h.2.1, fun d hd => of_decide_eq_true (List.all_eq_true.mp h.2.2 d hd)⟩
theorem cr_sortedD (hK : X.K = W.K) (hu : X.A.units + 64 < cLine) : CallR X (.builtin "sorted") (r_sortedD W.K) := by
  rw [← hK]
  rintro pins s σ H vs us Q I r ⟨a, ys, ds, rfl, hs, hd, ok, q⟩
  obtain ⟨its, rv, hl, hz⟩ := I.list hs
  obtain ⟨as, rd⟩ := Dp.readsAll I ds ys its hd rv
  obtain ⟨e1, e2, e3⟩ := each_zip rv rd
  obtain ⟨o1, o2, o3⟩ := sortOk_of ok
  obtain ⟨u, rfl, ru⟩ := vals1 r
  cases (show u = Value.ref a from ru)
  have hb : (ys.zip ds).length ≤ sizeLine := by rw [List.length_zip]; omega
  refine PySem.W.sorted_data (enc := fun b : V × PyData => b.2) hl.isList e1 e2 (by rw [e3]; exact o1) (by rw [e3]; exact o2) hb (fun b hm => ?_) fun out hlen ho => ?_
  · have := o3 b.2 (by rw [← e3]; exact List.mem_map_of_mem hm)
    omega
  · obtain ⟨ep, he'⟩ := PyProof.Rows.sortedAll_at s.heap its out.toArray
    have hv : Vals (sortD ys ds) out := each_vals ho
    refine ⟨.ref _, upd H (s.heap.objs.size + 1) (.lst (sortD ys ds)), I.laid (t' := s.toks) (fun _ _ => PyProof.Rows.sortedAll_old) (Nat.le_succ _) ⟨?_, out, ep, hv, he'⟩, rfl, q _ (I.hok.fresh (Nat.le_succ _))⟩
    rw [hv.length, hlen]
    exact hb
theorem Reps.map3 {H : Hp} {b : Bn} : ∀ {l : List (PV × V × PyData)}, (∀ t ∈ l, Rep W H b t.1 t.2.1) → Reps W H b (l.map (·.1)) (l.map fun t => t.2.1)
  | [], _ => .nil
  | t :: l, h => .cons (h t (List.mem_cons_self ..)) (Reps.map3 fun u hu => h u (List.mem_cons_of_mem _ hu))
theorem zip3 {H : Hp} {b : Bn} : ∀ {ps : List PV} {xs : List V} (ds : List PyData), Reps W H b ps xs → ∀ t ∈ ps.zip (xs.zip ds), Rep W H b t.1 t.2.1
  | _, _, _, .nil, t, h => by cases h
  | _, _, [], .cons _ _, t, h => by simp at h
  | _, _, d :: ds, .cons r rs, t, h => by
    rw [List.zip_cons_cons, List.zip_cons_cons] at h
    rcases List.mem_cons.mp h with rfl | h
    · exact r
    · exact zip3 ds rs t h
theorem zip_a {α β γ : Type} : ∀ (as : List α) (bs : List β) (cs : List γ), as.length = bs.length → (as.zip (bs.zip cs)).map (fun t => (t.1, t.2.2)) = as.zip cs
  | [], _, _, _ => rfl
  | _ :: _, [], _, h => by cases h
  | a :: as, b :: bs, [], _ => rfl
  | a :: as, b :: bs, c :: cs, h => by
    rw [List.zip_cons_cons, List.zip_cons_cons, List.map_cons, zip_a as bs cs (by simpa using h)]; rfl
theorem zip_b {α β γ : Type} : ∀ (as : List α) (bs : List β) (cs : List γ), as.length = bs.length → (as.zip (bs.zip cs)).map (fun t => t.2) = bs.zip cs
  | [], [], _, _ => rfl
  | [], _ :: _, _, h => by cases h
  | _ :: _, [], _, h => by cases h
  | a :: as, b :: bs, [], _ => rfl
  | a :: as, b :: bs, c :: cs, h => by
    rw [List.zip_cons_cons, List.zip_cons_cons, List.map_cons, zip_b as bs cs (by simpa using h)]
theorem reps_sort {H : Hp} {b : Bn} {ps : List PV} {xs : List V} {ds : List PyData} (r : Reps W H b ps xs) : Reps W H b (sortD ps ds) (sortD xs ds) := by
  let T := (ps.zip (xs.zip ds)).mergeSort (fun s t => leD (s.2.1, s.2.2) (t.2.1, t.2.2))
  have hT : ∀ t ∈ T, Rep W H b t.1 t.2.1 := fun t ht => zip3 ds r t ((List.mergeSort_perm _ _).mem_iff.mp ht)
  have q := Reps.map3 hT
  have e1 : T.map (·.1) = sortD ps ds := by
    unfold sortD
    rw [← zip_a ps xs ds r.length, ← List.map_mergeSort (r := fun s t => leD (s.2.1, s.2.2) (t.2.1, t.2.2)) (fun _ _ _ _ => rfl), List.map_map]
    rfl
  have e2 : T.map (fun t => t.2.1) = sortD xs ds := by
    unfold sortD
    rw [← zip_b ps xs ds r.length, ← List.map_mergeSort (r := fun s t => leD (s.2.1, s.2.2) (t.2.1, t.2.2)) (fun _ _ _ _ => rfl), List.map_map]
    rfl
  rw [e1, e2] at q
  exact q
theorem f_sorted : OpC W uSorted (r_sortedD W.K) := by
  intro v w x H b Q hf rv hw k
  unfold uSorted at hw
  split at hw
  · rename_i l
    cases q : toDs l with
    | none => rw [q] at hw; cases hw
    | some ds =>
      rw [q] at hw
      simp only at hw
      split at hw
      · rename_i ok
        cases hw
        obtain ⟨a, xs, rfl, e1, r1⟩ := rw_lst rv
        exact ⟨a, xs, ds, rfl, e1, dps_of r1 q, ok, fun p hp => k _ _ (same_upd hp) (.lst (.inl ⟨hf p hp, .inl upd_same⟩) ((reps_sort r1).grow (same_upd hp)))⟩
      · cases hw
  · cases hw
/-! ### calls by keywords alone -/
def dCallS (C : CallT) (i : Nat) (a b : Den) : Den := fun ρ S => (a ρ S).bnd fun v S1 => (b ρ S1).bnd fun u S2 => C i [u, v] S2
section
variable {i k : Nat} {fd : FuncData} {ps : List Str} {C : CallT} {x : Str} {p pos kp kp2 : Pos} {a c : Expr} {da db : Den} {n n2 : Str}
theorem se_callK1 (gd : X.A.guards = some []) (F : FnG X.prog X.w X.K X.mg X.base (CX X.prog X.w) k (W.fa i) fd ps (spOf W C i)) (hr : Room k X.A) (hg : Gl X x) (hm : X.mg x = some (.ref (W.fa i)))
    (hk : PySem.W.keepIn X.K (.ref (W.fa i)) = true) (hb : BindsX X.K fd ps (W.pn i)) (hn : W.pn i = [n]) (hx : Passes (CX X.prog X.w) X E) (hdb : (x == ("__debug__" : Str)) = false) (ha : PE X a (tEv W g E da)) :
    PE X (.Call (.Name x p) [] [⟨some n, a, kp⟩] pos) (tEv W g E (dCall C i (dCons da dNil))) := by
  refine peI (callGk gd F hr hg hm hk (hb.k1 n (by rw [hb.nm, hn])) hx (pk_cons ha pk_nil) hdb rfl rfl rfl) ?_
  intro σ H Q h
  have h' : tF W g E (fun ρ S => (da ρ S).bnd fun v S1 => C i [v] S1) (fun v _ H' b' => ∀ x, Rep W H' b' v x → Q x H') σ H := by
    obtain ⟨ρ, S, b, O, e, f⟩ := h
    refine ⟨ρ, S, b, O, e, ?_⟩
    have q : dCall C i (dCons da dNil) ρ S = (da ρ S).bnd fun v S1 => C i [v] S1 := by
      unfold dCall dCons dNil
      cases da ρ S <;> rfl
    show fin W E _ b H ((da ρ S).bnd fun v S1 => C i [v] S1)
    rw [← q]; exact f
  refine (tF.seq (k := fun _ v S1 => C i [v] S1) h').imp fun v S1 H1 b1 s1 ⟨ρ, O, e1, f⟩ x rx => ?_
  exact ⟨[v], S1, b1, .cons rx .nil, s1, e1.tr, f⟩
theorem se_callK2 (gd : X.A.guards = some []) (F : FnG X.prog X.w X.K X.mg X.base (CX X.prog X.w) k (W.fa i) fd ps (spOf W C i)) (hr : Room k X.A) (hg : Gl X x) (hm : X.mg x = some (.ref (W.fa i)))
    (hk : PySem.W.keepIn X.K (.ref (W.fa i)) = true) (hb : BindsX X.K fd ps (W.pn i)) (hn : W.pn i = [n2, n]) (hx : Passes (CX X.prog X.w) X E) (hdb : (x == ("__debug__" : Str)) = false) (ha : PE X a (tEv W g E da)) (hc : PE X c (tEv W g E db)) :
    PE X (.Call (.Name x p) [] [⟨some n, a, kp⟩, ⟨some n2, c, kp2⟩] pos) (tEv W g E (dCallS C i da db)) := by
  refine peI (callGk gd F hr hg hm hk (hb.k2 n2 n (by rw [hb.nm, hn])) hx (pk_cons ha (pk_cons hc pk_nil)) hdb rfl rfl rfl) ?_
  intro σ H Q h
  refine (tF.seq (k := fun ρ v S1 => (db ρ S1).bnd fun u S2 => C i [u, v] S2) h).imp fun v S1 H1 b1 s1 ⟨ρ, O, e1, f⟩ x rx => ?_
  refine ⟨ρ, S1, b1, O, e1, f.bnd.imp fun u S2 H2 b2 d q y ry => ?_⟩
  exact ⟨[u, v], S2, b2, .cons ry (.cons (rx.step d.stp) .nil), d.st, (e1.adv d).tr, q⟩
end
/-! ### a dict of written texts -/
theorem putK_new {kvs : List (Key × V)} {k : Key} {v : V} (h : k ∉ kvs.map (·.1)) : putK kvs k v = kvs ++ [(k, v)] := by
  unfold putK
  rw [if_neg]
  intro q
  obtain ⟨kv, hm, e⟩ := List.any_eq_true.mp q
  exact h (List.mem_map.mpr ⟨kv, hm, of_decide_eq_true e⟩)
theorem mergeK_new : ∀ {more kvs : List (Key × V)}, ((kvs ++ more).map (·.1)).Nodup → mergeK kvs more = kvs ++ more
  | [], kvs, _ => by show kvs = _; rw [List.append_nil]
  | (k, v) :: r, kvs, h => by
    show mergeK (putK kvs k v) r = _
    have hk : k ∉ kvs.map (·.1) := by
      rw [List.map_append, List.map_cons, List.nodup_append] at h
      intro hm
      exact h.2.2 _ hm _ (List.mem_cons_self ..) rfl
    rw [putK_new hk, mergeK_new (by rw [List.append_assoc]; exact h), List.append_assoc]; rfl
/-- written pairs, with what they are -/
inductive LitP (W : Wd) (X : Cx) : List (KP × PV) → List (Option Expr) → List Expr → List (Key × V) → Prop
  | nil : LitP W X [] [] [] []
  | cons {k : KP} {v : PV} {x : V} {a c : Expr} {ks : List (Option Expr)} {vs : List Expr} {r : List (KP × PV)} {zs : List (Key × V)} : PE X a (tC (kV (kK k))) → PE X c (tC x) → (∀ H b, Rep W H b v x) → LitP W X r ks vs zs →
      LitP W X ((k, v) :: r) (some a :: ks) (c :: vs) ((kK k, x) :: zs)
section
variable {kvs : List (KP × PV)} {ks : List (Option Expr)} {vs : List Expr} {zs : List (Key × V)}
def litT (z : Key × V) : TE × TE := (tC (kV z.1), tC z.2)
theorem LitP.pps {pos : Pos} (h : LitP W X kvs ks vs zs) : PPs X pos ks vs (zs.map litT) := by
  induction h with
  | nil => exact pps_nil
  | cons h1 h2 _ _ ih => exact pps_cons h1 h2 ih
theorem LitP.rep {H : Hp} {b : Bn} (h : LitP W X kvs ks vs zs) : RepK W H b kvs zs := by
  induction h with
  | nil => exact .nil
  | cons _ _ h3 _ ih => exact .cons (h3 H b) ih
theorem LitP.len (h : LitP W X kvs ks vs zs) : ks.all (·.isSome) = true ∧ ks.length = kvs.length ∧ vs.length = kvs.length ∧ zs.length = kvs.length ∧ zs.map (·.1) = kvs.map fun z => kK z.1 := by
  induction h with
  | nil => exact ⟨rfl, rfl, rfl, rfl, rfl⟩
  | cons _ _ _ _ ih =>
    obtain ⟨h1, h2, h3, h4, h5⟩ := ih
    exact ⟨by simp [h1], by simp [h2], by simp [h3], by simp [h4], by simp [h5]⟩
theorem tPairs_lit {σ : L2.St} : ∀ {zs : List (Key × V)} {H : Hp} {Q : List (V × V) → Hp → Prop}, Q (zs.map fun z => (kV z.1, z.2)) H → tPairs (zs.map litT) σ H Q
  | [], _, _, h => h
  | z :: zs, H, Q, h => tPairs_lit (zs := zs) (Q := fun ps H3 => Q ((kV z.1, z.2) :: ps) H3) h
theorem sf_dlit {pos : Pos} (h : LitP W X kvs ks vs zs) (h0 : kvs ≠ []) (h1 : kvs.length ≤ 15) (h2 : (kvs.map (·.1)).Nodup) : PE X (.Dict ks vs pos) (tEf W g E (dC (.dct kvs))) := by
  obtain ⟨l1, l2, l3, l4, l5⟩ := h.len
  refine peI (pe_disp h.pps l1 (by rw [l2, l3]) (fun z => h0 (List.length_eq_zero_iff.mp (by rw [← l2, z]; rfl))) (by rw [l2]; exact h1)) ?_
  rintro σ H Q ⟨ρ, S, b, O, e, f⟩
  intro p hp
  refine tPairs_lit ⟨upd_same, zs, rfl, by rw [l4]; exact h1, ?_⟩
  have hm : mergeK [] zs = zs := mergeK_new (kvs := []) (by
    rw [List.nil_append, l5, show (kvs.map fun z => kK z.1) = (kvs.map (·.1)).map kK from by rw [List.map_map]; rfl]
    exact h2.map _ fun a b hab q => hab (kK_inj.mp q))
  rw [hm, show upd (upd H p (.dK [])) p (.dK zs) = upd H p (.dK zs) from by
    funext a
    unfold upd
    split <;> rfl]
  exact f H b (.refl e.st) p _ hp h.rep
end
end
end Tg
end
section
set_option Elab.async false
set_option linter.all false
set_option autoImplicit false
set_option maxRecDepth 100000
/-! the code, its meaning, its look at the text -/
namespace Tg
open PySem PySem.Spec PyProof.Rows L2
structure Px where
  C : CallT
  nf : Nat
  G : List (Str × GV)
  /-- the exceptions' classes by their names -/
  R : List (Str × Nat)
inductive CE where
  | var (i : Nat) | bor (i : Nat) | c (p : PV) | g (k : Nat)
  | nil | cons (a r : CE) | tup (r : CE) | lst (r : CE) | lstc (r : CE)
  | bin (o : Nat) (a b : CE) | cmp (o : Nat) (a b : CE) | chain (o o' : Nat) (a b d : CE)
  | ite (t a b : CE) | and (a b : CE) | or (a b : CE) | one (a : CE) | not (a : CE) | neg (a : CE)
  | call (i : Nat) (r : CE) | callL (i : Nat) (r : CE) | callK1 (i : Nat) (a : CE) | callK2 (i : Nat) (a b : CE)
  | u1 (k : Nat) (a : CE) | u2 (k : Nat) (a b : CE) | isi (k : Nat) (a : CE)
  | ix (a b : CE) | cutL (a b : CE) | cutH (a b : CE) | cutB (a b d : CE)
  | m1 (k : Nat) (a b : CE) | get (a b : CE) | get2 (a b d : CE)
  | fmt (a : CE) | jnil | jcons (a r : CE) | js (r : CE)
  | lc (t : Tgt) (vs : List Nat) (s tt e : CE) | lc2 (t0 t1 : Tgt) (vs vs1 : List Nat) (s0 tt0 s1 tt1 e : CE)
  | dict (a : CE) | dnew | dlit (kvs : List (KP × PV))
  | tv (a : CE) | t1 (a : CE)
  | seq (a : CE) | rng (k : Nat) (r : CE) | zip (r : CE) | walk (m : DW) (a : CE)
/-! ### tables -/
def opF : Nat → PV → PV → Option PV
  | 0 => vAdd | 1 => vSub | 2 => vMul | 3 => vDiv | 4 => vMod | 5 => vPow | _ => fun _ _ => none
def opN : Nat → Option Operator
  | 0 => some .Add | 1 => some .Sub | 2 => some .Mult | 3 => some .FloorDiv | 4 => some .Mod | 5 => some .Pow | _ => none
def cmF : Nat → PV → PV → Option PV
  | 0 => vLt | 1 => vLe | 2 => vGt | 3 => vGe | 4 => vEq | 5 => vNe | 6 => vIn | 7 => vNotIn | 8 => vIs | 9 => vIsN | _ => fun _ _ => none
def cmN : Nat → Option CmpOp
  | 0 => some .Lt | 1 => some .LtE | 2 => some .Gt | 3 => some .GtE | 4 => some .Eq | 5 => some .NotEq | 6 => some .In | 7 => some .NotIn | 8 => some .Is | 9 => some .IsNot | _ => none
def u1F : Nat → PV → Option PV
  | 0 => uLen | 1 => uTuple | 2 => uList | 3 => uAll | 4 => uAny | 5 => uSum | 6 => uMin | 7 => uMax | 8 => uStr | 9 => uInt | 10 => uAbs | 11 => uBool | 12 => uRepr | 13 => uSorted | _ => fun _ => none
def u1N : Nat → Option Str
  | 0 => some "len" | 1 => some "tuple" | 2 => some "list" | 3 => some "all" | 4 => some "any" | 5 => some "sum" | 6 => some "min" | 7 => some "max" | 8 => some "str" | 9 => some "int" | 10 => some "abs" | 11 => some "bool" | 12 => some "repr" | 13 => some "sorted" | _ => none
def u2F : Nat → PV → PV → Option PV
  | 0 => vMax | 1 => vMin | _ => fun _ _ => none
def u2N : Nat → Option Str
  | 0 => some "max" | 1 => some "min" | _ => none
def isiN : Nat → Option String
  | 0 => some "int" | 1 => some "str" | 2 => some "tuple" | 3 => some "list" | 4 => some "bool" | _ => none
def m1F : Nat → PV → PV → Option PV
  | 0 => mJoin | 1 => mSplit | 2 => mPart | 3 => mRpart | _ => fun _ _ => none
def m1N : Nat → Option Str
  | 0 => some "join" | 1 => some "split" | 2 => some "partition" | 3 => some "rpartition" | _ => none
def rngF : Nat → List PV → Option (List PV)
  | 1 => rng1 | 2 => rng2 | _ => fun _ => none
/-! ### the meaning -/
def dG (G : List (Str × GV)) (k : Nat) : Den := fun _ S => match G[k]? with
  | some (_, .fn i) => .ok (.fn i) S
  | some (_, .val p) => .ok p S
  | _ => .bad
def ev (P : Px) : CE → Den
  | .var i => dVar i
  | .bor i => dBor i
  | .c p => dC p
  | .g k => dG P.G k
  | .nil => dNil
  | .cons a r => dCons (ev P a) (ev P r)
  | .tup r => dTup (ev P r)
  | .lst r => dLst (ev P r)
  | .lstc r => dLstC (ev P r)
  | .bin o a b => dB2 (opF o) (ev P a) (ev P b)
  | .cmp o a b => dB2 (cmF o) (ev P a) (ev P b)
  | .chain o o' a b d => dChain (cmF o) (cmF o') (ev P a) (ev P b) (ev P d)
  | .ite t a b => dIte (ev P t) (ev P a) (ev P b)
  | .and a b => dAnd (ev P a) (ev P b)
  | .or a b => dOr (ev P a) (ev P b)
  | .one a => ev P a
  | .not a => dNot (ev P a)
  | .neg a => dB1 vNeg (ev P a)
  | .call i r => dCall P.C i (ev P r)
  | .callL i r => dCallL P.C P.nf i (ev P r)
  | .callK1 i a => dCall P.C i (dCons (ev P a) dNil)
  | .callK2 i a b => dCallS P.C i (ev P a) (ev P b)
  | .u1 k a => dB1 (u1F k) (ev P a)
  | .u2 k a b => dB2 (u2F k) (ev P a) (ev P b)
  | .isi k a => dB1 (uIsi ((isiN k).getD "")) (ev P a)
  | .ix a b => dIx (ev P a) (ev P b)
  | .cutL a b => dCutL (ev P a) (ev P b)
  | .cutH a b => dCutH (ev P a) (ev P b)
  | .cutB a b d => dCutB (ev P a) (ev P b) (ev P d)
  | .m1 k a b => dM1 (m1F k) (ev P a) (ev P b)
  | .get a b => dMD mGet (ev P a) (ev P b)
  | .get2 a b d => dMD2 mGet2 (ev P a) (ev P b) (ev P d)
  | .fmt a => dFmt (ev P a)
  | .jnil => jNil
  | .jcons a r => jCons (ev P a) (ev P r)
  | .js r => dJs (ev P r)
  | .lc t vs s tt e => dLc vs t (ev P s) (ev P tt) (ev P e)
  | .lc2 t0 t1 vs vs1 s0 tt0 s1 tt1 e => dLc2 vs vs1 t0 (ev P s0) (ev P tt0) t1 (ev P s1) (ev P tt1) (ev P e)
  | .dict a => dB1 uDict (ev P a)
  | .dnew => dC (.dct [])
  | .dlit kvs => dC (.dct kvs)
  | .tv a => ev P a
  | .t1 a => ev P a
  | .seq a => dSeq (ev P a)
  | .rng k r => dSrc (rngF k) (ev P r)
  | .zip r => dSrc zipV (ev P r)
  | .walk m a => dWalk m (ev P a)
def strong : CE → Bool
  | .bor _ => false
  | .one _ => true
  | _ => true
def fresh : CE → Bool
  | .lst _ => true
  | .lc .. => true
  | .lc2 .. => true
  | .dict _ => true
  | .dnew => true
  | .dlit _ => true
  | _ => false
def pairs : CE → Bool
  | .zip _ => true
  | .walk .items _ => true
  | _ => false
/-! ### the look -/
/-- what the text is to be: an expression, a row, a source for a target, the parts of an f-string -/
inductive Nd where
  | e (x : Expr) | a (l : List Expr) | i (tg x : Expr) | j (l : List Expr) | t (x : Expr) | ts (l : List Expr)
structure Kx where
  N : List Str
  sc : Scope
  /-- within a block: the names that it stores -/
  fc : Option Scope
def vis (sc : Scope) (x : Str) : Bool := match sc.names.lookup x with
  | some .local => true
  | some .cell => true
  | some .free => true
  | _ => false
def glo (sc : Scope) (x : Str) : Bool := match sc.names.lookup x with
  | some .globalImplicit => true
  | _ => false
def okName (x : Str) : Bool := !(x == ("__debug__" : Str)) && !(x == ("__classdict__" : Str))
def notStar : Expr → Bool
  | .Starred .. => false
  | _ => true
def noStar (l : List Expr) : Bool := l.all notStar
/-- the top has not x -/
def gNo (G : List (Str × GV)) (x : Str) : Bool := G.any fun p => p.1 == x && (match p.2 with
  | .none => true
  | _ => false)
def slotIs (k : Kx) (i : Nat) (x : Str) : Bool := decide (k.N[i]? = some x) && (vis k.sc x && okName x)
/-- a built-in name -/
def blt (G : List (Str × GV)) (k : Kx) (x : Str) : Bool := glo k.sc x && gNo G x
def noCall0 : Expr → Bool
  | .Call _ [] [] _ => false
  | _ => true
/-- a target's row of slots -/
def tgtIs (k : Kx) : Tgt → Nd → Bool
  | .name i, .e (.Name x _) => decide (k.N[i]? = some x) && ((match k.sc.names.lookup x with
      | some .local => true
      | some .cell => true
      | _ => false) && (decide (k.sc.names.lookup x = some .local) || match k.fc with
      | some s => s.names.lookup x == some .cell
      | none => true))
  | .tup r, .e (.Tuple es _ _) => tgtIs k r (.a es) && (noStar es && r.row == some es.length)
  | .nil, .a [] => true
  | .cons t r, .a (e :: es) => tgtIs k t (.e e) && (notStar e && tgtIs k r (.a es))
  | _, _ => false
def constIs : PV → Const → Bool
  | .int i, .int j => decide (i = j)
  | .bl i, .bool j => i == j
  | .non, .none => true
  | .str s, .str x => decide (x = ⟨s.toArray⟩)
  | _, _ => false
/-- the block of a comprehension: its names by their slots -/
def ownOf (N : List Str) (vs : List Nat) : Option (List (Str × Nat)) := match vs with
  | [] => some []
  | v :: r => match N[v]?, ownOf N r with
    | some x, some l => some ((x, v) :: l)
    | _, _ => none
def blkIs (k : Kx) (vs : List Nat) (scope : Scope) : Bool := match ownOf k.N vs with
  | some own => blkC k.N k.sc scope own
  | none => false
def Kx.blk (k : Kx) (scope : Scope) : Kx := ⟨k.N, relS scope k.sc, some scope⟩
def notSet : Expr → Bool
  | .Set .. => false
  | _ => true
def plainIx : Expr → Bool
  | .Slice .. => false
  | _ => true
/-- a test that looks at its value -/
def valTest : Expr → Bool
  | .UnaryOp .Not _ _ => false
  | .BoolOp .. => false
  | .IfExp .. => false
  | .Compare .. => false
  | _ => true
def isTup : Expr → Bool
  | .Tuple .. => true
  | _ => false
def few1 (pos : Pos) : Bool := true
/-- a dict display of written texts -/
def dlitIs : List (KP × PV) → List (Option Expr) → List Expr → Bool
  | [], [], [] => true
  | (k, v) :: r, some (.Constant c _ _) :: ks, .Constant d _ _ :: vs => constIs (kV' k) c && (constIs v d && dlitIs r ks vs)
  | _, _, _ => false
def kwIs (ks : List Str) : List Keyword → Bool
  | [⟨some a, _, _⟩] => decide (ks = [a])
  | [⟨some a, _, _⟩, ⟨some b, _, _⟩] => decide (ks = [b, a])
  | _ => false
def isKw (i : Nat) (kws : List Keyword) (p : Str × GV) : Bool := match p.2 with
  | .kw j ns => j == i && kwIs ns kws
  | _ => false
def src (G : List (Str × GV)) : CE → Kx → Nd → Bool
  | .var i, k, n => match n with
    | .e (.Name x _) => (slotIs k i x)
    | _ => false
  | .bor i, k, n => match n with
    | .e (.Name x _) => (slotIs k i x)
    | _ => false
  | .c p, _, n => match n with
    | .e (.Constant v _ _) => constIs p v
    | .ts [] => (match p with
      | .bl true => true
      | _ => false)
    | _ => false
  | .g j, k, n => match n with
    | .e (.Name x _) => (glo k.sc x && (okName x && (match G[j]? with
    | some (y, .fn _) => y == x
    | some (y, .val _) => y == x
    | _ => false)))
    | _ => false
  | .nil, _, n => match n with
    | .a [] => (true)
    | _ => false
  | .cons a r, k, n => match n with
    | .a (e :: es) => (src G a k (.e e) && (strong a && (notStar e && (src G r k (.a es) && noStar es))))
    | _ => false
  | .tup r, k, n => match n with
    | .e (.Tuple es _ _) => (src G r k (.a es))
    | _ => false
  | .lst r, k, n => match n with
    | .e (.List es _) => (src G r k (.a es))
    | _ => false
  | .lstc r, k, n => match n with
    | .e (.List es _) => (src G r k (.a es))
    | _ => false
  | .bin o a b, k, n => match n with
    | .e (.BinOp x op y _) => ((opN o == some op) && (src G a k (.e x) && src G b k (.e y)))
    | _ => false
  | .cmp o a b, k, n => match n with
    | .e (.Compare x [op] [y] _) => ((cmN o == some op) && (src G a k (.e x) && (src G b k (.e y) && notSet y)))
    | .t (.Compare x [op] [y] _) => ((cmN o == some op) && (src G a k (.e x) && (src G b k (.e y) && notSet y)))
    | _ => false
  | .chain o o' a b d, k, n => match n with
    | .e (.Compare x [op, op'] [y, z] _) => ((cmN o == some op && cmN o' == some op') && (src G a k (.e x) && (src G b k (.e y) && (src G d k (.e z) && (notSet y && notSet z)))))
    | .t (.Compare x [op, op'] [y, z] _) => ((cmN o == some op && cmN o' == some op') && (src G a k (.e x) && (src G b k (.e y) && (src G d k (.e z) && (notSet y && notSet z)))))
    | _ => false
  | .ite t a b, k, n => match n with
    | .e (.IfExp x y z _) => (src G t k (.t x) && (src G a k (.e y) && (src G b k (.e z) && (strong a && strong b))))
    | _ => false
  | .and a b, k, n => match n with
    | .e (.BoolOp .And (x :: y :: r) p) => (src G a k (.e x) && (src G b k (.e (.BoolOp .And (y :: r) p)) && (strong a && strong b)))
    | .t (.BoolOp .And (x :: y :: r) p) => (src G a k (.t x) && src G b k (.t (.BoolOp .And (y :: r) p)))
    | _ => false
  | .or a b, k, n => match n with
    | .e (.BoolOp .Or (x :: y :: r) p) => (src G a k (.e x) && (src G b k (.e (.BoolOp .Or (y :: r) p)) && (strong a && strong b)))
    | .t (.BoolOp .Or (x :: y :: r) p) => (src G a k (.t x) && src G b k (.t (.BoolOp .Or (y :: r) p)))
    | _ => false
  | .one a, k, n => match n with
    | .e (.BoolOp _ [x] _) => (src G a k (.e x) && strong a)
    | .t (.BoolOp _ [x] _) => (src G a k (.t x))
    | _ => false
  | .not a, k, n => match n with
    | .e (.UnaryOp .Not x _) => (src G a k (.e x) && strong a)
    | .t (.UnaryOp .Not x _) => (src G a k (.t x))
    | _ => false
  | .neg a, k, n => match n with
    | .e (.UnaryOp .USub x _) => (src G a k (.e x))
    | _ => false
  | .call i r, k, n => match n with
    | .e (.Call (.Name x _) es [] _) => (glo k.sc x && (okName x && ((G.any fun p => p.1 == x && (match p.2 with
      | .fn j => j == i
      | _ => false)) && (src G r k (.a es) && (noStar es && (!es.isEmpty || (match r with
      | .nil => true
      | _ => false)))))))
    | _ => false
  | .callL i r, k, n => match n with
    | .e (.Call (.Name x _) (e :: es) [] _) => (slotIs k i x && (src G r k (.a (e :: es)) && noStar (e :: es)))
    | _ => false
  | .callK1 i a, k, n => match n with
    | .e (.Call (.Name x _) [] [⟨kn, e, kp⟩] _) => (glo k.sc x && (okName x && ((G.any fun p => p.1 == x && (match p.2 with
      | .fn j => j == i
      | _ => false)) && (G.any (isKw i [⟨kn, e, kp⟩]) && (src G a k (.e e) && strong a)))))
    | _ => false
  | .callK2 i a b, k, n => match n with
    | .e (.Call (.Name x _) [] [⟨kn, e, kp⟩, ⟨kn2, e2, kp2⟩] _) => (glo k.sc x && (okName x && ((G.any fun p => p.1 == x && (match p.2 with
      | .fn j => j == i
      | _ => false)) && (G.any (isKw i [⟨kn, e, kp⟩, ⟨kn2, e2, kp2⟩]) && ((src G a k (.e e) && strong a) && (src G b k (.e e2) && strong b))))))
    | _ => false
  | .u1 j a, k, n => match n with
    | .e (.Call (.Name x _) [e] [] _) => ((u1N j == some x) && (blt G k x && (src G a k (.e e) && notStar e)))
    | _ => false
  | .u2 j a b, k, n => match n with
    | .e (.Call (.Name x _) [e, f] [] _) => ((u2N j == some x) && (blt G k x && (src G a k (.e e) && (src G b k (.e f) && (notStar e && notStar f)))))
    | _ => false
  | .isi j a, k, n => match n with
    | .e (.Call (.Name x _) [e, .Name y _] [] _) => ((x == ("isinstance" : Str)) && (blt G k x && (blt G k y && ((match isiN j with
    | some T => y == PySem.Str.ofString T
    | none => false) && (src G a k (.e e) && notStar e)))))
    | _ => false
  | .ix a b, k, n => match n with
    | .e (.Subscript x y _) => (src G a k (.e x) && (src G b k (.e y) && plainIx y))
    | _ => false
  | .cutL a b, k, n => match n with
    | .e (.Subscript x (.Slice (some y) none none _) _) => (src G a k (.e x) && src G b k (.e y))
    | _ => false
  | .cutH a b, k, n => match n with
    | .e (.Subscript x (.Slice none (some y) none _) _) => (src G a k (.e x) && src G b k (.e y))
    | _ => false
  | .cutB a b d, k, n => match n with
    | .e (.Subscript x (.Slice (some y) (some z) none _) _) => (src G a k (.e x) && (src G b k (.e y) && src G d k (.e z)))
    | _ => false
  | .m1 j a b, k, n => match n with
    | .e (.Call (.Attribute x m ap) [e] [] cp) => ((m1N j == some m) && (src G a k (.e x) && (src G b k (.e e) && (noCall0 x && (notStar e && (ap.endLine == cp.line))))))
    | _ => false
  | .get a b, k, n => match n with
    | .e (.Call (.Attribute x m ap) [e] [] cp) => ((m == ("get" : Str)) && (src G a k (.e x) && (src G b k (.e e) && (noCall0 x && (notStar e && (ap.endLine == cp.line))))))
    | _ => false
  | .get2 a b d, k, n => match n with
    | .e (.Call (.Attribute x m ap) [e, f] [] cp) => ((m == ("get" : Str)) && (src G a k (.e x) && (src G b k (.e e) && (src G d k (.e f) && (strong d && (noCall0 x && (notStar e && (notStar f && (ap.endLine == cp.line)))))))))
    | _ => false
  | .fmt a, k, n => match n with
    | .e (.FormattedValue x c none _) => ((c == -1) && (src G a k (.e x) && strong a))
    | _ => false
  | .jnil, _, n => match n with
    | .j [] => (true)
    | _ => false
  | .jcons a r, k, n => match n with
    | .j (e :: es) => (src G a k (.e e) && (strong a && src G r k (.j es)))
    | _ => false
  | .js r, k, n => match n with
    | .e (.JoinedStr (x :: y :: es) _) => (src G r k (.j (x :: y :: es)))
    | _ => false
  | .lc t vs s tt e, k, n => match n with
    | .e (.ListComp x [⟨tg, it, ifs, 0⟩] scope _) => (blkIs k vs scope && (t.slots.all (fun i => vs.contains i) && (src G s k (.i tg it) && (notSet it && (tgtIs (k.blk scope) t (.e tg) && (src G tt (k.blk scope) (.ts ifs) && (src G e (k.blk scope) (.e x) && strong e)))))))
    | _ => false
  | .lc2 t0 t1 vs vs1 s0 tt0 s1 tt1 e, k, n => match n with
    | .e (.ListComp x [⟨tg, it, ifs, 0⟩, ⟨tg1, it1, ifs1, 0⟩] scope _) => (blkIs k vs scope && (t0.slots.all (fun i => vs.contains i) && (t1.slots.all (fun i => vs1.contains i) && (vs1.all (fun i => vs.contains i) && (src G s0 k (.i tg it) && (notSet it && (tgtIs (k.blk scope) t0 (.e tg) && (src G tt0 (k.blk scope) (.ts ifs) &&
      (src G s1 (k.blk scope) (.i tg1 it1) && (notSet it1 && (tgtIs (k.blk scope) t1 (.e tg1) && (src G tt1 (k.blk scope) (.ts ifs1) && (src G e (k.blk scope) (.e x) && strong e)))))))))))))
    | _ => false
  | .dict a, k, n => match n with
    | .e (.Call (.Name x _) [e] [] _) => ((x == ("dict" : Str)) && (blt G k x && (src G a k (.e e) && (strong a && notStar e))))
    | _ => false
  | .dlit kvs, _, n => match n with
    | .e (.Dict ks vs _) => (dlitIs kvs ks vs && (!kvs.isEmpty && (decide (kvs.length ≤ 15) && decide (kvs.map (·.1)).Nodup)))
    | _ => false
  | .dnew, _, n => match n with
    | .e (.Dict [] [] _) => (true)
    | _ => false
  | .seq a, k, n => match n with
    | .i _ x => (src G a k (.e x) && strong a)
    | _ => false
  | .rng j r, k, n => match n with
    | .i _ (.Call (.Name x _) es [] _) => ((x == ("range" : Str)) && (blt G k x && (src G r k (.a es) && (noStar es && (j == es.length && (j == 1 || j == 2))))))
    | _ => false
  | .zip r, k, n => match n with
    | .i tg (.Call (.Name x _) es [] _) => ((x == ("zip" : Str)) && (blt G k x && (src G r k (.a es) && (noStar es && (es.length == 2 && isTup tg)))))
    | _ => false
  | .walk m' a, k, n => match m', n with
    | .vals, .i _ (.Call (.Attribute x m ap) [] [] cp) => ((m == ("values" : Str)) && (src G a k (.e x) && (strong a && (noCall0 x && (ap.endLine == cp.line)))))
    | .items, .i tg (.Call (.Attribute x m ap) [] [] cp) => ((m == ("items" : Str)) && (isTup tg && (src G a k (.e x) && (strong a && (noCall0 x && (ap.endLine == cp.line))))))
    | .keys, .i _ x => (src G a k (.e x) && strong a)
    | _, _ => false
  | .tv a, k, n => match n with
    | .t x => (src G a k (.e x) && valTest x)
    | _ => false
  | .t1 a, k, n => match n with
    | .ts [x] => (src G a k (.t x))
    | _ => false
end Tg
end
section
set_option Elab.async false
set_option linter.all false
set_option autoImplicit false
set_option maxRecDepth 100000
/-! the look is enough -/
namespace Tg
open PySem PySem.Spec PyProof.Rows L2
/-- a context that the code may run in -/
structure XOk (W : Wd) (P : Px) (kn : Nat) (k : Kx) (E : XK) (X : Cx) : Prop where
  prog : X.prog = W.P
  w : X.w = W.w
  K : X.K = W.K
  N : X.N = k.N
  nd : X.N.Nodup
  sc : X.env.scope = k.sc
  fc : ∀ x, match k.fc with
    | some s => X.fn x = (s.names.lookup x == some .cell)
    | none => X.fn x = true
  calm : X.calm = true
  un : X.A.units + 70 < cLine
  room : Room kn X.A
  gd : X.A.guards = some []
  fns : ∀ j, j < P.nf → ∃ fd ps, FnG X.prog X.w X.K X.mg X.base (CX X.prog X.w) kn (W.fa j) fd ps (spOf W P.C j) ∧ PySem.W.keepIn X.K (.ref (W.fa j)) = true ∧ BindsX X.K fd ps (W.pn j)
  G : ∀ x gv, (x, gv) ∈ P.G → match gv with
    | .fn i => i < P.nf ∧ X.mg x = some (.ref (W.fa i))
    | .val p => ∃ v u, X.mg x = some u ∧ RelV v u ∧ ∀ H b, Rep W H b p v
    | .none => X.mg x = none
    | .kw i ns => W.pn i = ns
  pass : Passes (CX X.prog X.w) X E
section
variable {W : Wd} {P : Px} {kn : Nat} {k : Kx} {E : XK} {X : Cx}
theorem XOk.blk (o : XOk W P kn k E X) (s : Shared) (H : Hp) (scope : Scope) (C : Addr) (cl : List (Str × Addr)) (fp : List Addr) : XOk W P kn (k.blk scope) XK0 (X.blk s H scope (compEnvC scope cl C X.env) fp) where
  prog := o.prog
  w := o.w
  K := o.K
  N := o.N
  nd := o.nd
  sc := by
    show L2.relS scope X.env.scope = L2.relS scope k.sc
    rw [o.sc]
  fc := fun x => rfl
  calm := o.calm
  un := o.un
  room := o.room
  gd := o.gd
  fns := o.fns
  G := o.G
  pass := fun pins σ H s e s' I c => by
    obtain ⟨_, _, _, _, _, _, _, _, _, _, _, _, c⟩ := c
    exact c.elim
theorem XOk.kw (o : XOk W P kn k E X) : ∀ x j ns, (x, GV.kw j ns) ∈ P.G → W.pn j = ns := fun x j ns h => o.G x (.kw j ns) h
theorem XOk.vis (o : XOk W P kn k E X) {x : Str} (h : Tg.vis k.sc x = true) : Vis X.env.scope x := by
  rw [o.sc]
  unfold Tg.vis at h
  unfold Vis
  split at h
  · rename_i q; exact .inl q
  · rename_i q; exact .inr (.inl q)
  · rename_i q; exact .inr (.inr q)
  · cases h
theorem XOk.gl (o : XOk W P kn k E X) {x : Str} (h : glo k.sc x = true) : Gl X x := by
  show X.env.scope.names.lookup x = _
  rw [o.sc]
  unfold glo at h
  split at h
  · assumption
  · cases h
theorem okN_of {x : Str} (h : okName x = true) : (x == ("__debug__" : Str)) = false ∧ (x == ("__classdict__" : Str)) = false := by
  unfold okName at h
  simp only [Bool.and_eq_true, Bool.not_eq_true'] at h
  exact h
theorem XOk.slot (o : XOk W P kn k E X) {i : Nat} {x : Str} (h : slotIs k i x = true) : X.N[i]? = some x ∧ Vis X.env.scope x ∧ (x == ("__debug__" : Str)) = false ∧ (x == ("__classdict__" : Str)) = false := by
  unfold slotIs at h
  simp only [Bool.and_eq_true, decide_eq_true_eq] at h
  rw [o.N]
  exact ⟨h.1, o.vis h.2.1, okN_of h.2.2⟩
theorem XOk.no (o : XOk W P kn k E X) {x : Str} (h : gNo P.G x = true) : X.mg x = none := by
  unfold gNo at h
  rw [List.any_eq_true] at h
  obtain ⟨⟨y, gv⟩, hm, h⟩ := h
  simp only [Bool.and_eq_true, beq_iff_eq] at h
  obtain ⟨rfl, h⟩ := h
  have := o.G y gv hm
  cases gv with
  | none => exact this
  | _ => cases h
theorem XOk.blt (o : XOk W P kn k E X) {x : Str} (h : Tg.blt P.G k x = true) : Gl X x ∧ X.mg x = none := by
  unfold Tg.blt at h
  rw [Bool.and_eq_true] at h
  exact ⟨o.gl h.1, o.no h.2⟩
/-! ### of the text alone -/
theorem star_cons {e : Expr} {es : List Expr} {env : PySem.Env} (h : notStar e = true) : starEach (e :: es) env = (false, eval e env) :: starEach es env := by
  cases e <;> first | rfl | cases h
theorem plainS {pos : Pos} {env : PySem.Env} : ∀ {es : List Expr}, noStar es = true → (backTo pos (starEach es env)).any (·.1) = false
  | [], _ => rfl
  | e :: es, h => by
    unfold noStar at h
    rw [List.all_cons, Bool.and_eq_true] at h
    rw [star_cons h.1]
    show (false || (backTo pos (starEach es env)).any (·.1)) = false
    rw [plainS (es := es) h.2]
    rfl
theorem base_of {o : Expr} {m : Str} {env : PySem.Env} {whole : Sem Value} (h : noCall0 o = true) : attributeBase o m env whole = whole := by
  cases o with
  | Call f args kws pos =>
    cases args with
    | cons a r => cases f <;> rfl
    | nil =>
      cases kws with
      | nil => cases h
      | cons a r => cases f <;> rfl
  | _ => rfl
theorem folded_of {e : Expr} {env : PySem.Env} (h : notSet e = true) : ∀ x, foldedSetIterable e env x = pure x := by
  intro x
  cases e <;> first | rfl | cases h
theorem behind_of {op : CmpOp} {e : Expr} (h : notSet e = true) : behindInMarks op e = false := by
  cases e <;> first | rfl | cases h
theorem asg_cons {e : Expr} {es : List Expr} {env : PySem.Env} (h : notStar e = true) : assignEach (e :: es) env = (false, assign e env) :: assignEach es env := by
  cases e <;> first | rfl | cases h
theorem asg_len {env : PySem.Env} : ∀ {es : List Expr}, noStar es = true → (assignEach es env).length = es.length ∧ (assignEach es env).findIdx? (·.1) = none
  | [], _ => ⟨rfl, rfl⟩
  | e :: es, h => by
    unfold noStar at h
    rw [List.all_cons, Bool.and_eq_true] at h
    obtain ⟨h1, h2⟩ := asg_len (env := env) (es := es) h.2
    rw [asg_cons h.1]
    refine ⟨by rw [List.length_cons, List.length_cons, h1], ?_⟩
    rw [List.findIdx?_cons, h2]
    rfl
theorem ix_of {e : Expr} (h : plainIx e = true) : PlainIx e := by
  intro o i
  cases e <;> first | rfl | cases h
theorem tt_of' {e : Expr} {env : PySem.Env} (h : valTest e = true) : ∀ whole, isTrue e env whole = (do let v ← whole; standAt e.pos; holding [v] (truthy v)) := by
  intro whole
  cases e with
  | UnaryOp op x p => cases op <;> first | rfl | cases h
  | _ => first | rfl | cases h
theorem few_of {pos : Pos} {e : Expr} {env : PySem.Env} (h : notStar e = true) : ((backTo pos (starEach [e] env)).all (fun x => !x.1) && (backToKw pos (keywordEach [] env)).all (fun x => x.1.isSome)
    && decide (([e] : List Expr).length + ([] : List Keyword).length + (if ([] : List Keyword).isEmpty then 0 else 1) < 30)) = true := by
  rw [star_cons h]; rfl
theorem few_of2 {pos : Pos} {e f : Expr} {env : PySem.Env} (h : notStar e = true) (h2 : notStar f = true) : ((backTo pos (starEach [e, f] env)).all (fun x => !x.1) && (backToKw pos (keywordEach [] env)).all (fun x => x.1.isSome)
    && decide (([e, f] : List Expr).length + ([] : List Keyword).length + (if ([] : List Keyword).isEmpty then 0 else 1) < 30)) = true := by
  rw [star_cons h, star_cons h2]; rfl
theorem tree_of {pos : Pos} {e : Expr} {env : PySem.Env} (h : notStar e = true) : backTo pos (starEach [e] env) = [(false, eval e env)] := by
  rw [star_cons h]; rfl
theorem tree_of2 {pos : Pos} {e f : Expr} {env : PySem.Env} (h : notStar e = true) (h2 : notStar f = true) : backTo pos (starEach [e, f] env) = [(false, eval e env), (false, eval f env)] := by
  rw [star_cons h, star_cons h2]; rfl
theorem all_or {l : List Nat} {vs : List Nat} (h : l.all (fun i => vs.contains i) = true) : ∀ i ∈ l, i ∈ vs := fun i hi => by
  rw [List.all_eq_true] at h
  simpa using h i hi
/-! ### targets -/
theorem tgt_ok (o : XOk W P kn k E X) (g : Gh) : ∀ (t : Tgt) (n : Nd), tgtIs k t n = true → match n with
    | .e tg => ∀ w, (w = true → isTup tg = true) → PG X tg (tG W w g t)
    | .a es => PGs X es (tGs W g t)
    | _ => True := by
  intro t
  induction t with
  | name i =>
    intro n h
    cases n with
    | e tg =>
      cases tg with
      | Name x p =>
        intro w hw
        have hw : w = false := by
          cases w with
          | false => rfl
          | true => exact absurd (hw rfl) (by simp [isTup])
        subst hw
        simp only [tgtIs, Bool.and_eq_true, Bool.or_eq_true, decide_eq_true_eq] at h
        obtain ⟨hi, hl, hf⟩ := h
        refine sg_name o.nd (by rw [o.N]; exact hi) ?_ ?_
        · rw [o.sc]
          unfold L2.Loc
          split at hl
          · rename_i q; exact .inl q
          · rename_i q; exact .inr q
          · cases hl
        · rw [o.sc]
          rcases hf with hf | hf
          · exact .inr hf
          · left
            have := o.fc x
            cases hk : k.fc with
            | none => rw [hk] at this; exact this
            | some s =>
              rw [hk] at this hf
              rw [this]
              exact hf
      | _ => cases h
    | _ => first | trivial | cases h
  | nil =>
    intro n h
    cases n with
    | a es =>
      cases es with
      | nil => exact sg_nil
      | cons _ _ => cases h
    | _ => first | trivial | cases h
  | cons a r iha ihr =>
    intro n h
    cases n with
    | a es =>
      cases es with
      | nil => cases h
      | cons e es =>
        simp only [tgtIs, Bool.and_eq_true] at h
        have h1 := iha (.e e) h.1 false (by simp)
        have h2 := ihr (.a es) h.2.2
        exact sg_cons h1 h2 (by rw [asg_cons h.2.1]; rfl)
    | _ => first | trivial | cases h
  | tup r ih =>
    intro n h
    cases n with
    | e tg =>
      cases tg with
      | Tuple es kk p =>
        intro w hw
        simp only [tgtIs, Bool.and_eq_true, beq_iff_eq] at h
        obtain ⟨h1, h2⟩ := asg_len (env := X.env) h.2.1
        exact sg_tup o.K o.calm (ih (.a es) h.1) h.2.2 h1 h2
      | _ => cases h
    | _ => first | trivial | cases h
theorem own_of : ∀ {N : List Str} {vs : List Nat} {own : List (Str × Nat)}, ownOf N vs = some own → own.map (·.2) = vs
  | N, [], own, h => by cases h; rfl
  | N, v :: r, own, h => by
    unfold ownOf at h
    split at h
    · rename_i x l h1 h2
      cases h
      rw [List.map_cons, own_of h2]
    · cases h
theorem blk_of (o : XOk W P kn k E X) {vs : List Nat} {scope : Scope} (h : blkIs k vs scope = true) : ∃ own, BlkOk X.N X.env.scope scope own ∧ own.map (·.2) = vs := by
  unfold blkIs at h
  split at h
  · rename_i own q
    refine ⟨own, ?_, own_of q⟩
    rw [o.N, o.sc]
    exact blkOk_by h
  · cases h
end
end Tg
end
section
set_option Elab.async false
set_option linter.all false
set_option autoImplicit false
set_option maxRecDepth 100000
/-! the look is enough: expressions -/
namespace Tg
open PySem PySem.Spec PyProof.Rows L2
section
variable {W : Wd} {P : Px} {kn : Nat} {k : Kx} {E : XK} {X : Cx} {g : Gh}
theorem op_ok (o : XOk W P kn k E X) : ∀ (j : Nat) (op : Operator), opN j = some op → ∃ r, OpR X (binaryOp op) r ∧ Op2 W (RW W) (RW W) (opF j) r
  | 0, op, h => by cases h; exact ⟨_, o_add o.K, f_add⟩
  | 1, op, h => by cases h; exact ⟨_, op_sub, f_sub⟩
  | 2, op, h => by cases h; exact ⟨_, o_mul, f_mul⟩
  | 3, op, h => by cases h; exact ⟨_, op_fdivW, f_div⟩
  | 4, op, h => by cases h; exact ⟨_, op_mod, f_mod⟩
  | 5, op, h => by cases h; exact ⟨_, op_pow, f_pow⟩
  | n + 6, op, h => by cases h
theorem cm_ok (o : XOk W P kn k E X) : ∀ (j : Nat) (op : CmpOp), cmN j = some op → ∃ r, OpR X (compareOp op) r ∧ Op2 W (RW W) (RW W) (cmF j) r ∧ BlF (cmF j)
  | 0, op, h => by cases h; exact ⟨_, o_lt o.K (by have := o.un; omega), f_lt, blf_lt⟩
  | 1, op, h => by cases h; exact ⟨_, op_le, f_le, blf_le⟩
  | 2, op, h => by cases h; exact ⟨_, op_gt, f_gt, blf_gt⟩
  | 3, op, h => by cases h; exact ⟨_, op_ge, f_ge, blf_ge⟩
  | 4, op, h => by cases h; exact ⟨_, o_eq o.prog o.w o.K (by have := o.un; omega), f_eq, blf_eq⟩
  | 5, op, h => by cases h; exact ⟨_, o_ne o.prog o.w o.K (by have := o.un; omega), f_ne, blf_ne⟩
  | 6, op, h => by cases h; exact ⟨_, o_in o.prog o.w o.K (by have := o.un; omega), (show Op2 W (RW W) (RW W) vIn _ from by rw [vIn_eq]; exact f_in false), (show BlF vIn from by rw [vIn_eq]; exact blf_in false)⟩
  | 7, op, h => by cases h; exact ⟨_, o_notIn o.prog o.w o.K (by have := o.un; omega), (show Op2 W (RW W) (RW W) vNotIn _ from by rw [vNotIn_eq]; exact f_in true), (show BlF vNotIn from by rw [vNotIn_eq]; exact blf_in true)⟩
  | 8, op, h => by cases h; exact ⟨_, op_isN, f_is, blf_is⟩
  | 9, op, h => by cases h; exact ⟨_, op_notN, f_isN, blf_isN⟩
  | n + 10, op, h => by cases h
section
variable {e c : Expr} {da db : Den} {p pos : Pos} {x : Str}
theorem u1_ok (o : XOk W P kn k E X) (ha : PE X e (tEr W g E (RW W) da)) (hs : notStar e = true) (hg : Gl X x) (hm : X.mg x = none) : ∀ j, u1N j = some x → PE X (.Call (.Name x p) [e] [] pos) (tEv W g E (dB1 (u1F j) da))
  | 0, h => by cases h; exact sb_fun (o_len o.prog o.w o.K) f_len hg hm (by decide +kernel) ha (by decide) (by decide) (star_cons hs) rfl
  | 1, h => by cases h; exact sb_ty (o_tuple o.K) f_tuple hg hm (by decide +kernel) ha (by decide) (by decide) (star_cons hs) rfl
  | 2, h => by cases h; exact sb_ty (o_list o.K) f_list hg hm (by decide +kernel) ha (by decide) (by decide) (star_cons hs) rfl
  | 3, h => by cases h; exact sb_fun (o.K ▸ cr_all o.calm) f_all hg hm (by decide +kernel) ha (by decide) (by decide) (star_cons hs) rfl
  | 4, h => by cases h; exact sb_fun (o.K ▸ cr_any o.calm) f_any hg hm (by decide +kernel) ha (by decide) (by decide) (star_cons hs) rfl
  | 5, h => by cases h; exact sb_fun (o.K ▸ cr_sum o.calm) f_sum hg hm (by decide +kernel) ha (by decide) (by decide) (star_cons hs) rfl
  | 6, h => by cases h; exact sb_fun (o.K ▸ cr_min o.calm) f_min hg hm (by decide +kernel) ha (by decide) (by decide) (star_cons hs) rfl
  | 7, h => by cases h; exact sb_fun (o.K ▸ cr_max o.calm) f_max hg hm (by decide +kernel) ha (by decide) (by decide) (star_cons hs) rfl
  | 8, h => by cases h; exact sb_ty o_str f_str hg hm (by decide +kernel) ha (by decide) (by decide) (star_cons hs) rfl
  | 9, h => by cases h; exact sb_ty o_int f_int hg hm (by decide +kernel) ha (by decide) (by decide) (star_cons hs) rfl
  | 10, h => by cases h; exact sb_fun call_abs f_abs hg hm (by decide +kernel) ha (by decide) (by decide) (star_cons hs) rfl
  | 11, h => by cases h; exact sb_ty call_bool1 f_bool hg hm (by decide +kernel) ha (by decide) (by decide) (star_cons hs) rfl
  | 12, h => by cases h; exact sb_fun (cr_repr o.K o.gd o.un) f_repr hg hm (by decide +kernel) ha (by decide) (by decide) (star_cons hs) rfl
  | 13, h => by cases h; exact sb_fun (cr_sortedD o.K (by have := o.un; omega)) f_sorted hg hm (by decide +kernel) ha (by decide) (by decide) (star_cons hs) rfl
  | n + 14, h => by cases h
theorem u2_ok (o : XOk W P kn k E X) (ha : PE X e (tEr W g E (RW W) da)) (hb : PE X c (tEr W g E (RW W) db)) (hs : notStar e = true) (hs2 : notStar c = true) (hg : Gl X x) (hm : X.mg x = none) : ∀ j, u2N j = some x → PE X (.Call (.Name x p) [e, c] [] pos) (tEv W g E (dB2 (u2F j) da db))
  | 0, h => by cases h; exact sb_fun2 (call_max2 o.calm) f_max2 hg hm (by decide +kernel) ha hb (by decide) (by decide) (star_cons hs) (star_cons hs2) (plainS (es := [c]) (by simp [noStar, hs2]))
  | 1, h => by cases h; exact sb_fun2 (call_min2 o.calm) f_min2 hg hm (by decide +kernel) ha hb (by decide) (by decide) (star_cons hs) (star_cons hs2) (plainS (es := [c]) (by simp [noStar, hs2]))
  | n + 2, h => by cases h
theorem f_rpart : OpM W mRpart (fun x xs H Q => ∃ (a : List Nat) (c : Nat), x = .str ⟨a.toArray⟩ ∧ xs = [.str ⟨#[c]⟩] ∧ a.length ≤ sizeLine ∧
    NewT (match rpar c a with
      | some (p, q) => [.str ⟨p.toArray⟩, .str ⟨#[c]⟩, .str ⟨q.toArray⟩]
      | none => [.str ⟨#[]⟩, .str ⟨#[]⟩, .str ⟨a.toArray⟩]) H Q) := by
  intro v u w x y H b Q hf rv ru hw kk
  unfold mRpart at hw
  split at hw
  · rename_i a c
    split at hw
    · rename_i hl
      cases rw_str rv; cases rw_str ru
      refine ⟨a, c, rfl, rfl, hl, fun p o hp ho => ?_⟩
      cases hq : rpar c a with
      | none =>
        rw [hq] at hw; cases hw
        exact kk _ _ (same_upd hp) (.tup (.inl ⟨hf p hp, o, upd_same, ho⟩) (.cons (.str []) (.cons (.str []) (.cons (.str a) .nil))))
      | some pq =>
        obtain ⟨p1, q1⟩ := pq
        rw [hq] at hw; cases hw
        exact kk _ _ (same_upd hp) (.tup (.inl ⟨hf p hp, o, upd_same, ho⟩) (.cons (.str p1) (.cons (.str [c]) (.cons (.str q1) .nil))))
    · cases hw
  · cases hw
theorem m1_ok {m : Str} {apos : Pos} (o : XOk W P kn k E X) (ha : PE X e (tEr W g E (RW W) da)) (hb : PE X c (tEr W g E (RW W) db)) (hs : notStar c = true) (hn : noCall0 e = true) (hl : (apos.endLine == pos.line) = true) : ∀ j, m1N j = some m → PE X (.Call (.Attribute e m apos) [c] [] pos) (tEv W g E (dM1 (m1F j) da db))
  | 0, h => by cases h; exact sb_m1 PySem.F.slot_str_join PySem.F.type_str_join (o_join o.K) f_join ha hb hl (base_of hn) (star_cons hs)
  | 1, h => by cases h; exact sb_m1 PySem.F.slot_str_split PySem.F.type_str_split mt_split f_split ha hb hl (base_of hn) (star_cons hs)
  | 2, h => by cases h; exact sb_m1 PySem.F.slot_str_partition PySem.F.type_str_partition mt_partF f_part ha hb hl (base_of hn) (star_cons hs)
  | 3, h => by cases h; exact sb_m1 PySem.F.slot_str_rpartition PySem.F.type_str_rpartition mt_rpartF f_rpart ha hb hl (base_of hn) (star_cons hs)
  | n + 4, h => by cases h
theorem isi_ok {y : Str} {py : Pos} {T : String} (o : XOk W P kn k E X) (ha : PE X e (tEr W g E (RW W) da)) (hs : notStar e = true) (hg : Gl X "isinstance") (hm : X.mg "isinstance" = none) (hy : Gl X y) (hmy : X.mg y = none) (hT : y = PySem.Str.ofString T) :
    ∀ j, isiN j = some T → PE X (.Call (.Name "isinstance" p) [e, .Name y py] [] pos) (tEv W g E (dB1 (uIsi ((isiN j).getD "")) da))
  | 0, h => by cases h; subst hT; exact se_isi o.K rfl (by decide) hg hm hy hmy (by decide +kernel) ha (by decide) (by decide) (star_cons hs) rfl rfl
  | 1, h => by cases h; subst hT; exact se_isi o.K rfl (by decide) hg hm hy hmy (by decide +kernel) ha (by decide) (by decide) (star_cons hs) rfl rfl
  | 2, h => by cases h; subst hT; exact se_isi o.K rfl (by decide) hg hm hy hmy (by decide +kernel) ha (by decide) (by decide) (star_cons hs) rfl rfl
  | 3, h => by cases h; subst hT; exact se_isi o.K rfl (by decide) hg hm hy hmy (by decide +kernel) ha (by decide) (by decide) (star_cons hs) rfl rfl
  | 4, h => by cases h; subst hT; exact se_isi o.K rfl (by decide) hg hm hy hmy (by decide +kernel) ha (by decide) (by decide) (star_cons hs) rfl rfl
  | n + 5, h => by cases h
end
/-- what the code promises of the text -/
def Good (W : Wd) (P : Px) (X : Cx) (g : Gh) (E : XK) (c : CE) : Nd → Prop
  | .e x => PE X x (tEr W g E (RW W) (ev P c)) ∧ (strong c = true → PE X x (tEv W g E (ev P c))) ∧ (fresh c = true → PE X x (tEf W g E (ev P c)))
  | .a l => PA X l (tEa W g E (ev P c))
  | .i tg x => (pairs c = true → isTup tg = true) ∧ PI X tg x (tI W (pairs c) g E (ev P c))
  | .j l => JP X W g E l (ev P c)
  | .t x => PT X x (tEt W g E (ev P c)) ∧ ∀ op vs p, x = .BoolOp op vs p → PW X x (tEt W g E (ev P c))
  | .ts l => PTs X l (tEt W g E (ev P c))
theorem weak_of {e : Expr} {d : Den} (h : PE X e (tEv W g E d)) : PE X e (tEr W g E (RW W) d) := peI h fun _ _ _ q => tEw_of q
/-- a strong, not fresh one -/
theorem good_e {c : CE} {x : Expr} (h : PE X x (tEv W g E (ev P c))) (hf : fresh c = false) : Good W P X g E c (.e x) := ⟨weak_of h, fun _ => h, fun z => by rw [hf] at z; cases z⟩
theorem good_f {c : CE} {x : Expr} (h : PE X x (tEf W g E (ev P c))) : Good W P X g E c (.e x) := ⟨weak_of (ev_ef h), fun _ => ev_ef h, fun _ => h⟩
theorem good_t {c : CE} {x : Expr} (h : PT X x (tEt W g E (ev P c))) (hn : ∀ op vs p, x ≠ .BoolOp op vs p) : Good W P X g E c (.t x) := ⟨h, fun op vs p q => absurd q (hn op vs p)⟩
theorem good_w {c : CE} {x : Expr} (h : PW X x (tEt W g E (ev P c))) : Good W P X g E c (.t x) := ⟨h.pt, fun _ _ _ _ => h⟩
end
end Tg
end
section
set_option Elab.async false
set_option linter.all false
set_option autoImplicit false
set_option maxRecDepth 100000
/-! the look is enough: all expressions -/
namespace Tg
open PySem PySem.Spec PyProof.Rows L2
section
variable {W : Wd} {P : Px} {kn : Nat}
theorem tup_shape {tg : Expr} (h : isTup tg = true) : ∃ es kk pos, tg = .Tuple es kk pos := by
  cases tg <;> first | exact ⟨_, _, _, rfl⟩ | cases h
theorem kw1_of {G : List (Str × GV)} {i : Nat} {kn : Option Str} {e : Expr} {kp : Pos} (hG : ∀ x j ns, (x, GV.kw j ns) ∈ G → W.pn j = ns) (h : G.any (isKw i [⟨kn, e, kp⟩]) = true) : ∃ a, kn = some a ∧ W.pn i = [a] := by
  obtain ⟨⟨x, gv⟩, hm, hy⟩ := List.any_eq_true.mp h
  unfold isKw at hy
  cases gv with
  | kw j ns =>
    simp only [Bool.and_eq_true, beq_iff_eq] at hy
    obtain ⟨rfl, hy⟩ := hy
    cases kn with
    | none => cases hy
    | some a => exact ⟨a, rfl, (hG _ _ _ hm).trans (of_decide_eq_true hy)⟩
  | _ => cases hy
theorem kw2_of {G : List (Str × GV)} {i : Nat} {kn kn2 : Option Str} {e e2 : Expr} {kp kp2 : Pos} (hG : ∀ x j ns, (x, GV.kw j ns) ∈ G → W.pn j = ns) (h : G.any (isKw i [⟨kn, e, kp⟩, ⟨kn2, e2, kp2⟩]) = true) : ∃ a b, kn = some a ∧ kn2 = some b ∧ W.pn i = [b, a] := by
  obtain ⟨⟨x, gv⟩, hm, hy⟩ := List.any_eq_true.mp h
  unfold isKw at hy
  cases gv with
  | kw j ns =>
    simp only [Bool.and_eq_true, beq_iff_eq] at hy
    obtain ⟨rfl, hy⟩ := hy
    cases kn with
    | none => cases hy
    | some a =>
      cases kn2 with
      | none => cases hy
      | some b => exact ⟨a, b, rfl, rfl, (hG _ _ _ hm).trans (of_decide_eq_true hy)⟩
  | _ => cases hy
theorem const_pe {X : Cx} {p : PV} {c : Const} {kd : Nat} {pos : Pos} (h : constIs p c = true) : ∃ x, PE X (.Constant c kd pos) (tC x) ∧ ∀ H b, Rep W H b p x := by
  unfold constIs at h
  split at h
  · rw [decide_eq_true_eq] at h; subst h; exact ⟨_, pe_int, fun _ _ => .int _⟩
  · rw [beq_iff_eq] at h; subst h; exact ⟨_, pe_bl, fun _ _ => .bl _⟩
  · exact ⟨_, pe_non, fun _ _ => .non⟩
  · rw [decide_eq_true_eq] at h; subst h; exact ⟨_, pe_str, fun _ _ => .str _⟩
  · cases h
theorem key_pe {X : Cx} {k : KP} {c : Const} {kd : Nat} {pos : Pos} (h : constIs (kV' k) c = true) : PE X (.Constant c kd pos) (tC (kV (kK k))) := by
  cases k with
  | i n =>
    cases c with
    | int j =>
      obtain rfl : n = j := of_decide_eq_true h
      exact pe_int
    | _ => cases h
  | s l =>
    cases c with
    | str x =>
      obtain rfl : x = ⟨l.toArray⟩ := of_decide_eq_true h
      exact pe_str
    | _ => cases h
theorem dlit_of {X : Cx} : ∀ {kvs : List (KP × PV)} {ks : List (Option Expr)} {vs : List Expr}, dlitIs kvs ks vs = true → ∃ zs, LitP W X kvs ks vs zs := by
  intro kvs ks vs h
  fun_induction dlitIs kvs ks vs with
  | case1 => exact ⟨[], .nil⟩
  | case2 k v r c kd p ks d kd2 p2 vs ih =>
    simp only [Bool.and_eq_true] at h
    obtain ⟨zs, hz⟩ := ih h.2.2
    obtain ⟨x, hx, rx⟩ := const_pe (W := W) (X := X) h.2.1
    exact ⟨_, .cons (key_pe h.1) hx rx hz⟩
  | case3 => cases h
theorem snd : ∀ (c : CE) (k : Kx) (n : Nd), src P.G c k n = true → ∀ (E : XK) (X : Cx), XOk W P kn k E X → ∀ g, Good W P X g E c n := by
  intro c
  induction c with
  | var i =>
    intro k n h E X o g
    simp only [src] at h
    split at h
    · obtain ⟨h1, h2, h3, h4⟩ := o.slot h
      exact good_e (se_var h1 h2 h3 h4) rfl
    · cases h
  | bor i =>
    intro k n h E X o g
    simp only [src] at h
    split at h
    · obtain ⟨h1, h2, h3, h4⟩ := o.slot h
      exact ⟨se_bor h1 h2 h3 h4, (fun z => nomatch z), fun z => nomatch z⟩
    · cases h
  | c p =>
    intro k n h E X o g
    simp only [src] at h
    split at h
    · rename_i v j pos
      refine good_e ?_ rfl
      unfold constIs at h
      split at h
      · rw [decide_eq_true_eq] at h; subst h; exact se_c pe_int fun _ _ => .int _
      · rw [beq_iff_eq] at h; subst h; exact se_c pe_bl fun _ _ => .bl _
      · exact se_c pe_non fun _ _ => .non
      · rw [decide_eq_true_eq] at h; subst h; exact se_c pe_str fun _ _ => .str _
      · cases h
    · split at h
      · exact st_none
      · cases h
    · cases h
  | g j =>
    intro k n h E X o g
    simp only [src] at h
    split at h
    · rename_i x pos
      simp only [Bool.and_eq_true] at h
      obtain ⟨h1, h2, h3⟩ := h
      refine good_e ?_ rfl
      split at h3
      · rename_i y i q
        rw [beq_iff_eq] at h3
        subst h3
        obtain ⟨_, hm⟩ := o.G y (.fn i) (List.mem_of_getElem? q)
        have : PE X (.Name y pos) (tEv W g E (dC (.fn i))) := se_c (pe_glob (v := .ref (W.fa i)) (o.gl h1) hm rfl (okN_of h2).1) fun _ _ => .fn i
        refine peI this ?_
        rintro σ H Q ⟨ρ, S, b, O, e, f⟩
        refine ⟨ρ, S, b, O, e, ?_⟩
        simp only [ev, dG, q] at f
        exact f
      · rename_i y p q
        rw [beq_iff_eq] at h3
        subst h3
        obtain ⟨v, u, hm, rv, hr⟩ := o.G y (.val p) (List.mem_of_getElem? q)
        have : PE X (.Name y pos) (tEv W g E (dC p)) := se_c (pe_glob (o.gl h1) hm rv (okN_of h2).1) hr
        refine peI this ?_
        rintro σ H Q ⟨ρ, S, b, O, e, f⟩
        refine ⟨ρ, S, b, O, e, ?_⟩
        simp only [ev, dG, q] at f
        exact f
      · cases h3
    · cases h
  | nil =>
    intro k n h E X o g
    simp only [src] at h
    split at h
    · exact sa_nil
    · cases h
  | cons a r iha ihr =>
    intro k n h E X o g
    simp only [src] at h
    split at h
    · simp only [Bool.and_eq_true] at h
      exact sa_cons ((iha k _ h.1 E X o g).2.1 h.2.1) (ihr k _ h.2.2.2.1 E X o g) (star_cons h.2.2.1)
    · cases h
  | tup r ih =>
    intro k n h E X o g
    simp only [src] at h
    split at h
    · exact good_e (se_tup (ih k _ h E X o g)) rfl
    · cases h
  | lst r ih =>
    intro k n h E X o g
    simp only [src] at h
    split at h
    · exact good_f (sf_lst (ih k _ h E X o g))
    · cases h
  | lstc r ih =>
    intro k n h E X o g
    simp only [src] at h
    split at h
    · exact good_e (se_lstc (ih k _ h E X o g)) rfl
    · cases h
  | bin j a b iha ihb =>
    intro k n h E X o g
    simp only [src] at h
    split at h
    · simp only [Bool.and_eq_true, beq_iff_eq] at h
      obtain ⟨r, h1, h2⟩ := op_ok o j _ h.1
      exact good_e (se_bin (Ra := RW W) (Rb := RW W) stb_w h1 h2 (iha k _ h.2.1 E X o g).1 (ihb k _ h.2.2 E X o g).1) rfl
    · cases h
  | cmp j a b iha ihb =>
    intro k n h E X o g
    simp only [src] at h
    split at h
    · simp only [Bool.and_eq_true, beq_iff_eq] at h
      obtain ⟨r, h1, h2, h3⟩ := cm_ok o j _ h.1
      exact good_e (se_cmp (Ra := RW W) (Rb := RW W) stb_w h1 h2 (iha k _ h.2.1 E X o g).1 (ihb k _ h.2.2.1 E X o g).1 (behind_of h.2.2.2)) rfl
    · simp only [Bool.and_eq_true, beq_iff_eq] at h
      obtain ⟨r, h1, h2, h3⟩ := cm_ok o j _ h.1
      exact good_t (st_cmp (Ra := RW W) (Rb := RW W) stb_w h1 h2 h3 (iha k _ h.2.1 E X o g).1 (ihb k _ h.2.2.1 E X o g).1 (behind_of h.2.2.2)) (fun _ _ _ z => nomatch z)
    · cases h
  | chain j j' a b d iha ihb ihd =>
    intro k n h E X o g
    simp only [src] at h
    split at h
    · rename_i x op op' y z pos
      simp only [Bool.and_eq_true, beq_iff_eq] at h
      obtain ⟨r, h1, h2, h3⟩ := cm_ok o j _ h.1.1
      obtain ⟨r', h1', h2', h3'⟩ := cm_ok o j' _ h.1.2
      have hm : lastMarks [op, op'] [y, z] = false := behind_of h.2.2.2.2.2
      exact good_e (se_chain h1 h1' h2 h2' h3 (iha k _ h.2.1 E X o g).1 (ihb k _ h.2.2.1 E X o g).1 (ihd k _ h.2.2.2.1 E X o g).1 hm) rfl
    · rename_i x op op' y z pos
      simp only [Bool.and_eq_true, beq_iff_eq] at h
      obtain ⟨r, h1, h2, h3⟩ := cm_ok o j _ h.1.1
      obtain ⟨r', h1', h2', h3'⟩ := cm_ok o j' _ h.1.2
      have hm : lastMarks [op, op'] [y, z] = false := behind_of h.2.2.2.2.2
      exact good_t (st_chain h1 h1' h2 h2' h3 h3' (iha k _ h.2.1 E X o g).1 (ihb k _ h.2.2.1 E X o g).1 (ihd k _ h.2.2.2.1 E X o g).1 hm) (fun _ _ _ z => nomatch z)
    · cases h
  | ite t a b iht iha ihb =>
    intro k n h E X o g
    simp only [src] at h
    split at h
    · simp only [Bool.and_eq_true] at h
      exact good_e (se_ite (iht k _ h.1 E X o g).1 ((iha k _ h.2.1 E X o g).2.1 h.2.2.2.1) ((ihb k _ h.2.2.1 E X o g).2.1 h.2.2.2.2)) rfl
    · cases h
  | and a b iha ihb =>
    intro k n h E X o g
    simp only [src] at h
    split at h
    · simp only [Bool.and_eq_true] at h
      exact good_e (se_and ((iha k _ h.1 E X o g).2.1 h.2.2.1) ((ihb k _ h.2.1 E X o g).2.1 h.2.2.2)) rfl
    · simp only [Bool.and_eq_true] at h
      exact good_w (st_and (iha k _ h.1 E X o g).1 ((ihb k _ h.2 E X o g).2 _ _ _ rfl))
    · cases h
  | or a b iha ihb =>
    intro k n h E X o g
    simp only [src] at h
    split at h
    · simp only [Bool.and_eq_true] at h
      exact good_e (se_or ((iha k _ h.1 E X o g).2.1 h.2.2.1) ((ihb k _ h.2.1 E X o g).2.1 h.2.2.2)) rfl
    · simp only [Bool.and_eq_true] at h
      exact good_w (st_or (iha k _ h.1 E X o g).1 ((ihb k _ h.2 E X o g).2 _ _ _ rfl))
    · cases h
  | one a ih =>
    intro k n h E X o g
    simp only [src] at h
    split at h
    · simp only [Bool.and_eq_true] at h
      exact good_e (se_one ((ih k _ h.1 E X o g).2.1 h.2)) rfl
    · rename_i op x pos
      have := (ih k _ h E X o g).1
      cases op with
      | And => exact good_w (pw_and1 this)
      | Or => exact good_w (pw_or1 this)
    · cases h
  | not a ih =>
    intro k n h E X o g
    simp only [src] at h
    split at h
    · simp only [Bool.and_eq_true] at h
      exact good_e (se_not ((ih k _ h.1 E X o g).2.1 h.2)) rfl
    · exact good_t (st_not (ih k _ h E X o g).1) (fun _ _ _ z => nomatch z)
    · cases h
  | neg a ih =>
    intro k n h E X o g
    simp only [src] at h
    split at h
    · exact good_e (se_neg (ih k _ h E X o g).1) rfl
    · cases h
  | call i r ih =>
    intro k n h E X o g
    simp only [src] at h
    split at h
    · rename_i x xp es pos
      simp only [Bool.and_eq_true, List.any_eq_true] at h
      obtain ⟨h1, h2, ⟨⟨y, gv⟩, hm, hy, hi⟩, h4, h5, h6⟩ := h
      rw [beq_iff_eq] at hy
      subst hy
      cases gv with
      | fn j =>
        rw [beq_iff_eq] at hi
        subst hi
        obtain ⟨hj, hmg⟩ := o.G y _ hm
        obtain ⟨fd, ps, F, hk, hb⟩ := o.fns j hj
        replace hb := hb.b
        refine good_e ?_ rfl
        cases es with
        | nil =>
          cases r with
          | nil => exact se_call0 o.gd F o.room (o.gl h1) hmg hk hb o.pass (okN_of h2).1
          | _ => simp at h6
        | cons e es =>
          unfold noStar at h5
          have hs := h5
          rw [List.all_cons, Bool.and_eq_true] at h5
          exact se_call o.gd F o.room (o.gl h1) hmg hk hb o.pass (ih k _ h4 E X o g) (okN_of h2).1 (star_cons h5.1) (plainS (es := es) h5.2)
      | _ => cases hi
    · cases h
  | callL i r ih =>
    intro k n h E X o g
    simp only [src] at h
    split at h
    · rename_i x xp e es pos
      simp only [Bool.and_eq_true] at h
      obtain ⟨h1, h2, h3⟩ := h
      obtain ⟨q1, q2, q3, q4⟩ := o.slot h1
      unfold noStar at h3
      rw [List.all_cons, Bool.and_eq_true] at h3
      exact good_e (se_callL o.gd (fun j hj => let ⟨fd, ps, F, hk, hb⟩ := o.fns j hj; ⟨fd, ps, F, hk, hb.b⟩) o.room q1 q2 o.pass (ih k _ h2 E X o g) q3 q4 (star_cons h3.1) (plainS (es := es) h3.2)) rfl
    · cases h
  | callK1 i a ih =>
    intro k n h E X o g
    simp only [src] at h
    split at h
    · rename_i x xp kn e kp pos
      simp only [Bool.and_eq_true] at h
      obtain ⟨h1, h2, h3, h4, h5, h6⟩ := h
      obtain ⟨⟨y, gv⟩, hm, hy⟩ := List.any_eq_true.mp h3
      simp only [Bool.and_eq_true, beq_iff_eq] at hy
      obtain ⟨rfl, hi⟩ := hy
      cases gv with
      | fn j =>
        obtain rfl : j = i := by simpa using hi
        obtain ⟨hj, hmg⟩ := o.G _ _ hm
        obtain ⟨fd, ps, F, hk, hb⟩ := o.fns j hj
        obtain ⟨a', rfl, hn⟩ := kw1_of (W := W) o.kw h4
        exact good_e (se_callK1 o.gd F o.room (o.gl h1) hmg hk hb hn o.pass (okN_of h2).1 ((ih k _ h5 E X o g).2.1 h6)) rfl
      | _ => cases hi
    · cases h
  | callK2 i a b iha ihb =>
    intro k n h E X o g
    simp only [src] at h
    split at h
    · rename_i x xp kn e kp kn2 e2 kp2 pos
      simp only [Bool.and_eq_true] at h
      obtain ⟨h1, h2, h3, h4, ⟨h5, h6⟩, h7, h8⟩ := h
      obtain ⟨⟨y, gv⟩, hm, hy⟩ := List.any_eq_true.mp h3
      simp only [Bool.and_eq_true, beq_iff_eq] at hy
      obtain ⟨rfl, hi⟩ := hy
      cases gv with
      | fn j =>
        obtain rfl : j = i := by simpa using hi
        obtain ⟨hj, hmg⟩ := o.G _ _ hm
        obtain ⟨fd, ps, F, hk, hb⟩ := o.fns j hj
        obtain ⟨a', b', rfl, rfl, hn⟩ := kw2_of (W := W) o.kw h4
        exact good_e (se_callK2 o.gd F o.room (o.gl h1) hmg hk hb hn o.pass (okN_of h2).1 ((iha k _ h5 E X o g).2.1 h6) ((ihb k _ h7 E X o g).2.1 h8)) rfl
      | _ => cases hi
    · cases h
  | u1 j a ih =>
    intro k n h E X o g
    simp only [src] at h
    split at h
    · simp only [Bool.and_eq_true, beq_iff_eq] at h
      obtain ⟨q1, q2⟩ := o.blt h.2.1
      exact good_e (u1_ok o (ih k _ h.2.2.1 E X o g).1 h.2.2.2 q1 q2 j h.1) rfl
    · cases h
  | u2 j a b iha ihb =>
    intro k n h E X o g
    simp only [src] at h
    split at h
    · simp only [Bool.and_eq_true, beq_iff_eq] at h
      obtain ⟨q1, q2⟩ := o.blt h.2.1
      exact good_e (u2_ok o (iha k _ h.2.2.1 E X o g).1 (ihb k _ h.2.2.2.1 E X o g).1 h.2.2.2.2.1 h.2.2.2.2.2 q1 q2 j h.1) rfl
    · cases h
  | isi j a ih =>
    intro k n h E X o g
    simp only [src] at h
    split at h
    · simp only [Bool.and_eq_true, beq_iff_eq] at h
      obtain ⟨rfl, h1, h2, h3, h4, h5⟩ := h
      obtain ⟨q1, q2⟩ := o.blt h1
      obtain ⟨q3, q4⟩ := o.blt h2
      split at h3
      · rename_i T hT
        rw [beq_iff_eq] at h3
        exact good_e (isi_ok o (ih k _ h4 E X o g).1 h5 q1 q2 q3 q4 h3 j hT) rfl
      · cases h3
    · cases h
  | ix a b iha ihb =>
    intro k n h E X o g
    simp only [src] at h
    split at h
    · simp only [Bool.and_eq_true] at h
      exact good_e (se_ix o.prog o.w o.K (iha k _ h.1 E X o g).1 (ihb k _ h.2.1 E X o g).1 (ix_of h.2.2)) rfl
    · cases h
  | cutL a b iha ihb =>
    intro k n h E X o g
    simp only [src] at h
    split at h
    · simp only [Bool.and_eq_true] at h
      exact good_e (se_cutL o.K (iha k _ h.1 E X o g).1 (ihb k _ h.2 E X o g).1) rfl
    · cases h
  | cutH a b iha ihb =>
    intro k n h E X o g
    simp only [src] at h
    split at h
    · simp only [Bool.and_eq_true] at h
      exact good_e (se_cutH o.K (iha k _ h.1 E X o g).1 (ihb k _ h.2 E X o g).1) rfl
    · cases h
  | cutB a b d iha ihb ihd =>
    intro k n h E X o g
    simp only [src] at h
    split at h
    · simp only [Bool.and_eq_true] at h
      exact good_e (se_cutB o.K (iha k _ h.1 E X o g).1 (ihb k _ h.2.1 E X o g).1 (ihd k _ h.2.2 E X o g).1) rfl
    · cases h
  | m1 j a b iha ihb =>
    intro k n h E X o g
    simp only [src] at h
    split at h
    · simp only [Bool.and_eq_true] at h
      obtain ⟨h1, h2, h3, h4, h5, h6⟩ := h
      rw [beq_iff_eq] at h1
      exact good_e (m1_ok o (iha k _ h2 E X o g).1 (ihb k _ h3 E X o g).1 h5 h4 h6 j h1) rfl
    · cases h
  | get a b iha ihb =>
    intro k n h E X o g
    simp only [src] at h
    split at h
    · simp only [Bool.and_eq_true] at h
      obtain ⟨h1, h2, h3, h4, h5, h6⟩ := h
      rw [beq_iff_eq] at h1
      subst h1
      exact good_e (sb_get o.prog o.w o.K (iha k _ h2 E X o g).1 (ihb k _ h3 E X o g).1 ⟨base_of h4, few_of h5, h6, tree_of h5⟩) rfl
    · cases h
  | get2 a b d iha ihb ihd =>
    intro k n h E X o g
    simp only [src] at h
    split at h
    · simp only [Bool.and_eq_true] at h
      obtain ⟨h1, h2, h3, h4, h5, h6, h7, h8, h9⟩ := h
      rw [beq_iff_eq] at h1
      subst h1
      exact good_e (sb_get2 o.prog o.w o.K (iha k _ h2 E X o g).1 (ihb k _ h3 E X o g).1 ((ihd k _ h4 E X o g).2.1 h5) ⟨base_of h6, few_of2 h7 h8, h9, tree_of2 h7 h8⟩) rfl
    · cases h
  | fmt a ih =>
    intro k n h E X o g
    simp only [src] at h
    split at h
    · simp only [Bool.and_eq_true] at h
      obtain ⟨h1, h2, h3⟩ := h
      rw [beq_iff_eq] at h1
      subst h1
      exact good_e (se_fmt ((ih k _ h2 E X o g).2.1 h3)) rfl
    · cases h
  | jnil =>
    intro k n h E X o g
    simp only [src] at h
    split at h
    · exact .nil
    · cases h
  | jcons a r iha ihr =>
    intro k n h E X o g
    simp only [src] at h
    split at h
    · simp only [Bool.and_eq_true] at h
      exact .cons ((iha k _ h.1 E X o g).2.1 h.2.1) (ihr k _ h.2.2 E X o g)
    · cases h
  | js r ih =>
    intro k n h E X o g
    simp only [src] at h
    split at h
    · exact good_e (se_js (ih k _ h E X o g)) rfl
    · cases h
  | lc t vs s tt e ihs iht ihe =>
    intro k n h E X o g
    simp only [src] at h
    split at h
    · rename_i x tg it ifs scope pos
      simp only [Bool.and_eq_true] at h
      obtain ⟨h1, h2, h3, h4, h5, h6, h7, h8⟩ := h
      obtain ⟨own, hb, rfl⟩ := blk_of o h1
      obtain ⟨hw, hi⟩ := ihs k _ h3 E X o g
      exact good_f (sf_lc o.calm o.nd hi hb (all_or h2) (fun s H C cl fp => tgt_ok (o.blk s H scope C cl fp) g t _ h5 _ hw) (fun s H C cl fp => iht _ _ h6 _ _ (o.blk s H scope C cl fp) g)
        (fun s H C cl fp => (ihe _ _ h7 _ _ (o.blk s H scope C cl fp) g).2.1 h8) (folded_of h4))
    · cases h
  | lc2 t0 t1 vs vs1 s0 tt0 s1 tt1 e ihs0 iht0 ihs1 iht1 ihe =>
    intro k n h E X o g
    simp only [src] at h
    split at h
    · rename_i x tg it ifs tg1 it1 ifs1 scope pos
      simp only [Bool.and_eq_true] at h
      obtain ⟨h1, h2, h3, h4, h5, h6, h7, h8, h9, h10, h11, h12, h13, h14⟩ := h
      obtain ⟨own, hb, rfl⟩ := blk_of o h1
      obtain ⟨hw, hi⟩ := ihs0 k _ h5 E X o g
      exact good_f (sf_lc2 o.calm o.nd hi hb (all_or h2) (all_or h3) (all_or h4) (fun s H C cl fp => tgt_ok (o.blk s H scope C cl fp) g t0 _ h7 _ hw) (fun s H C cl fp => iht0 _ _ h8 _ _ (o.blk s H scope C cl fp) g)
        (fun s H C cl fp => (ihs1 _ _ h9 _ _ (o.blk s H scope C cl fp) g).2) (fun s H C cl fp => tgt_ok (o.blk s H scope C cl fp) g t1 _ h11 _ (ihs1 _ _ h9 _ _ (o.blk s H scope C cl fp) g).1) (fun s H C cl fp => iht1 _ _ h12 _ _ (o.blk s H scope C cl fp) g)
        (fun s H C cl fp => (ihe _ _ h13 _ _ (o.blk s H scope C cl fp) g).2.1 h14) (folded_of h6) (fun env => folded_of h10))
    · cases h
  | dict a ih =>
    intro k n h E X o g
    simp only [src] at h
    split at h
    · simp only [Bool.and_eq_true, beq_iff_eq] at h
      obtain ⟨rfl, h1, h2, h3, h4⟩ := h
      obtain ⟨q1, q2⟩ := o.blt h1
      exact good_f (sf_dict o.K o.calm q1 q2 ((ih k _ h2 E X o g).2.1 h3) (star_cons h4) rfl)
    · cases h
  | dlit kvs =>
    intro k n h E X o g
    simp only [src] at h
    split at h
    · simp only [Bool.and_eq_true, decide_eq_true_eq] at h
      obtain ⟨h1, h2, h3, h4⟩ := h
      obtain ⟨zs, hz⟩ := dlit_of (W := W) (X := X) h1
      exact good_f (sf_dlit hz (fun z => by rw [z] at h2; cases h2) h3 h4)
    · cases h
  | dnew =>
    intro k n h E X o g
    simp only [src] at h
    split at h
    · exact good_f sf_dnew
    · cases h
  | tv a ih =>
    intro k n h E X o g
    simp only [src] at h
    split at h
    · rename_i x
      simp only [Bool.and_eq_true] at h
      refine good_t (st_truth o.K (ih k _ h.1 E X o g).1 (tt_of' h.2)) fun op vs p z => ?_
      subst z
      exact absurd h.2 (by simp [valTest])
    · cases h
  | t1 a ih =>
    intro k n h E X o g
    simp only [src] at h
    split at h
    · exact pts_one (ih k _ h E X o g).1
    · cases h
  | seq a ih =>
    intro k n h E X o g
    simp only [src] at h
    split at h
    · simp only [Bool.and_eq_true] at h
      exact ⟨(fun z => nomatch z), si_seq o.K ((ih k _ h.1 E X o g).2.1 h.2)⟩
    · cases h
  | rng j r ih =>
    intro k n h E X o g
    simp only [src] at h
    split at h
    · rename_i tg x xp es pos
      simp only [Bool.and_eq_true, beq_iff_eq] at h
      obtain ⟨rfl, h1, h2, h3, h4, h5⟩ := h
      obtain ⟨q1, q2⟩ := o.blt h1
      refine ⟨(fun z => nomatch z), ?_⟩
      unfold noStar at h3
      have ia := ih k _ h2 E X o g
      match es, h4 with
      | [], h4 => subst h4; simp at h5
      | [a], h4 =>
        subst h4
        simp only [List.all_cons, List.all_nil, Bool.and_true] at h3
        exact si_rng1 q1 q2 ia (by rw [star_cons h3]; rfl)
      | [a, b], h4 =>
        subst h4
        simp only [List.all_cons, List.all_nil, Bool.and_true, Bool.and_eq_true] at h3
        exact si_rng2 q1 q2 ia (by rw [star_cons h3.1, star_cons h3.2]; rfl) (by rw [star_cons h3.2]; rfl)
      | a :: b :: d :: r, h4 => subst h4; simp at h5
    · cases h
  | zip r ih =>
    intro k n h E X o g
    simp only [src] at h
    split at h
    · rename_i tg x xp es pos
      simp only [Bool.and_eq_true, beq_iff_eq] at h
      obtain ⟨rfl, h1, h2, h3, h4, h5⟩ := h
      obtain ⟨q1, q2⟩ := o.blt h1
      obtain ⟨ts, kk, tpos, rfl⟩ := tup_shape h5
      unfold noStar at h3
      have ia := ih k _ h2 E X o g
      refine ⟨fun _ => rfl, ?_⟩
      match es, h4 with
      | [a, b], h4 =>
        simp only [List.all_cons, List.all_nil, Bool.and_true, Bool.and_eq_true] at h3
        exact si_zip o.K q1 q2 ia (by rw [star_cons h3.1]) (plainS (es := [b]) (by simp [noStar, h3.2]))
    · cases h
  | walk m a ih =>
    intro k n h E X o g
    simp only [src] at h
    split at h
    · simp only [Bool.and_eq_true] at h
      obtain ⟨h1, h2, h3, h4, h5⟩ := h
      rw [beq_iff_eq] at h1
      subst h1
      exact ⟨(fun z => nomatch z), si_vals ((ih k _ h2 E X o g).2.1 h3) (base_of h4) h5⟩
    · simp only [Bool.and_eq_true] at h
      obtain ⟨h1, h2, h3, h4, h5, h6⟩ := h
      rw [beq_iff_eq] at h1
      subst h1
      obtain ⟨ts, kk, tpos, rfl⟩ := tup_shape h2
      exact ⟨fun _ => rfl, si_items ((ih k _ h3 E X o g).2.1 h4) (base_of h5) h6⟩
    · simp only [Bool.and_eq_true] at h
      exact ⟨(fun z => nomatch z), si_keys ((ih k _ h.1 E X o g).2.1 h.2)⟩
    · cases h
end
end Tg
end
section
set_option Elab.async false
set_option linter.all false
set_option autoImplicit false
set_option maxRecDepth 100000
/-! statements: the code, its meaning, its look -/
namespace Tg
open PySem PySem.Spec PyProof.Rows L2
inductive CS where
  | skip | seq (s r : CS) | frz (i : Nat)
  | expr (e : CE) | ret (e : CE) | retN | iff (t : CE) (a b : CS)
  | asg (t : Tgt) (e : CE) | own (i : Nat) (e : CE) | setLc (own : Bool) (i : Nat) (e : CE)
  | app (i : Nat) (r : CE) | put (i : Nat) (v k : CE) | aug (i o : Nat) (e : CE)
  | par2 (i j : Nat) (fl : List Bool) (r : CE) | par3 (i j l : Nat) (fl : List Bool) (r : CE)
  | whl (n : Nat) (t : CE) (b : CS) | for (t : Tgt) (s : CE) (b : CS)
  | brk | cnt | raise (c : Nat) (e : CE)
def augF : Nat → PV → PV → Option PV
  | 0, .int i, .int j => some (.int (i + j))
  | 0, .str s, .str t => isz (s.length + t.length) (.str (s ++ t))
  | 1, .int i, .int j => some (.int (i - j))
  | _, _, _ => none
def evO (P : Px) : CE → List Bool → DenO
  | .nil, _ => oNil
  | .cons a r, fl => oCons (fl.headD false) (ev P a) (evO P r fl.tail)
  | _, _ => fun _ _ => .bad
def evS (P : Px) : CS → DenS
  | .skip => dSkip
  | .seq s r => dSeqS (evS P s) (evS P r)
  | .frz i => dFrz i
  | .expr e => dExpr (ev P e)
  | .ret e => dRet (ev P e)
  | .retN => dRetN
  | .iff t a b => dIfS (ev P t) (evS P a) (evS P b)
  | .asg t e => dAsg t (ev P e)
  | .own i e => dOwn i (ev P e)
  | .setLc own i e => if own = true then dOwn i (ev P e) else dAsg (.name i) (ev P e)
  | .app i r => dApp i (ev P r)
  | .put i v k => dPut i (ev P v) (ev P k)
  | .aug i o e => dAug i (augF o) (ev P e)
  | .par2 i j fl r => dPar2 i j (evO P r fl)
  | .par3 i j l fl r => dPar3 i j l (evO P r fl)
  | .whl n t b => dWh (ev P t) (evS P b) n
  | .for t s b => dFor t (ev P s) (evS P b)
  | .brk => dBrk
  | .cnt => dCnt
  | .raise c e => dRaise c (ev P e)
def srcO (G : List (Str × GV)) : CE → List Bool → Kx → List Expr → Bool
  | .nil, _, _, [] => true
  | .cons a r, fl, k, e :: es => src G a k (.e e) && ((if fl.headD false = true then fresh a else strong a) && (notStar e && srcO G r fl.tail k es))
  | _, _, _, _ => false
inductive NS where
  | s (x : Stmt) | l (x : List Stmt)
def noComp : Expr → Bool
  | .ListComp .. => false
  | .SetComp .. => false
  | .DictComp .. => false
  | _ => true
/-! ### the order of the stores -/
def isTupE : Expr → Bool
  | .Tuple .. => true
  | _ => false
def isRow : Expr → Bool
  | .Tuple .. => true
  | .List .. => true
  | _ => false
/-- stored in the written order -/
def inOrder (t v : Expr) : Bool := match t, v with
  | .Tuple ts _ _, .Tuple vs _ _ => !(ts.length == 2 || ts.length == 3) || vs.length != ts.length
  | _, .Tuple .. => !isRow t
  | _, _ => true
theorem inOrder_of {env : PySem.Env} {t v : Expr} (h : inOrder t v = true) : swappedStores [t] v env = pure none := by
  unfold inOrder at h
  split at h
  · rename_i ts k p vs k2 p2
    unfold swappedStores
    have : (!(ts.length == 2 || ts.length == 3) || vs.length != ts.length || env.blockKind != .function) = true := by rw [h]; rfl
    simp only [this, if_true]
  · rename_i vs k p _
    unfold swappedStores
    cases t <;> first | rfl | (simp [isRow] at h)
  · rename_i h1 h2
    unfold swappedStores
    cases v with
    | Tuple vs k p => first | exact (h1 vs k p rfl).elim | exact (h2 vs k p rfl).elim
    | _ => cases t <;> rfl
/-- swapped: two names -/
def swap2 (sc : Scope) (x y : Str) (px py : Pos) (a c : Expr) : Bool :=
  decide (sc.names.lookup x = some .local) && (decide (sc.names.lookup y = some .local) && (py.line == px.line && (!(y == x) && (notStar a && (notStar c && (!(foldedForSure 8 a && foldedForSure 8 c) && !(constantsAlone 8 a && constantsAlone 8 c)))))))
theorem swap2_of {env : PySem.Env} {sc : Scope} {x y : Str} {px py pt pt2 : Pos} {kt k2 : Nat} {a c : Expr} (hk : env.blockKind = .function) (hs : env.scope = sc) (h : swap2 sc x y px py a c = true) :
    swappedStores [.Tuple [.Name x px, .Name y py] kt pt] (.Tuple [a, c] k2 pt2) env = pure (some [x, y]) := by
  subst hs
  unfold swap2 at h
  simp only [Bool.and_eq_true, decide_eq_true_eq, Bool.not_eq_true', beq_iff_eq] at h
  obtain ⟨h1, h2, h3, h4, h5, h6, h7, h8⟩ := h
  unfold swappedStores
  have e1 : (env.kindOf x == some .local) = true := by show (env.scope.names.lookup x == _) = true; rw [h1]; rfl
  have e2 : (env.kindOf y == some .local) = true := by show (env.scope.names.lookup y == _) = true; rw [h2]; rfl
  have hn : (y == x) = false := h4
  have hl2 : (py.line == px.line) = true := by simpa using h3
  have e1' : env.kindOf x = some .local := h1
  have e2' : env.kindOf y = some .local := h2
  have hpl : py.line = px.line := by simpa using h3
  have hxy : ¬ y = x := by simpa using h4
  have hf : ([a, c].all (foldedForSure 8)) = false := by simpa using h7
  have hc : ([a, c].all (constantsAlone 8)) = false := by simpa using h8
  dsimp only
  refine (if_neg (by rw [hk]; exact Bool.false_ne_true)).trans ?_
  refine (if_neg ?_).trans ?_
  · intro h
    rw [List.any_eq_true] at h
    obtain ⟨z, hz, h⟩ := h
    have hz' : notStar z = true := by
      simp only [List.mem_cons, List.not_mem_nil, or_false] at hz
      rcases hz with rfl | rfl
      · exact h5
      · exact h6
    cases z <;> first | (simp at h; done) | cases hz'
  have hnm : ∀ f : Expr → Option Str, f (.Name x px) = some x → f (.Name y py) = some y → List.filterMap f [.Name x px, .Name y py] = [x, y] := fun f q1 q2 => by
    simp [List.filterMap_cons, q1, q2]
  have hlen : ([x, y].length != [Expr.Name x px, Expr.Name y py].length || [x, y].eraseDups.length != [x, y].length) = false := by
    simp [List.eraseDups, List.eraseDupsBy, List.eraseDupsBy.loop, hn]
  have hp0 : (Expr.Name x px).pos.line = px.line := rfl
  rw [hnm _ (by simp [e1', hp0]) (by simp [e2', hpl, hp0])]
  refine (if_neg (by rw [hlen]; exact Bool.false_ne_true)).trans ?_
  refine (if_neg (by rw [hf]; exact Bool.false_ne_true)).trans ?_
  refine (if_neg (by rw [hc]; exact Bool.false_ne_true)).trans ?_
  rfl
/-- some name is a cell's: stored in the written order -/
def isCel (sc : Scope) (x : Str) : Bool := decide (sc.names.lookup x = some .cell)
theorem swapC2_of {env : PySem.Env} {x y : Str} {px py pt pt2 : Pos} {kt k2 : Nat} {a c : Expr} (h : (isCel env.scope x || isCel env.scope y) = true) :
    swappedStores [.Tuple [.Name x px, .Name y py] kt pt] (.Tuple [a, c] k2 pt2) env = pure none := by
  have e : ∀ z, isCel env.scope z = true → (env.kindOf z == some .local) = false := fun z hz => by
    have : env.kindOf z = some .cell := of_decide_eq_true hz
    rw [this]; rfl
  unfold swappedStores
  dsimp only
  split
  · rfl
  · split
    · rfl
    · have fl : ∀ f : Expr → Option Str, (f (.Name x px) = none ∨ f (.Name y py) = none) → ((List.filterMap f [.Name x px, .Name y py]).length != 2) = true := by
        intro f hf
        rcases hf with hf | hf
        · rw [List.filterMap_cons, hf]
          simp only [List.filterMap_cons, List.filterMap_nil]
          split <;> rfl
        · simp only [List.filterMap_cons, List.filterMap_nil, hf]
          split <;> rfl
      refine if_pos ?_
      rw [Bool.or_eq_true]
      left
      refine fl _ ?_
      rcases Bool.or_eq_true_iff.mp h with h | h
      · left; simp [e x h]
      · right; simp [e y h]
theorem swapC3_of {env : PySem.Env} {x y z : Str} {px py pz pt pt2 : Pos} {kt k2 : Nat} {a c d : Expr} (h : (isCel env.scope x || (isCel env.scope y || isCel env.scope z)) = true) :
    swappedStores [.Tuple [.Name x px, .Name y py, .Name z pz] kt pt] (.Tuple [a, c, d] k2 pt2) env = pure none := by
  have e : ∀ z, isCel env.scope z = true → (env.kindOf z == some .local) = false := fun z hz => by
    have : env.kindOf z = some .cell := of_decide_eq_true hz
    rw [this]; rfl
  unfold swappedStores
  dsimp only
  split
  · rfl
  · split
    · rfl
    · have fl : ∀ f : Expr → Option Str, (f (.Name x px) = none ∨ (f (.Name y py) = none ∨ f (.Name z pz) = none)) → ((List.filterMap f [.Name x px, .Name y py, .Name z pz]).length != 3) = true := by
        intro f hf
        rcases hf with hf | hf | hf
        · simp only [List.filterMap_cons, List.filterMap_nil, hf]
          split <;> split <;> rfl
        · simp only [List.filterMap_cons, List.filterMap_nil, hf]
          split <;> split <;> rfl
        · simp only [List.filterMap_cons, List.filterMap_nil, hf]
          split <;> split <;> rfl
      refine if_pos ?_
      rw [Bool.or_eq_true]
      left
      refine fl _ ?_
      rcases Bool.or_eq_true_iff.mp h with h | h
      · left; simp [e x h]
      · rcases Bool.or_eq_true_iff.mp h with h | h
        · right; left; simp [e y h]
        · right; right; simp [e z h]
/-- swapped: three names -/
def swap3 (sc : Scope) (x y z : Str) (px py pz : Pos) (a c d : Expr) : Bool :=
  decide (sc.names.lookup x = some .local) && (decide (sc.names.lookup y = some .local) && (decide (sc.names.lookup z = some .local) && (py.line == px.line && (pz.line == px.line && ([x, y, z].eraseDups.length == 3 && (notStar a && (notStar c && (notStar d &&
    (!([a, c, d].all (foldedForSure 8)) && !([a, c, d].all (constantsAlone 8)))))))))))
theorem swap3_of {env : PySem.Env} {sc : Scope} {x y z : Str} {px py pz pt pt2 : Pos} {kt k2 : Nat} {a c d : Expr} (hk : env.blockKind = .function) (hs : env.scope = sc) (h : swap3 sc x y z px py pz a c d = true) :
    swappedStores [.Tuple [.Name x px, .Name y py, .Name z pz] kt pt] (.Tuple [a, c, d] k2 pt2) env = pure (some [x, y, z]) := by
  subst hs
  unfold swap3 at h
  simp only [Bool.and_eq_true, decide_eq_true_eq, Bool.not_eq_true', beq_iff_eq] at h
  obtain ⟨h1, h2, h3, h4, h5, hn, s1, s2, s3, hf, hc⟩ := h
  unfold swappedStores
  have e1 : env.kindOf x = some .local := h1
  have e2 : env.kindOf y = some .local := h2
  have e3 : env.kindOf z = some .local := h3
  dsimp only
  refine (if_neg (by rw [hk]; exact Bool.false_ne_true)).trans ?_
  refine (if_neg ?_).trans ?_
  · intro h
    rw [List.any_eq_true] at h
    obtain ⟨u, hz, h⟩ := h
    have hz' : notStar u = true := by
      simp only [List.mem_cons, List.not_mem_nil, or_false] at hz
      rcases hz with rfl | rfl | rfl
      · exact s1
      · exact s2
      · exact s3
    cases u <;> first | (simp at h; done) | cases hz'
  have hnm : ∀ f : Expr → Option Str, f (.Name x px) = some x → f (.Name y py) = some y → f (.Name z pz) = some z → List.filterMap f [.Name x px, .Name y py, .Name z pz] = [x, y, z] := fun f q1 q2 q3 => by
    simp [List.filterMap_cons, q1, q2, q3]
  have hlen : ([x, y, z].length != [Expr.Name x px, Expr.Name y py, Expr.Name z pz].length || [x, y, z].eraseDups.length != [x, y, z].length) = false := by
    rw [hn]; rfl
  have hp0 : (Expr.Name x px).pos.line = px.line := rfl
  rw [hnm _ (by simp [e1, hp0]) (by simp [e2, h4, hp0]) (by simp [e3, h5, hp0])]
  refine (if_neg (by rw [hlen]; exact Bool.false_ne_true)).trans ?_
  refine (if_neg (by rw [hf]; exact Bool.false_ne_true)).trans ?_
  refine (if_neg (by rw [hc]; exact Bool.false_ne_true)).trans ?_
  rfl
theorem noSwapS {e t : Expr} {l : Nat} {env : PySem.Env} (h : noComp e = true) : swapsWithSole [t] e l env = pure false := by
  cases e <;> first | rfl | cases h
theorem noSwap {e : Expr} {t : Option Expr} {l : Nat} {env : PySem.Env} (h : noComp e = true) : swapsWith e t l env = pure false := by
  cases e <;> first | rfl | cases h
end Tg
end
section
set_option Elab.async false
set_option linter.all false
set_option autoImplicit false
set_option maxRecDepth 100000
/-! statements: the look is enough -/
namespace Tg
open PySem PySem.Spec PyProof.Rows L2
/-- a name that is stored -/
def setIs (k : Kx) (i : Nat) (x : Str) : Bool := tgtIs k (.name i) (.e (.Name x default))
def isFrz : CS → Option Nat
  | .frz i => some i
  | _ => none
def srcS (G : List (Str × GV)) (R : List (Str × Nat)) : CS → Kx → NS → Bool
  | .skip, _, n => match n with
    | .l [] => true
    | .s (.Pass _) => true
    | .s (.Expr (.Constant (.str _) _ _) _) => true
    | _ => false
  | .seq s r, k, n => match n with
    | .l l => (match isFrz s with
      | some _ => srcS G R r k (.l l)
      | none => (match l with
        | st :: rest => srcS G R s k (.s st) && srcS G R r k (.l rest)
        | [] => false))
    | _ => false
  | .frz _, _, _ => false
  | .expr e, k, n => match n with
    | .s (.Expr x _) => src G e k (.e x) && noComp x
    | _ => false
  | .ret e, k, n => match n with
    | .s (.Return (some x) _) => src G e k (.e x) && strong e
    | _ => false
  | .retN, _, n => match n with
    | .s (.Return none _) => true
    | _ => false
  | .iff t a b, k, n => match n with
    | .s (.If x l1 l2 _) => src G t k (.t x) && (srcS G R a k (.l l1) && srcS G R b k (.l l2))
    | _ => false
  | .asg t e, k, n => match n with
    | .s (.Assign [tg] x _) => src G e k (.e x) && (strong e && (tgtIs k t (.e tg) && (noComp x && (inOrder tg x && notStar tg))))
    | _ => false
  | .own i e, k, n => match n with
    | .s (.Assign [.Name x _] y _) => src G e k (.e y) && (fresh e && (setIs k i x && noComp y))
    | _ => false
  | .setLc _ i e, k, n => match n with
    | .s (.Assign [.Name y py] (.ListComp x gs scope pos) sp) => src G e k (.e (.ListComp x gs scope pos)) && (decide (k.N[i]? = some y) && (decide (k.sc.names.lookup y = some .local) && (py.line == pos.line && (!(scope.names.any fun (n, kd) => n == y && (kd == .local || kd == .cell))
        && (match e, gs with
          | .lc .., [_] => true
          | _, _ => false)))))
    | _ => false
  | .app i r, k, n => match n with
    | .s (.Expr (.Call (.Attribute (.Name x _) m ap) [e] [] cp) _) => (m == ("append" : Str)) && (slotIs k i x && (src G r k (.a [e]) && (notStar e && ap.endLine == cp.line)))
    | _ => false
  | .put i v kk, k, n => match n with
    | .s (.Assign [.Subscript (.Name x _) y _] e _) => slotIs k i x && (src G v k (.e e) && (strong v && (src G kk k (.e y) && (strong kk && (plainIx y && (noComp e))))))
    | _ => false
  | .aug i o e, k, n => match n with
    | .s (.AugAssign (.Name x _) op y _) => setIs k i x && (src G e k (.e y) && (strong e && ((o == 0 && op == .Add) || (o == 1 && op == .Sub))))
    | _ => false
  | .par2 i j fl r, k, n => match n with
    | .s (.Assign [.Tuple [.Name x px, .Name y py] _ _] (.Tuple [a, c] _ _) _) => decide (k.N[i]? = some x) && (decide (k.N[j]? = some y) && (decide (i ≠ j) && ((swap2 k.sc x y px py a c || ((isCel k.sc x || isCel k.sc y) && (setIs k i x && setIs k j y))) && srcO G r fl k [a, c])))
    | _ => false
  | .par3 i j l fl r, k, n => match n with
    | .s (.Assign [.Tuple [.Name x px, .Name y py, .Name z pz] _ _] (.Tuple [a, c, d] _ _) _) => decide (k.N[i]? = some x) && (decide (k.N[j]? = some y) && (decide (k.N[l]? = some z) && (decide (i ≠ j) && (decide (i ≠ l) && (decide (j ≠ l) && ((swap3 k.sc x y z px py pz a c d || ((isCel k.sc x || (isCel k.sc y || isCel k.sc z)) && (setIs k i x && (setIs k j y && setIs k l z)))) && srcO G r fl k [a, c, d]))))))
    | _ => false
  | .whl _ t b, k, n => match n with
    | .s (.While x l [] _) => src G t k (.t x) && srcS G R b k (.l l)
    | _ => false
  | .for t s b, k, n => match n with
    | .s (.For tg it l [] _) => src G s k (.i tg it) && (notSet it && (tgtIs k t (.e tg) && srcS G R b k (.l l)))
    | _ => false
  | .brk, _, n => match n with
    | .s (.Break _) => true
    | _ => false
  | .cnt, _, n => match n with
    | .s (.Continue _) => true
    | _ => false
  | .raise c e, k, n => match n with
    | .s (.Raise (some (.Call (.Name x _) [y] [] _)) none _) => glo k.sc x && (okName x && ((R.any fun p => p.1 == x && p.2 == c) && (src G e k (.e y) && (strong e && notStar y))))
    | _ => false
/-- .. and a def's body may raise -/
structure XOkS (W : Wd) (P : Px) (kn : Nat) (k : Kx) (E : XK) (X : Cx) : Prop extends XOk W P kn k E X where
  own : PassesOwn (model X.prog X.w) X.A X.env X.xe
  tk : Takes X fun cls d _ H => E cls d H
  kind : X.env.scope.kind = .function
  rz : ∀ x c, (x, c) ∈ P.R → ∀ (p pos : Pos) (e : Expr) (te : TE), Gl X x → (x == ("__debug__" : Str)) = false → notStar e = true → PE X e te → PMk X (.Call (.Name x p) [e] [] pos) fun σ H Q => te σ H fun v H1 => ∀ d, H1 d = none → Q (.ref (W.ca c)) (some d) (upd H1 d (.xd [("value", v)]))
section
variable {W : Wd} {P : Px} {kn : Nat} {k : Kx} {E : XK} {X : Cx} {g : Gh}
theorem XOkS.blockKind (o : XOkS W P kn k E X) : X.env.blockKind = .function := by
  unfold PySem.Env.blockKind
  rw [o.kind]
  rfl
theorem XOk.set (o : XOk W P kn k E X) {i : Nat} {x : Str} (h : setIs k i x = true) : X.N[i]? = some x ∧ L2.Loc X.env.scope x ∧ (X.fn x = true ∨ X.env.scope.names.lookup x = some .local) := by
  unfold setIs at h
  simp only [tgtIs, Bool.and_eq_true, Bool.or_eq_true, decide_eq_true_eq] at h
  obtain ⟨hi, hl, hf⟩ := h
  refine ⟨by rw [o.N]; exact hi, ?_, ?_⟩
  · rw [o.sc]
    unfold L2.Loc
    split at hl
    · rename_i q; exact .inl q
    · rename_i q; exact .inr q
    · cases hl
  · rw [o.sc]
    rcases hf with hf | hf
    · exact .inr hf
    · left
      have := o.fc x
      cases hk : k.fc with
      | none => rw [hk] at this; exact this
      | some s =>
        rw [hk] at this hf
        rw [this]
        exact hf
/-- raise C(e) -/
theorem ss_raise {x : Str} {c : Nat} {y : Expr} {d : Den} {p pos pos' : Pos} (o : XOkS W P kn k E X) (hr : (x, c) ∈ P.R) (hg : Gl X x) (hd : (x == ("__debug__" : Str)) = false) (hs : notStar y = true) (he : PE X y (tEv W g E d)) :
    PS X (.Raise (some (.Call (.Name x p) [y] [] pos)) none pos') (tS W g E (dRaise c d)) := by
  refine psI (L2.ps_raise o.calm o.tk (o.rz x c hr p pos y _ hg hd hs he)) ?_
  intro D σ H h
  refine (exS h).imp fun v S1 H1 b1 s1 ⟨ρ, O, e1, f⟩ x rx dd hdd => ?_
  have e2 := e1.adv (.new (o := .xd [("value", x)]) s1 hdd)
  exact f x dd _ _ e2.gh (e2.low (rx.grow (same_upd hdd))) upd_same
theorem aug_add : Op2 W (RW W) (RW W) (augF 0) (fun x y H Q => rI0 (fun i j => .int (i + j)) x y H Q ∨ (∃ i j, x = .str i ∧ y = .str j ∧ i.length + j.length ≤ sizeLine ∧ Q (.str (i ++ j)) H)) := by
  intro v u w x y H b Q hf rv ru hw kk
  unfold augF at hw
  split at hw
  · cases rw_int rv; cases rw_int ru; cases hw
    exact .inl ⟨_, _, rfl, rfl, kk _ H (fun _ _ e => e) (.int _)⟩
  · cases rw_str rv; cases rw_str ru
    obtain ⟨h1, rfl⟩ := isz_some hw
    refine .inr ⟨_, _, rfl, rfl, by simpa [lenL] using h1, ?_⟩
    rw [sL]
    exact kk _ H (fun _ _ e => e) (.str _)
  · exact absurd (by assumption : (0 : Nat) = 1) (by decide)
  · cases hw
theorem aug_sub : Op2 W (RW W) (RW W) (augF 1) (rI0 fun i j => .int (i - j)) := by
  intro v u w x y H b Q hf rv ru hw kk
  unfold augF at hw
  split at hw
  · exact absurd (by assumption : (1 : Nat) = 0) (by decide)
  · exact absurd (by assumption : (1 : Nat) = 0) (by decide)
  · cases rw_int rv; cases rw_int ru; cases hw
    exact ⟨_, _, rfl, rfl, kk _ H (fun _ _ e => e) (.int _)⟩
  · cases hw
theorem sndO (o : XOk W P kn k E X) : ∀ (c : CE) (fl : List Bool) (es : List Expr), srcO P.G c fl k es = true → PA X es (tO W g E (evO P c fl)) := by
  intro c
  induction c with
  | nil =>
    intro fl es h
    cases es with
    | nil => exact so_nil
    | cons _ _ => cases h
  | cons a r iha ihr =>
    intro fl es h
    cases es with
    | nil => cases h
    | cons e es =>
      simp only [srcO, Bool.and_eq_true] at h
      have ga := snd a k _ h.1 E X o g
      have gr := ihr fl.tail es h.2.2.2
      simp only [evO]
      cases hf : fl.headD false with
      | true =>
        rw [hf] at h
        exact so_own (ga.2.2 (by simpa using h.2.1)) gr (star_cons h.2.2.1)
      | false =>
        rw [hf] at h
        exact so_val (ga.2.1 (by simpa using h.2.1)) gr (star_cons h.2.2.1)
  | _ => intro fl es h; cases es <;> cases h
/-- what the code promises of a statement, a block -/
def GoodS (W : Wd) (P : Px) (X : Cx) (E : XK) (c : CS) : NS → Prop
  | .s x => ∀ g, PS X x (tS W g E (evS P c))
  | .l l => ∀ g, PSs X l (tS W g E (evS P c))
theorem sndS (o : XOkS W P kn k E X) : ∀ (c : CS) (n : NS), srcS P.G P.R c k n = true → GoodS W P X E c n := by
  intro c
  induction c with
  | skip =>
    intro n h
    simp only [srcS] at h
    split at h
    · exact fun g => ss_skip
    · exact fun g => ss_pass
    · exact fun g => ss_doc
    · cases h
  | seq s r ihs ihr =>
    intro n h
    simp only [srcS] at h
    split at h
    · rename_i l
      split at h
      · rename_i i q
        have hs : s = .frz i := by
          cases s <;> simp [isFrz] at q
          rw [q]
        subst hs
        exact fun g => ss_frz (ihr _ h g)
      · split at h
        · rename_i st rest
          rw [Bool.and_eq_true] at h
          exact fun g => ss_seq (ihs _ h.1 g) (ihr _ h.2 g)
        · cases h
    · cases h
  | frz i =>
    intro n h
    cases h
  | expr e =>
    intro n h
    simp only [srcS] at h
    split at h
    · rw [Bool.and_eq_true] at h
      exact fun g => ss_expr (snd e k _ h.1 E X o.toXOk g).1 (noSwap h.2)
    · cases h
  | ret e =>
    intro n h
    simp only [srcS] at h
    split at h
    · rw [Bool.and_eq_true] at h
      exact fun g => ss_ret ((snd e k _ h.1 E X o.toXOk g).2.1 h.2)
    · cases h
  | retN =>
    intro n h
    simp only [srcS] at h
    split at h
    · exact fun g => ss_retN
    · cases h
  | iff t a b iha ihb =>
    intro n h
    simp only [srcS] at h
    split at h
    · simp only [Bool.and_eq_true] at h
      exact fun g => ss_if (snd t k _ h.1 E X o.toXOk g).1 (iha _ h.2.1 g) (ihb _ h.2.2 g)
    · cases h
  | asg t e =>
    intro n h
    simp only [srcS] at h
    split at h
    · rename_i tg x pos
      simp only [Bool.and_eq_true] at h
      obtain ⟨h1, h2, h3, h4, h5, h6⟩ := h
      exact fun g => ss_asg ((snd e k _ h1 E X o.toXOk g).2.1 h2) (tgt_ok o.toXOk g t _ h3 false (fun z => nomatch z)) (noSwapS h4) (inOrder_of h5) (by rw [asg_cons h6]; rfl)
    · cases h
  | own i e =>
    intro n h
    simp only [srcS] at h
    split at h
    · rename_i x p y pos
      simp only [Bool.and_eq_true] at h
      obtain ⟨h1, h2, h3, h4⟩ := h
      obtain ⟨q1, q2, q3⟩ := o.toXOk.set h3
      exact fun g => ss_own o.nd q1 q2 ((snd e k _ h1 E X o.toXOk g).2.2 h2) (noSwap h4) q3
    · cases h
  | setLc own i e =>
    intro n h
    simp only [srcS] at h
    split at h
    · rename_i y py x gs scope pos sp
      simp only [Bool.and_eq_true, decide_eq_true_eq, Bool.not_eq_true'] at h
      obtain ⟨h1, h2, h3, h4, h5, h6⟩ := h
      split at h6
      · rename_i t vs s tt e' gen
        simp only [src] at h1
        split at h1
        · rename_i x' tg it ifs sc' pos' heq
          cases heq
          simp only [Bool.and_eq_true] at h1
          obtain ⟨a1, a2, a3, a4, a5, a6, a7, a8⟩ := h1
          obtain ⟨own', hb, hw⟩ := blk_of o.toXOk a1
          subst hw
          intro g
          obtain ⟨hp, hi⟩ := snd s k _ a3 E X o.toXOk g
          exact ss_setLc o.calm o.nd (by rw [o.N]; exact h2) (by rw [o.sc]; exact h3) (sw_true o.kind (by rw [o.sc]; exact h3) h4 h5) hi hb (all_or a2) (fun s H C cl fp => tgt_ok (o.toXOk.blk s H scope C cl fp) g t _ a5 _ hp)
            (fun s H C cl fp => snd tt _ _ a6 _ _ (o.toXOk.blk s H scope C cl fp) g) (fun s H C cl fp => (snd e' _ _ a7 _ _ (o.toXOk.blk s H scope C cl fp) g).2.1 a8) (folded_of a4)
        · cases h1
      · cases h6
    · cases h
  | app i r =>
    intro n h
    simp only [srcS] at h
    split at h
    · rename_i x p0 m ap e cp pos
      simp only [Bool.and_eq_true] at h
      obtain ⟨h1, h2, h3, h4, h5⟩ := h
      rw [beq_iff_eq] at h1
      subst h1
      obtain ⟨q1, q2, q3, q4⟩ := o.toXOk.slot h2
      exact fun g => ss_app o.K q1 q2 q3 q4 (snd r k _ h3 E X o.toXOk g) (base_of rfl) h5 (few_of h4) (star_cons h4) rfl (noSwap rfl)
    · cases h
  | put i v kk =>
    intro n h
    simp only [srcS] at h
    split at h
    · rename_i x p0 y tp e pos
      simp only [Bool.and_eq_true] at h
      obtain ⟨h1, h2, h3, h4, h5, h6, h7⟩ := h
      obtain ⟨q1, q2, q3, q4⟩ := o.toXOk.slot h1
      exact fun g => ss_put (by have := o.un; omega) q1 q2 q3 q4 ((snd v k _ h2 E X o.toXOk g).2.1 h3) ((snd kk k _ h4 E X o.toXOk g).2.1 h5) (by intro v; cases y <;> first | rfl | cases h6) (noSwapS h7) (inOrder_of (by unfold inOrder; cases e <;> rfl)) rfl
    · cases h
  | aug i j e =>
    intro n h
    simp only [srcS] at h
    split at h
    · rename_i x p0 op y pos
      simp only [Bool.and_eq_true, Bool.or_eq_true, beq_iff_eq] at h
      obtain ⟨h1, h2, h3, h4⟩ := h
      obtain ⟨q1, q2, q3⟩ := o.toXOk.set h1
      intro g
      have he := (snd e k _ h2 E X o.toXOk g).2.1 h3
      rcases h4 with ⟨rfl, rfl⟩ | ⟨rfl, rfl⟩
      · exact ss_aug o.nd q1 q2 he (r := fun x y H Q => rI0 (fun i j => .int (i + j)) x y H Q ∨ (∃ i j, x = .str i ∧ y = .str j ∧ i.length + j.length ≤ sizeLine ∧ Q (.str (i ++ j)) H)) (OpR.or iop_add iop_add_str) aug_add q3
      · exact ss_aug o.nd q1 q2 he (r := rI0 fun i j => .int (i - j)) iop_sub aug_sub q3
    · cases h
  | par2 i j fl r =>
    intro n h
    simp only [srcS] at h
    split at h
    · rename_i x px y py kt pt a c k2 pt2 pos
      simp only [Bool.and_eq_true, decide_eq_true_eq] at h
      obtain ⟨h1, h2, h3, h4, h5⟩ := h
      rw [Bool.or_eq_true] at h4
      rcases h4 with h4 | h4
      · have hx : k.sc.names.lookup x = some .local := by
          unfold swap2 at h4
          simp only [Bool.and_eq_true, decide_eq_true_eq] at h4
          exact h4.1
        have hy : k.sc.names.lookup y = some .local := by
          unfold swap2 at h4
          simp only [Bool.and_eq_true, decide_eq_true_eq] at h4
          exact h4.2.1
        exact fun g => ss_par2 (ps_par o.calm o.nd (by rw [o.N]; exact h1) (by rw [o.N]; exact h2) h3 (by rw [o.sc]; exact hx) (by rw [o.sc]; exact hy) (sndO o.toXOk r fl _ h5) (swap2_of o.blockKind o.sc h4) (noSwapS rfl))
      · simp only [Bool.and_eq_true] at h4
        obtain ⟨c1, c2, c3⟩ := h4
        obtain ⟨q1, q2, q3⟩ := o.toXOk.set c2
        obtain ⟨p1, p2, p3⟩ := o.toXOk.set c3
        exact fun g => ss_par2 (ps_parC o.calm o.nd q1 p1 q2 p2 q3 p3 (sndO o.toXOk r fl _ h5) (swapC2_of (by rw [o.sc]; exact c1)) (noSwapS rfl))
    · cases h
  | par3 i j l fl r =>
    intro n h
    simp only [srcS] at h
    split at h
    · rename_i x px y py z pz kt pt a c d k2 pt2 pos
      simp only [Bool.and_eq_true, decide_eq_true_eq] at h
      obtain ⟨h1, h2, h3, h4, h5, h6, h7, h8⟩ := h
      rw [Bool.or_eq_true] at h7
      rcases h7 with h7 | h7
      · have hh := h7
        unfold swap3 at hh
        simp only [Bool.and_eq_true, decide_eq_true_eq] at hh
        exact fun g => ss_par3 (ps_par3 o.calm o.nd (by rw [o.N]; exact h1) (by rw [o.N]; exact h2) (by rw [o.N]; exact h3) h4 h5 h6 (by rw [o.sc]; exact hh.1) (by rw [o.sc]; exact hh.2.1) (by rw [o.sc]; exact hh.2.2.1) (sndO o.toXOk r fl _ h8) (swap3_of o.blockKind o.sc h7) (noSwapS rfl))
      · simp only [Bool.and_eq_true] at h7
        obtain ⟨c1, c2, c3, c4⟩ := h7
        obtain ⟨q1, q2, q3⟩ := o.toXOk.set c2
        obtain ⟨p1, p2, p3⟩ := o.toXOk.set c3
        obtain ⟨r1, r2, r3⟩ := o.toXOk.set c4
        exact fun g => ss_par3 (ps_par3C o.calm o.nd q1 p1 r1 q2 p2 r2 q3 p3 r3 (sndO o.toXOk r fl _ h8) (swapC3_of (by rw [o.sc]; exact c1)) (noSwapS rfl))
    · cases h
  | whl n t b ihb =>
    intro m h
    simp only [srcS] at h
    split at h
    · rw [Bool.and_eq_true] at h
      exact fun g => ss_while n o.own (snd t k _ h.1 E X o.toXOk g).1 (ihb _ h.2 g)
    · cases h
  | «for» t s b ihb =>
    intro n h
    simp only [srcS] at h
    split at h
    · simp only [Bool.and_eq_true] at h
      obtain ⟨h1, h2, h3, h4⟩ := h
      intro g
      obtain ⟨hp, hi⟩ := snd s k _ h1 E X o.toXOk g
      exact ss_for o.own o.calm hi (fun g => tgt_ok o.toXOk g t _ h3 _ hp) (ihb _ h4) (folded_of h2)
    · cases h
  | brk =>
    intro n h
    simp only [srcS] at h
    split at h
    · exact fun g => ss_brk
    · cases h
  | cnt =>
    intro n h
    simp only [srcS] at h
    split at h
    · exact fun g => ss_cnt
    · cases h
  | raise c e =>
    intro n h
    simp only [srcS] at h
    split at h
    · simp only [Bool.and_eq_true, List.any_eq_true] at h
      obtain ⟨h1, h2, ⟨⟨y, c'⟩, hm, hy, hc⟩, h4, h5, h6⟩ := h
      rw [beq_iff_eq] at hy hc
      subst hy hc
      exact fun g => ss_raise o hm (o.toXOk.gl h1) (okN_of h2).1 h6 ((snd e k _ h4 E X o.toXOk g).2.1 h5)
    · cases h
end
end Tg
end
section
set_option Elab.async false
set_option linter.all false
set_option autoImplicit false
set_option maxRecDepth 100000
/-! defs -/
namespace Tg
open PySem PySem.Spec PyProof.Rows L2
/-- a def's code: its parameters, its slots, its body -/
structure FD where
  np : Nat
  nl : Nat
  body : CS
/-- a def by its code, or by a meaning that is proved apart -/
inductive FE where
  | code (fd : FD) | ext (f : CallT → List PV → Store → Rs PV)
def startE (ps : List PV) (nl : Nat) : Env := ps.map .val ++ List.replicate (nl - ps.length) .no
def outF : Rs Fl → Rs PV
  | .ok (.rt v) S => .ok v S
  | .ok (.nx _) S => .ok .non S
  | .ok _ _ => .bad
  | .exc c v S => .exc c v S
  | .bad => .bad
section
variable (G : List (Str × GV)) (R : List (Str × Nat)) (F : List FE)
def callN : Nat → CallT
  | 0 => fun _ _ _ => .bad
  | n + 1 => fun i ps S => match F[i]? with
    | none => .bad
    | some (.code fd) => if ps.length = fd.np then outF (evS ⟨callN n, F.length, G, R⟩ fd.body (startE ps fd.nl) S) else .bad
    | some (.ext f) => f (callN n) ps S
end
section
variable {W : Wd} {mg : Str → Option Value} {base : Heap}
/-- the entry of a def's run -/
def gh0 (b : Bn) (H : Hp) : Gh := ⟨H, b.m, b.B, fun _ => False⟩
theorem start_ok {b : Bn} {H : Hp} {S : Store} {ps : List PV} {vs : List V} {N : List Str} (r : Reps W H b ps vs) (st : StoreOk W H b S) (tr : ∀ a, b.no a → ∃ o, H a = some o) (hn : ps.length ≤ N.length) :
    EnvOk W (gh0 b H) (startE ps N.length) S b (fun _ => False) (L2.start N vs) H where
  len := by
    unfold startE L2.start
    rw [List.length_append, List.length_append, List.length_map, List.length_map, List.length_replicate, List.length_replicate, r.length]
  slot := fun i => by
    unfold startE L2.start
    rw [look_app]
    by_cases h : i < (ps.map Sl.val).length
    · rw [if_pos h]
      have h' : i < ps.length := by simpa using h
      obtain ⟨x, hx, rx⟩ := r.get (List.getElem?_eq_getElem h')
      have hl : look (ps.map Sl.val) i = .val ps[i] := by
        unfold look
        rw [List.getElem?_map, List.getElem?_eq_getElem h']; rfl
      rw [hl]
      refine ⟨x, ?_, rx⟩
      rw [List.getElem?_append_left (by rw [List.length_map, ← r.length]; exact h'), List.getElem?_map, hx]
      rfl
    · rw [if_neg h]
      have : look (List.replicate (N.length - ps.length) Sl.no) (i - (ps.map Sl.val).length) = .no := by
        unfold look
        rw [List.getElem?_replicate]
        split <;> rfl
      rw [this]
      trivial
  inj := fun i j p q a h => by
    exfalso
    unfold startE at h
    rw [look_app] at h
    split at h
    · unfold look at h
      rw [List.getElem?_map] at h
      cases e : ps[i]? with
      | none => rw [e] at h; cases h
      | some _ => rw [e] at h; cases h
    · unfold look at h
      rw [List.getElem?_replicate] at h
      split at h <;> cases h
  oB := fun a h => h.elim
  Bo := fun a => ⟨.inl, fun h => h.elim id False.elim⟩
  B0t := fun a h => tr a (.inl h)
  BM := fun a h => h.elim
  tr := tr
  st := st
  m0 := ⟨[], by simp [gh0]⟩
  mn := fun a h n => absurd h n
  mt := fun a h => h.elim
  keep := fun a o q _ _ => ⟨o, q, .refl, fun _ => rfl⟩
/-- what the run leaves, from its entry -/
theorem GhOk.adv {b b' : Bn} {H H' : Hp} {S' : Store} (h : GhOk W (gh0 b H) S' b' H') : Adv W b b' H H' S' :=
  ⟨⟨h.B, h.m0, fun a ha hn => h.mn a ha hn, fun a o q n => h.keep a o q n id⟩, h.st⟩
/-- the promises of all defs -/
def FnsOk (W : Wd) (mg : Str → Option Value) (base : Heap) (nf k : Nat) (C : CallT) : Prop :=
  ∀ j, j < nf → ∃ fd ps, FnG W.P W.w W.K mg base (CX W.P W.w) k (W.fa j) fd ps (spOf W C j) ∧ PySem.W.keepIn W.K (.ref (W.fa j)) = true ∧ BindsX W.K fd ps (W.pn j)
/-- what is known of the def i: its text, how it is bound; of its body -/
structure FnFact (W : Wd) (mg : Str → Option Value) (base : Heap) (G : List (Str × GV)) (R : List (Str × Nat)) (nf : Nat) (i : Nat) (fe : FE) : Prop where
  ex : ∃ (oc : Value) (od : Option Addr) (name qual : Str) (params : Arguments) (body : List Stmt) (scope : Scope) (dV kV doc pm cdv ct : Value) (an : Option Addr) (osl : Array (Option Value)) (N ps : List Str),
    W.K.lookup (W.fa i) = some ⟨oc, od, .func (PySem.W.fnOf name qual params body scope dV kV doc pm an cdv ct), osl⟩ ∧ PySem.W.codeIn W.K cdv qual = true ∧ FnScope N ps scope ∧
    PySem.W.keepIn W.K (.ref (W.fa i)) = true ∧ BindsX W.K (PySem.W.fnOf name qual params body scope dV kV doc pm an cdv ct) ps (W.pn i) ∧
    match fe with
    | .code fd => N.length = fd.nl ∧ ps.length = fd.np ∧ fd.np ≤ fd.nl ∧ srcS G R fd.body ⟨N, scope, none⟩ (.l body) = true
    | .ext f => (∀ C qs S, f C qs S ≠ .bad → qs.length = ps.length) ∧
      ∀ (k : Nat) (C : CallT) (E : XK) (A : Around) (outer : List PySem.Env) (s : Shared) (H : Hp), FnsOk W mg base nf k C → A.guards = some [] → 3 ≤ k → Room k (A.deeper (envOfC qual scope s.heap.objs.size (W.fa i) cdv)) →
        ∀ qs S b vs Q, Reps W H b qs vs → StoreOk W H b S → (∀ a, b.no a → ∃ o, H a = some o) → fin W E (fun v _ H' b' => ∀ x, Rep W H' b' v x → Q x H') b H (f C qs S) →
          ∃ t, PSs (cxOf (CX W.P W.w) W.P W.w W.K mg base N qual scope (W.fa i) cdv A outer s H E) body t ∧ t { nx := fun _ H' => Q .non H', rt := Q } (L2.start N vs) H
/-- what the world gives: the top's names, how its exceptions are made -/
structure Tops (W : Wd) (mg : Str → Option Value) (base : Heap) (G : List (Str × GV)) (R : List (Str × Nat)) (nf : Nat) : Prop where
  G : ∀ x gv, (x, gv) ∈ G → match gv with
    | .fn i => i < nf ∧ mg x = some (.ref (W.fa i))
    | .val p => ∃ v u, mg x = some u ∧ RelV v u ∧ ∀ H b, Rep W H b p v
    | .none => mg x = none
    | .kw i ns => W.pn i = ns
  rz : ∀ X : Cx, X.prog = W.P → X.w = W.w → X.K = W.K → X.mg = mg → X.base = base → X.calm = true → Room 3 X.A → Takes X (fun _ _ _ _ => False) ∨ True → ∀ x c, (x, c) ∈ R → ∀ (p pos : Pos) (e : Expr) (te : TE), Gl X x → (x == ("__debug__" : Str)) = false → notStar e = true → PE X e te →
    PMk X (.Call (.Name x p) [e] [] pos) fun σ H Q => te σ H fun v H1 => ∀ d, H1 d = none → Q (.ref (W.ca c)) (some d) (upd H1 d (.xd [("value", v)]))
theorem fns_ok {G : List (Str × GV)} {R : List (Str × Nat)} {F : List FE} (T : Tops W mg base G R F.length) (hF : ∀ i fe, F[i]? = some fe → FnFact W mg base G R F.length i fe) :
    ∀ n, FnsOk W mg base F.length (n + 3) (callN G R F n) := by
  intro n
  induction n with
  | zero =>
    intro i hi
    obtain ⟨oc, od, name, qual, params, body, scope, dV, kV, doc, pm, cdv, ct, an, osl, N, ps, lk, hcd, hS, hk, hb, _⟩ := (hF i _ (List.getElem?_eq_getElem hi)).ex
    refine ⟨_, ps, ⟨fun vs H Q E h => ?_, fun A outer s H args us vs Q E _ _ _ _ _ h => ?_⟩, hk, hb⟩
    · obtain ⟨_, _, _, _, _, _, h⟩ := h
      exact h.elim
    · obtain ⟨_, _, _, _, _, _, h⟩ := h
      exact h.elim
  | succ n ih =>
    intro i hi
    have hfi : F[i]? = some F[i] := List.getElem?_eq_getElem hi
    generalize F[i] = fe at hfi
    obtain ⟨oc, od, name, qual, params, body, scope, dV, kV, doc, pm, cdv, ct, an, osl, N, ps, lk, hcd, hS, hk, hb, hfe⟩ := (hF i _ hfi).ex
    cases fe with
    | ext f =>
      obtain ⟨hlen, run⟩ := hfe
      refine ⟨_, ps, fnG_of (k := n + 3) lk hcd hS (fun vs H Q E h => ?_) (fun A outer s H vs Q E gd hr h => ?_), hk, hb⟩
      · obtain ⟨qs, S, b, r, _, _, h⟩ := h
        simp only [callN, hfi] at h
        rw [← r.length]
        refine hlen (callN G R F n) qs S fun z => ?_
        rw [z] at h
        exact h.elim
      · obtain ⟨qs, S, b, r, st, tr, h⟩ := h
        simp only [callN, hfi] at h
        exact run (n + 3) (callN G R F n) E A outer s H ih gd (by omega) hr qs S b vs Q r st tr h
    | code fd =>
      obtain ⟨hN, hps, hle, hsrc⟩ := hfe
      refine ⟨_, ps, fnG_of (k := n + 3) lk hcd hS (fun vs H Q E h => ?_) (fun A outer s H vs Q E gd hr h => ?_), hk, hb⟩
      · obtain ⟨qs, S, b, r, _, _, h⟩ := h
        simp only [callN, hfi] at h
        split at h
        · rename_i hl
          rw [← r.length, hl, hps]
        · exact h.elim
      · obtain ⟨qs, S, b, r, st, tr, h⟩ := h
        simp only [callN, hfi] at h
        split at h
        case isFalse => exact h.elim
        rename_i hl
        refine ⟨tS W (gh0 b H) E (evS ⟨callN G R F n, F.length, G, R⟩ fd.body), ?_, ?_⟩
        · have tk : Takes (cxOf (CX W.P W.w) W.P W.w W.K mg base N qual scope (W.fa i) cdv A outer s H E) (fun cls d _ H => E cls d H) := takes_of rfl rfl rfl rfl
          have o : XOkS W ⟨callN G R F n, F.length, G, R⟩ (n + 3) ⟨N, scope, none⟩ E (cxOf (CX W.P W.w) W.P W.w W.K mg base N qual scope (W.fa i) cdv A outer s H E) :=
            { prog := rfl, w := rfl, K := rfl, N := rfl, nd := hS.nd, sc := rfl, fc := fun _ => rfl, calm := rfl
              un := by have := hr.un; show (A.deeper _).units + 70 < cLine; omega
              room := hr
              gd := gd
              fns := ih
              G := T.G
              pass := passes_call tk fun _ _ _ _ q => q
              own := passes_of rfl
              tk := tk
              kind := hS.kind
              rz := fun x c hm p pos e te q1 q2 q3 q4 => T.rz _ rfl rfl rfl rfl rfl rfl (hr.mono (by omega)) (.inr trivial) x c hm p pos e te q1 q2 q3 q4 }
          exact sndS o fd.body (.l body) hsrc _
        · refine ⟨startE qs N.length, S, b, fun _ => False, start_ok r st tr (by rw [hl, hN]; exact hle), ?_⟩
          rw [hN]
          generalize evS ⟨callN G R F n, F.length, G, R⟩ fd.body (startE qs fd.nl) S = res at h
          cases res with
          | ok f S' =>
            cases f with
            | nx ρ' => exact fun σ' H' b' O' e' => h H' _ e'.gh.adv .non .non
            | rt v => exact fun x H' b' q r => h H' b' q.adv x r
            | bk ρ' => exact h.elim
            | ct ρ' => exact h.elim
          | exc c v S' => exact fun x d H' b' q r hd => h x d H' b' q.adv r hd
          | bad => exact h.elim
end
end Tg
end
section
set_option Elab.async false
set_option linter.all false
set_option autoImplicit false
set_option maxRecDepth 100000
set_option maxHeartbeats 4000000
/-! the program's own exception: its __init__ says super().__init__(text), then self.value = value -/
namespace Tg
namespace TE
open PySem PySem.W PySem.Calls PyProof.Rows PySem.HandSPX
def iA (p1 p2 : Pos) : Arguments := { posonlyargs := [], args := [{ arg := "self", annotation := none, pos := p1 }, { arg := "value", annotation := none, pos := p2 }], vararg := none, kwonlyargs := [], kw_defaults := [], kwarg := none, defaults := [] }
def iB (t : Str) (k : Nat) (a1 a2 a3 a4 a5 a6 a7 a8 a9 b1 : Pos) : List Stmt := [.Expr (.Call (.Attribute (.Call (.Name "super" a1) [] [] a2) "__init__" a3) [.Constant (.str t) k a4] [] a5) a6, .Assign [.Attribute (.Name "self" a7) "value" a8] (.Name "value" a9) b1]
abbrev iF (p1 p2 : Pos) (qual : Str) (b : List Stmt) (cel : Addr) (kV doc pm cdv ct : Value) (an : Option Addr) : FuncData :=
  { name := "__init__", qualname := qual, params := iA p1 p2, body := .stmts b, scope := iS, globals := mainGlobals, closure := [("__class__", cel)], defaults := .none, kwdefaults := kV, doc, pyModule := pm, annotations := an, code := cdv, closureTuple := ct, builtins := builtinsNs }
/-- what the written part says of the first class's __init__: at fI; C0 the class -/
structure TeTxt (P : Program) (K : Frag) (C0 fI : Addr) : Prop where
  fn : ∃ (oc : Value) (od : Option Addr) (qual : Str) (kV doc pm : Value) (an : Option Addr) (cc : Addr) (ct : Value) (osl : Array (Option Value)) (p1 p2 a1 a2 a3 a4 a5 a6 a7 a8 a9 b1 : Pos) (t : Str) (k : Nat) (cel : Addr),
    K.lookup fI = some ⟨oc, od, .func (iF p1 p2 qual (iB t k a1 a2 a3 a4 a5 a6 a7 a8 a9 b1) cel kV doc pm (.ref cc) ct an), osl⟩ ∧ codeIn K (.ref cc) qual = true ∧
    (∃ ol od2 sl, K.lookup cel = some ⟨ol, od2, .cell (some (.ref C0)), sl⟩) ∧
    (a3.endLine == a5.line) = true ∧ (∃ o2 d2 vs s2 file tf, K.lookup cc = some ⟨o2, d2, .fields vs, s2⟩ ∧ vs[2]? = some (.str file tf) ∧ ((P.main.file : Str) == file) = true)
  top : (P.main.scope.names.lookup ("super" : Str)).isSome = false
  cls : ∃ cd, clsIn K C0 = some cd
  opq : nsIn K cStatics "thirdparty.any" = some none
/-- .. and of a class of them, at C -/
structure ClTxt (K : Frag) (C0 fI C : Addr) : Prop where
  cls : ∃ nm q N bs bm sn sub ab col dd k0 k1 k2 k3 k5, K.lookup C = some (excClassObj nm q C N bs bm true sn sub ab col dd k0 k1 k2 k3 k5 "ValueError.__new__") ∧ refsVE bm = true
  sa : findIn K (.ref C) "__setattr__" = some (some (.builtin "object.__setattr__"))
  noV : findIn K (.ref C) "value" = some none
  iC : findIn K (.ref C) "__init__" = some (some (.ref fI))
  tI : typeIn K (.ref fI) = some (.type "function")
  kC : keepIn K (.ref C) = true
  exC : subIn K (.ref C) (.type "BaseException") = some true
  veC : subIn K (.ref C) (.type "ValueError") = some true
  tyC : typeIn K (.ref C) = some (.type "type")
  sub0 : mroIn K C (.ref C0) = some true
  sup : ks_superIn K C C0 "__init__" = some (some (.builtin "ValueError.__init__"))
theorem call_bwV {prog : Program} {w : World} {A : Around} {E : Value → Shared → Prop} {h : Heap} {g : Array GenState} {d : Drawn} {t : Nat} {os : OsState}
    {nm q : Str} {C N : Addr} {bs bm : List Value} {hdct : Bool} {sn : List Str} {sub : List Value} {ab : Bool} {col : Option Bool} {dd : Option Addr} {k0 k1 k2 k3 k5 : Option Value} {u e t0 : Addr} {rest : List Value} {Q : Value → Shared → Prop}
    (hC : h.get? C = some (excClassObj nm q C N bs bm hdct sn sub ab col dd k0 k1 k2 k3 k5 "ValueError.__new__")) (he : h.get? e = some (excO C t0)) (hu : h.get? u = some (kxs_mw "ValueError.__init__" e)) (hrest : rest.length ≤ sizeLine)
    (hq : ∀ h' t1, (∀ b o, b ≠ e → h.get? b = some o → h'.get? b = some o) → h'.get? e = some (excO C t1) → Q .none ⟨h', g, d, t, os⟩) :
    wpAny (model prog w) A (call (.ref u) rest) Q E ⟨h, g, d, t, os⟩ := by
  refine wpAny_call (codeAny_of_tree ?_)
  show wpAny _ A.in1 (callAny (.ref u) ⟨rest, []⟩) _ _ _
  simp only [callAny]
  refine wpAny_bind (wpAny_load hu ?_)
  simp only [kxs_mw, show (Value.type "method-wrapper" == Value.type "method" || Value.type "method-wrapper" == Value.type "builtin_function_or_method" || Value.type "method-wrapper" == Value.type "method-wrapper") = true by decide, if_true]
  refine KFB.if_so (by decide) ?_
  refine wpAny_bind (PySem.ESX.check_bound F.excBase_ValueError hC he rfl ?_)
  refine wpAny_bind (wpAny_pure (wpAny_pure ?_))
  refine ⟨Code.quiet_builtin _ (by decide +kernel), codeAny_builtin F.excBase_ValueError.initEntry ?_⟩
  rw [Around.under_plainId F.excBase_ValueError.init.plain _]
  wp_walk
  refine hq _ h.objs.size (fun b o hb ho => ?_) ?_
  · rw [Heap.get?_update_other _ _ (Ne.symm hb)]
    exact Heap.get?_push_of_some _ ho
  · rw [Heap.get?_update_self _ (Heap.get?_push_of_some _ he) rfl]
    rfl
/-- what __init__ leaves of a fresh exception at x -/
structure InitEnd (h h' : Heap) (x C dx t1 : Addr) (v : Value) : Prop where
  keep : ∀ b o, b ≠ x → h.get? b = some o → h'.get? b = some o
  obj : h'.get? x = some { cls := .ref C, dict := some dx, data := .fields #[.ref t1, .none, .none, .none, .bool false, .none] }
  dbig : h.objs.size ≤ dx
  dne : dx ≠ x
  ns : h'.Ns1 dx (fun y => if y = "value" then some v else none)
structure OwnMade (h h' : Heap) (e C d : Addr) (v : Value) : Prop where
  keep : ∀ b o, h.get? b = some o → h'.get? b = some o
  new : h.objs.size ≤ e
  obj : ∃ oe vs, h'.get? e = some oe ∧ oe.cls = .ref C ∧ oe.dict = some d ∧ oe.data = .fields vs ∧ vs[1]? = some .none
  dbig : h.objs.size ≤ d
  dne : d ≠ e
  ns : h'.Ns1 d (fun y => if y = "value" then some v else none)
theorem ld_local {M : Model} {A : Around} {E : Value → Shared → Prop} {s : Shared} {env : PySem.Env} {m : Str → Option Value} {x : Str} {pos : Pos} {v : Value} {Q : Value → Shared → Prop} (hn : s.heap.Ns env.locals m) (hv : m x = some v) (hk : env.scope.kind = .function) (hl : env.kindOf x = some .local) (h : Q v s)
    (hd : (x == ("__debug__" : Str)) = false := by decide) : wpAny M A (eval (.Name x pos) env) Q E s := wpAny_Name (wpAny_loadName_local hk hl hn hv h) hd
theorem one_size (v : Value) : [v].length ≤ sizeLine := by
  rw [sizeLine_eq]
  exact (by decide : 1 ≤ 16777216)
section
variable {prog : Program} {w : World} {A : Around} {E : Value → Shared → Prop} {R : Result → Shared → Prop} {s : Shared} {K : Frag} {C C0 fI : Addr} {mg mb : Str → Option Value}
theorem te_init (T : TeTxt prog K C0 fI) (TC : ClTxt K C0 fI C) {x t0 : Addr} {v : Value} (X : K.In s.heap) (hlim : s.heap.NoLimit) (hx : s.heap.get? x = some (excO C t0)) (hnx : K.lookup x = none) (hroom : A.depth < recursionLimit)
    (hmg : s.heap.Ns mainGlobals mg) (hs : mg "super" = none) (hmb : s.heap.Ns builtinsNs mb) (hbs : mb "super" = some (.type "super"))
    (hq : ∀ h' tk dx t1, InitEnd s.heap h' x C dx t1 v → R (.ok (.ret .none)) { s with heap := h', toks := tk }) :
    codeAny (model prog w) A (.call (.ref fI) ⟨[.ref x, v], []⟩) R s := by
  obtain ⟨oc, od, qual, kV, doc, pm, an, cc, ct, osl, p1, p2, a1, a2, a3, a4, a5, a6, a7, a8, a9, b1, tt, kk, cel, ho, hcd, ⟨ol, od2, sl, hcel⟩, hline, o2, d2, cvs, s2, file, tf, hcc, hvs, hfile⟩ := T.fn
  obtain ⟨nm, q, N, bs, bm, sn, sub, ab, col, dd, k0, k1, k2, k3, k5, hC, hbm⟩ := TC.cls
  obtain ⟨cd0, hcd0⟩ := T.cls
  have hcl : clsIn K C = some { name := nm, bases := bs, mro := .ref C :: bm, ns := N, qualname := q, hasDict := true, slotNames := sn, subclasses := sub, abstract := ab, collection := col, hasDel := false } := by unfold clsIn; rw [hC] <;> rfl
  obtain ⟨hp, g, dr, tk, os⟩ := s
  refine ks_codeAny_call_defAt (binds := [("self", .ref x), ("value", v)]) hroom (X _ _ ho) rfl hlim (codeRec_of X hcd) rfl (BindsTo.of_eq (by first | rfl | with_unfolding_all rfl)) (fun y hy => ?_) (fun y hy => ?_) (fun h₁ hn k => ?_) rfl rfl rfl
  · simp [iS] at hy
    rcases hy with rfl | rfl | rfl | rfl <;> simp
  · simp at hy
    rcases hy with rfl | rfl <;> rfl
  have X₁ : K.In h₁ := X.keeps k
  have hx₁ := k _ _ hx
  have hxL : hp.objs.size ≠ x := Nat.ne_of_gt (Heap.lt_size hx)
  generalize hL : hp.objs.size = L at *
  have hself : (List.lookup ("self" : Str) [(("self" : Str), Value.ref x), (("value" : Str), v)].reverse) = some (Value.ref x) := by first | rfl | with_unfolding_all rfl
  have hval : (List.lookup ("value" : Str) [(("self" : Str), Value.ref x), (("value" : Str), v)].reverse) = some v := by first | rfl | with_unfolding_all rfl
  have hks : (callEnv (iF p1 p2 qual (iB tt kk a1 a2 a3 a4 a5 a6 a7 a8 a9 b1) cel kV doc pm (.ref cc) ct an) L fI).kindOf "super" = some .globalImplicit := by first | rfl | with_unfolding_all rfl | kernel_rfl
  have hkc : (callEnv (iF p1 p2 qual (iB tt kk a1 a2 a3 a4 a5 a6 a7 a8 a9 b1) cel kV doc pm (.ref cc) ct an) L fI).kindOf "__class__" = some .free := by first | rfl | with_unfolding_all rfl | kernel_rfl
  have hka : (callEnv (iF p1 p2 qual (iB tt kk a1 a2 a3 a4 a5 a6 a7 a8 a9 b1) cel kV doc pm (.ref cc) ct an) L fI).kindOf "self" = some .local := by first | rfl | with_unfolding_all rfl | kernel_rfl
  have hkv : (callEnv (iF p1 p2 qual (iB tt kk a1 a2 a3 a4 a5 a6 a7 a8 a9 b1) cel kV doc pm (.ref cc) ct an) L fI).kindOf "value" = some .local := by first | rfl | with_unfolding_all rfl | kernel_rfl
  obtain ⟨oD, hD1, hD2⟩ : ∃ oD, h₁.get? C0 = some oD ∧ oD.data = .cls cd0 := by
    unfold clsIn at hcd0
    split at hcd0
    · rename_i c d cd' sl ho
      cases hcd0
      exact ⟨_, X₁ _ _ ho, rfl⟩
    · cases hcd0
  refine ks_wpAt_execs_cons (ks_wpAt_Expr_any ?_ rfl rfl)
  rw [arm_eval_Call]
  refine _root_.PySem.wpAt_bind ?_
  refine ks_wpAt_super_base (ar := { arg := "self", annotation := none, pos := p1 }) hks hkc (by decide) rfl (X₁ _ _ ho) rfl rfl rfl (X₁ _ _ hcc) rfl hvs hfile T.top ?_
  refine ks_loadName_global rfl hks (loadGlobal_builtin (hmg.keeps k) hs (hmb.keeps k) hbs ⟨rfl, ?_⟩)
  refine wpAny_loadName_free rfl hkc rfl ⟨_, X₁ _ _ hcel, rfl⟩ ?_
  refine wpAny_loadName_local rfl hka hn hself ?_
  refine ks_wpAny_isType_cls hD1 hD2 ⟨rfl, ?_⟩
  refine ks_wpAny_call_super hD1 hD2 hx₁ rfl (fun c e => by cases e) (looks_mroIn X₁ TC.sub0) (fun h₂ hso k₂ => ?_)
  have X₂ : K.In h₂ := X₁.keeps k₂
  have hx₂ := k₂ _ _ hx₁
  have I₂ : InstAt h₂ x (excO C t0) C none := ⟨hx₂, rfl, rfl, trivial⟩
  have hm := TC.sup
  unfold ks_superIn at hm
  rw [hcl] at hm
  refine _root_.PySem.wpAt_bind (_root_.PySem.wpAt_of_wpAny (wpAny_standAt ?_))
  have hpos : ∀ env : PySem.Env, methodCallPos true (.Call (.Name "super" a1) [] [] a2) env a3 a5 = pure a5 := fun env => by unfold methodCallPos; simp [hline]
  refine _root_.PySem.wpAt_bind (ks_wpAt_holding ?_)
  have hform : ∀ env : PySem.Env, methodCallForm ([Expr.Constant (Const.str tt) kk a4].length + ([] : List Keyword).length) (backTo a5 (starEach [Expr.Constant (Const.str tt) kk a4] env)) (backToKw a5 (keywordEach [] env)) = true := fun env => rfl
  simp only [hform, calleeOf, if_true]
  refine _root_.PySem.wpAt_of_wpAny ?_
  refine kxs_getMethod kxs_ValueError hso (looks_opaque X₂ T.opq) (l₀ := .ref C :: bm) (fun A Q E s k q => wpAny_bind ((looks_clsIn X₂ hcl) A _ E s k (wpAny_pure q))) rfl X₂ hm (I₂.type.andThen (looks_subIn X₂ TC.veC)) (ks_ne X₂ I₂ hcl) (by decide) ?_
  have k₃ : ∀ b o, h₂.get? b = some o → (h₂.push (kxs_mw "ValueError.__init__" x)).get? b = some o := fun b o e => Heap.get?_push_of_some _ e
  have hu : (h₂.push (kxs_mw "ValueError.__init__" x)).get? h₂.objs.size = some (kxs_mw "ValueError.__init__" x) := Heap.get?_push_at rfl rfl
  simp only [hpos]
  refine _root_.PySem.wpAt_of_wpAny ?_
  refine wpAny_bind (wpAny_pure ?_)
  refine kxs_callWith (i := "ValueError.__init__") (x := x) (by rfl) (evalArgs_plain ?_)

  refine Calls.spliced_cons (Calls.Constant_str (k := kk) (pos := a4) (Calls.spliced_nil ⟨hu, ?_⟩))
  have hC₃ := X₂.keeps k₃ _ _ hC
  refine call_bwV hC₃ (k₃ _ _ hx₂) hu (one_size _) (fun h₄ t1 k₄ hx₄ => ?_)
  -- self.value = value
  have k₁₄ : ∀ b o, b ≠ x → h₁.get? b = some o → h₄.get? b = some o := fun b o hb e => k₄ b o hb (k₃ _ _ (k₂ _ _ e))
  have hCx : C ≠ x := fun z => by
    have e1 := X₁ _ _ hC
    rw [z, hx₁] at e1
    cases e1
  have nin : ∀ a o, K.lookup a = some o → a ≠ x := fun a o e z => by
    rw [z, hnx] at e
    cases e
  have X₄ : K.In h₄ := fun a o e => k₁₄ a o (nin a o e) (X₁ a o e)
  show _root_.PySem.wpAt _ _ _ (execs _ _) _ _ _
  refine ks_wpAt_execs_cons (_root_.PySem.wpAt_of_wpAny ?_)
  refine plainObj_wpAny_Assign_Attribute ?_
  have hn₄ := hn.at (fun o e => k₁₄ _ o hxL e)
  refine ld_local (v := v) hn₄ hval rfl hkv (ld_local (v := .ref x) hn₄ hself rfl hka ?_)
  refine set_plain X₄ (ox := excO C t1) (od := none) ⟨hx₄, rfl, rfl, trivial⟩ TC.sa ?_
  refine exc_osa X₄ hx₄ hcl (show refsVE (.ref C :: bm) = true from hbm) rfl TC.noV (fun h₅ tk₅ dx k₅ dn dne hx₅ hn₅ => ?_)
  refine _root_.PySem.wpAt_of_wpAny (wpAny_execs_nil ?_)
  have k₀₅ : ∀ b o, b ≠ x → hp.get? b = some o → h₅.get? b = some o := fun b o hb e => k₅ b o hb (k₁₄ b o hb (k b o e))
  refine hq h₅ tk₅ dx t1 ⟨k₀₅, hx₅, ?_, dne, hn₅⟩
  have hL4 : L < h₄.objs.size := by
    obtain ⟨o, _, _, e, _⟩ := hn₄
    exact Heap.lt_size e
  show hp.objs.size ≤ dx
  rw [hL]
  exact Nat.le_of_lt (Nat.lt_of_lt_of_le hL4 dn)
theorem te_made (T : TeTxt prog K C0 fI) (TC : ClTxt K C0 fI C) {v : Value} (X : K.In s.heap) (hlim : s.heap.NoLimit) (hroom : A.depth + 1 < recursionLimit)
    (hmg : s.heap.Ns mainGlobals mg) (hs : mg "super" = none) (hmb : s.heap.Ns builtinsNs mb) (hbs : mb "super" = some (.type "super"))
    (hq : ∀ h' tk e d, OwnMade s.heap h' e C d v → R (.ok (.ret (.ref e))) { s with heap := h', toks := tk }) :
    codeAny (model prog w) A (.call (.ref C) ⟨[v], []⟩) R s := by
  obtain ⟨nm, q, N, bs, bm, sn, sub, ab, col, dd, k0, k1, k2, k3, k5, hC, hbm⟩ := TC.cls
  obtain ⟨hp, g, dr, tk, os⟩ := s
  have k : ∀ b o, hp.get? b = some o → ((hp.push (kdv_tup [v])).push (excO C hp.objs.size)).get? b = some o := fun b o e => Heap.get?_push_of_some _ (Heap.get?_push_of_some _ e)
  have hget : ((hp.push (kdv_tup [v])).push (excO C hp.objs.size)).get? (hp.objs.size + 1) = some (excO C hp.objs.size) := by heap_get
  have hnx : K.lookup (hp.objs.size + 1) = none := by
    cases e : K.lookup (hp.objs.size + 1) with
    | none => rfl
    | some o =>
      have z : hp.get? (hp.objs.size + 1) = some o := X _ _ e
      exact absurd (Nat.lt_of_succ_lt (Heap.lt_size z)) (Nat.lt_irrefl _)
  refine call_own F.excBase_ValueError (fun X => refsVE_contains X bm hbm) (X _ _ hC) (looks_findIn X TC.iC) (fun self => bind_fn X self TC.tI) (one_size v) ?_
  refine te_init (s := ⟨(hp.push (kdv_tup [v])).push (excO C hp.objs.size), g, dr, tk, os⟩) T TC (X.keeps k) (hlim.keeps k) hget hnx ?_ (hmg.keeps k) hs (hmb.keeps k) hbs fun h' tk' dx t1 ⟨k', hx, dn, dne, hns⟩ => ?_
  · show A.depth + 1 < recursionLimit
    exact hroom
  · have old : ∀ b o, hp.get? b = some o → h'.get? b = some o := fun b o e => k' b o (Nat.ne_of_lt (Nat.lt_succ_of_lt (Heap.lt_size e))) (k b o e)
    have z : hp.objs.size + 1 + 1 ≤ dx := by
      first
        | (simpa only [Heap.size_push] using dn)
        | exact dn
        | (have q := dn; rw [Heap.size_push, Heap.size_push] at q; exact q)
    exact ⟨rfl, hq h' tk' (hp.objs.size + 1) dx ⟨old, Nat.le_succ _, ⟨_, _, hx, rfl, rfl, rfl, rfl⟩, Nat.le_trans (Nat.le_trans (Nat.le_succ _) (Nat.le_succ _)) z, dne, hns⟩⟩
end
end TE
open PySem PySem.Spec PyProof.Rows L2
theorem relO_te {v : V} {v' : Value} (r : RelV v v') (f : Str) : RelO (List.lookup f [(("value" : Str), v)]) (if f = "value" then some v' else none) := by
  by_cases hw : f = "value"
  · subst hw
    rw [if_pos rfl]
    have q : List.lookup ("value" : Str) [(("value" : Str), v)] = some v := by simp [List.lookup]
    rw [q]
    exact r
  · rw [if_neg hw]
    have qw : (f == ("value" : Str)) = false := by simpa using hw
    have q2 : List.lookup f [(("value" : Str), v)] = none := by simp [List.lookup, qw]
    rw [q2]
    trivial
theorem pmk_te {X : Cx} {C C0 fI : Addr} {x : Str} {e : Expr} {te : TE} {p pos : Pos} {k : Nat} (T : TE.TeTxt X.prog X.K C0 fI) (TC : TE.ClTxt X.K C0 fI C) (hr : Room (k + 1) X.A) (hgC : X.mg x = some (.ref C)) (hgS : X.mg "super" = none) (hg : Gl X x) (hdb : (x == ("__debug__" : Str)) = false) (hst : notStar e = true) (he : PE X e te) :
    PMk X (.Call (.Name x p) [e] [] pos) fun σ H Q => te σ H fun v H1 => ∀ d, H1 d = none → Q (.ref C) (some d) (upd H1 d (.xd [("value", v)])) := by
  have hst' := star_cons (es := []) (env := X.env) hst
  intro pins s σ H Q I h
  refine wpAny_Call_Name_kw (ld_glob I hg hgC ?_ hdb)
  refine PySem.W.callWith_K (h₀ := X.base) I.ok.mod.kin TC.kC ?_ hst' rfl
  rw [hst']
  refine Calls.spliced_cons ?_
  refine thn (he.run pins s σ H _ I h) fun v' s1 ⟨v, H1, I1, rv, q1⟩ => Calls.spliced_nil ⟨I1.kIn, ?_⟩
  show wpAny _ _ (call (.ref C) [v']) _ _ _
  have hlim := I1.nolimit
  obtain ⟨mb, hb1, hb2⟩ := I1.mod.blt
  have hmg := I1.mod.glob.keeps I1.bk
  have hmb := hb1.keeps I1.bk
  have hbs : mb "super" = some (.type "super") := (hb2 _ (by decide)).trans (by decide +kernel)
  obtain ⟨hp, g, dr, tk, os⟩ := s1
  refine wpAny_call (TE.te_made T TC I1.kIn hlim (by have := hr.dp; omega) hmg hgS hmb hbs fun h' tk' e d M => ?_)
  show MkP X pins σ Q (.ref e) ⟨h', g, dr, tk', os⟩
  obtain ⟨oe, fv, hoe, hc, hd, hdat, h1⟩ := M.obj
  have hns := M.ns
  obtain ⟨G', g1, g2⟩ := restrict h' fun b => decide (b ≠ e)
  have gk : ∀ b, b ≠ e → G'.get? b = h'.get? b := fun b hb => g1 b (decide_eq_true hb)
  have ge : G'.get? e = none := g2 e (by simp)
  have old : ∀ b o, hp.get? b = some o → G'.get? b = some o := fun b o q => (gk b (Nat.ne_of_lt (Nat.lt_of_lt_of_le (Heap.lt_size q) M.new))).trans (M.keep b o q)
  have ob : ObjOk X.prog X.w (upd H1 d (.xd [(("value" : Str), v)])) G' d (.xd [(("value" : Str), v)]) :=
    ⟨_, hns.at (fun o q => (gk d M.dne).trans q), fun f => relO_te rv f⟩
  have J : Inv X pins σ (upd H1 d (.xd [(("value" : Str), v)])) ⟨G', g, dr, tk', os⟩ := I1.laid (t' := tk') old M.dbig ob
  refine ⟨e, oe, fv, ⟨G', g, dr, tk', os⟩, _, .ref C, some d, rfl, J, fun b o q => ?_, ge, hoe, ⟨hc, hd⟩, hdat, h1, ?_, rfl, I1.bare, raises_own TC.exC TC.tyC, q1 d (I1.hok.fresh M.dbig)⟩
  · by_cases hb : b = e
    · have q' : G'.get? b = some o := q
      rw [hb, ge] at q'; cases q'
    · exact (gk b hb).symm.trans q
  · rw [upd_ne (Ne.symm M.dne)]
    exact I1.hok.fresh M.new
end Tg
end
section
set_option Elab.async false
set_option linter.all false
set_option autoImplicit false
set_option maxRecDepth 100000
/-! binding -/
namespace Tg
open PySem PySem.Spec PyProof.Rows L2
theorem zip_some : ∀ {ps : List Str} {us : List Value} {n : Str}, us.length = ps.length → n ∈ ps → ((ps.zip us).lookup n).isNone = false
  | [], _, _, _, h => by cases h
  | p :: ps, [], _, hl, _ => by cases hl
  | p :: ps, u :: us, n, hl, h => by
    rw [List.zip_cons_cons, List.lookup_cons]
    cases e : (n == p) with
    | true => rfl
    | false =>
      simp only
      refine zip_some (by simpa using hl) ?_
      rcases List.mem_cons.mp h with rfl | h
      · rw [beq_self_eq_true] at e; cases e
      · exact h
theorem fm_congr {α β : Type} {f g : α → Option β} : ∀ {l : List α}, (∀ x ∈ l, f x = g x) → l.filterMap f = l.filterMap g
  | [], _ => rfl
  | x :: l, h => by
    rw [List.filterMap_cons, List.filterMap_cons, h x (List.mem_cons_self ..), fm_congr fun y hy => h y (List.mem_cons_of_mem _ hy)]
theorem fm_zip : ∀ {ps : List Str} {us : List Value}, us.length = ps.length → ps.Nodup → (ps.filterMap fun n => ((ps.zip us).lookup n).map fun v => (n, v)) = ps.zip us
  | [], _, _, _ => rfl
  | p :: ps, [], hl, _ => by cases hl
  | p :: ps, u :: us, hl, hn => by
    obtain ⟨n1, n2⟩ := List.nodup_cons.mp hn
    have e1 : ((p :: ps).zip (u :: us)).lookup p = some u := by rw [List.zip_cons_cons, List.lookup_cons, beq_self_eq_true]
    have e2 : ∀ n ∈ ps, (((p :: ps).zip (u :: us)).lookup n).map (fun v => (n, v)) = ((ps.zip us).lookup n).map fun v => (n, v) := fun n hm => by
      have : (n == p) = false := by
        rw [beq_eq_false_iff_ne]
        rintro rfl
        exact n1 hm
      rw [List.zip_cons_cons, List.lookup_cons, this]
    rw [List.filterMap_cons, e1]
    simp only [Option.map_some]
    rw [fm_congr e2, fm_zip (by simpa using hl) n2, List.zip_cons_cons]
theorem bind_plain {name qual : Str} {args : List Arg} {kd : List (Option Expr)} {df : List Expr} {body : List Stmt} {scope : Scope} {kV doc pm cdv ct : Value} {an : Option Addr} {us : List Value} (hl : us.length = (args.map (·.arg)).length) (hn : (args.map (·.arg)).Nodup) :
    bindArgs (PySem.W.fnOf name qual ⟨[], args, none, [], kd, none, df⟩ body scope .none kV doc pm an cdv ct) ⟨us, []⟩ = pure ((args.map (·.arg)).zip us) := by
  have h1 : ((args.map (·.arg)).filter fun n => (((args.map (·.arg)).zip us).lookup n).isNone) = [] := by
    rw [List.filter_eq_nil_iff]
    intro n hn
    rw [zip_some hl hn]
    exact Bool.false_ne_true
  have h2 : (args.map (·.arg)).take ((args.map (·.arg)).length) = args.map (·.arg) := by rw [List.take_length]
  have h4 := fm_zip hl hn
  have hl' : us.length = args.length := by simpa using hl
  unfold bindArgs
  simp [PySem.W.fnOf, seqItems?, hl']
  have c : (!(List.filter (fun n => (List.lookup n ((List.map (fun x => x.arg) args).zip us)).isNone)
                    (List.take
                      ((List.map (fun x : Arg => x.arg) [] ++ List.map (fun x => x.arg) args).length -
                        (List.drop ((#[] : Array Value).size - (List.map (fun x : Arg => x.arg) [] ++ List.map (fun x => x.arg) args).length)
                            ([] : List Value)).length)
                      (List.map (fun x : Arg => x.arg) [] ++ List.map (fun x => x.arg) args))).isEmpty) = false := by
    have : (List.take ((List.map (fun x : Arg => x.arg) [] ++ List.map (fun x => x.arg) args).length - (List.drop ((#[] : Array Value).size - (List.map (fun x : Arg => x.arg) [] ++ List.map (fun x => x.arg) args).length) ([] : List Value)).length)
        (List.map (fun x : Arg => x.arg) [] ++ List.map (fun x => x.arg) args)) = List.map (fun x => x.arg) args := by
      simpa using h2
    rw [this, h1]
    rfl
  rw [List.filterMap_map] at h4
  simp only [c, Bool.false_eq_true, if_false]
  rw [h4]
  rfl
theorem vals_swp : ∀ {zs : List V} {ws : List Value}, Vals zs ws → Vals (swp zs) (swp ws)
  | _, _, .nil => .nil
  | _, _, .cons r .nil => .cons r .nil
  | _, _, .cons r (.cons q .nil) => .cons q (.cons r .nil)
  | _, _, .cons r (.cons q (.cons t u)) => .cons r (.cons q (.cons t u))
theorem swp_two {α : Type} : ∀ {l : List α}, (swp l).length = 2 → ∃ a b, l = [a, b]
  | [], h => by cases h
  | [_], h => by cases h
  | [a, b], _ => ⟨a, b, rfl⟩
  | _ :: _ :: _ :: _, h => by simp [swp] at h
theorem bindsX_of {K : PySem.W.Frag} {name qual : Str} {args : List Arg} {kd : List (Option Expr)} {df : List Expr} {body : List Stmt} {scope : Scope} {kV doc pm cdv ct : Value} {an : Option Addr} (hn : (args.map (·.arg)).Nodup) :
    BindsX K (PySem.W.fnOf name qual ⟨[], args, none, [], kd, none, df⟩ body scope .none kV doc pm an cdv ct) (args.map (·.arg)) (args.map (·.arg)) where
  b := .all fun us hl => bind_plain hl hn
  nm := rfl
  k1 := fun a h => by
    match args, h with
    | [x], h =>
      simp only [List.map_cons, List.map_nil, List.cons.injEq, and_true] at h
      subst h
      refine ⟨fun s ws _ hl => ?_, fun r => r⟩
      match ws, hl with
      | [w], _ => exact .of_eq bind_kw1
  k2 := fun a c h => by
    match args, h with
    | [x, y], h =>
      simp only [List.map_cons, List.map_nil, List.cons.injEq, and_true] at h
      obtain ⟨rfl, rfl⟩ := h
      refine ⟨fun s ws _ hl => ?_, vals_swp⟩
      obtain ⟨v, w, rfl⟩ := swp_two hl
      have nxy : x.arg ≠ y.arg := by
        simp only [List.map_cons, List.map_nil, List.nodup_cons, List.mem_singleton] at hn
        exact hn.1
      exact .of_eq (bind_kw2 (beq_eq_false_iff_ne.mpr nxy) (beq_eq_false_iff_ne.mpr (Ne.symm nxy)))
end Tg
end
section
set_option Elab.async false
set_option linter.all false
set_option autoImplicit false
set_option maxRecDepth 100000
/-! what the top has left, read by one check -/
namespace Tg
open PySem PySem.Spec PyProof.Rows L2
theorem atomB_ok {p : PV} {u : Value} (h : atomB p u = true) : ∃ v, RelV v u ∧ ∀ W H b, Rep W H b p v := by
  cases p with
  | non => cases u with
    | none => exact ⟨.non, rfl, fun _ _ _ => .non⟩
    | _ => cases h
  | bl x => cases u with
    | bool y =>
      have e : x = y := eq_of_beq (show (x == y) = true from h)
      subst e
      exact ⟨.bl x, rfl, fun _ _ _ => .bl x⟩
    | _ => cases h
  | int i => cases u with
    | int j t =>
      have e : i = j := of_decide_eq_true h
      subst e
      exact ⟨.int i, ⟨t, rfl⟩, fun _ _ _ => .int i⟩
    | _ => cases h
  | str l => cases u with
    | str x t =>
      have e : x = ⟨l.toArray⟩ := of_decide_eq_true h
      subst e
      exact ⟨.str ⟨l.toArray⟩, ⟨t, rfl⟩, fun _ _ _ => .str l⟩
    | _ => cases h
  | _ => cases u <;> cases h
theorem atomsB_ok : ∀ {ps : List PV} {us : List Value}, atomsB ps us = true → ∃ xs, Vals xs us ∧ ∀ W H b, Reps W H b ps xs
  | [], [], _ => ⟨[], .nil, fun _ _ _ => .nil⟩
  | [], _ :: _, h => by cases h
  | _ :: _, [], h => by cases h
  | p :: ps, u :: us, h => by
    obtain ⟨h1, h2⟩ := He.ba (show (atomB p u && atomsB ps us) = true from h)
    obtain ⟨x, r, e⟩ := atomB_ok h1
    obtain ⟨xs, rs, es⟩ := atomsB_ok h2
    exact ⟨x :: xs, .cons r rs, fun W H b => .cons (e W H b) (es W H b)⟩
/-- the keys of the entries with their hashes -/
def hashOf (e : DictEntry) : Option (Str × Int) := He.keyOf e
theorem entB_ok {P : Program} {w : World} : ∀ {qs : List (KP × PV)} {es : List DictEntry}, entB qs es = true → PySem.W.KeysLit w.params es →
    ∃ (kvs : List (Key × V)) (vs : List (Key × Value)), KV kvs vs ∧ kvs.map (·.1) = qs.map (fun q => kK q.1) ∧ vs.map (·.1) = qs.map (fun q => kK q.1) ∧ Pairs (mixKind P w) es vs ∧ (∀ e ∈ es, ∃ k, (mixKind P w).is k e.key = true ∧ e.hash = (mixKind P w).hash k) ∧ ∀ W H b, RepK W H b qs kvs
  | [], [], _, _ => ⟨[], [], .nil, rfl, rfl, .nil, (fun _ h => absurd h List.not_mem_nil), fun _ _ _ => .nil⟩
  | [], _ :: _, h, _ => by cases h
  | _ :: _, [], h, _ => by cases h
  | q :: qs, e :: es, h, hk => by
    obtain ⟨h1, h2⟩ := He.ba (show ((keyB q.1 e.key && atomB q.2 e.val) && entB qs es) = true from h)
    obtain ⟨h3, h4⟩ := He.ba h1
    obtain ⟨kvs, vs, a1, a2, a3, a4, a5, a6⟩ := entB_ok (P := P) h2 hk.2
    obtain ⟨x, r, hr⟩ := atomB_ok h4
    obtain ⟨y, t, q1, q2⟩ := hk.1
    obtain ⟨k, p⟩ := q
    cases k with
    | i n =>
      rw [q1] at h3
      cases h3
    | s l =>
      rw [q1] at h3
      have ey : y = ⟨l.toArray⟩ := of_decide_eq_true h3
      subst ey
      have hkey : (mixKind P w).is (kK (.s l)) e.key = true := by
        rw [q1]
        exact keyIs_str _ t
      have hh : e.hash = (mixKind P w).hash (kK (.s l)) := by
        rw [q2]
        rfl
      refine ⟨(kK (.s l), x) :: kvs, (kK (.s l), e.val) :: vs, .cons ⟨rfl, r⟩ a1, by simp [a2], by simp [a3], .cons hkey rfl a4, ?_, fun W H b => .cons (hr W H b) (a6 W H b)⟩
      intro e' he'
      rcases List.mem_cons.mp he' with rfl | he'
      · exact ⟨_, hkey, hh⟩
      · exact a5 e' he'
theorem dicB_ok {W : Wd} {a : Addr} {qs : List (KP × PV)} {ks : List Str} (h : dicB W.K a qs = true) (hk : He.dicW W.K a = some (He.keysIn W.w.params ks)) : ∃ kvs, KDic W a kvs ∧ ∀ H b, RepK W H b qs kvs := by
  unfold dicB at h
  split at h
  · rename_i c es n sl e
    obtain ⟨h1, h2⟩ := He.ba h
    obtain ⟨h3, h4⟩ := He.ba h1
    obtain ⟨h5, h6⟩ := He.ba h4
    obtain ⟨h7, h8⟩ := He.ba h2
    obtain ⟨h9, h10⟩ := He.ba h7
    have ec : c = "dict" := of_decide_eq_true h3
    subst ec
    have es0 : sl = #[] := Array.isEmpty_iff.mp h5
    subst es0
    unfold He.dicW at hk
    rw [e] at hk
    have hb : (decide (("dict" : String) = "dict") && ((#[] : Array (Option Value)).isEmpty && !(a == sysModules))) = true := by
      rw [h6]; rfl
    replace hk : (match (decide (("dict" : String) = "dict") && ((#[] : Array (Option Value)).isEmpty && !(a == sysModules))) with
      | true => some (List.map He.keyOf es.toList)
      | false => none) = some (He.keysIn W.w.params ks) := hk
    rw [hb] at hk
    obtain ⟨kvs, vs, a1, a2, a3, a4, a5, a6⟩ := entB_ok (P := W.P) h8 (He.keysLit_of (Option.some.inj hk))
    have hl : kvs.length ≤ sizeLine := by
      have l1 := congrArg List.length a2
      have l2 := a4.length
      have l3 := congrArg List.length a3
      rw [List.length_map, List.length_map] at l1 l3
      have := of_decide_eq_true h9
      rw [← Array.length_toList, l2, l3, ← l1] at this
      exact this
    have hs : (a == sysModules) = false := by
      cases q : a == sysModules with
      | false => rfl
      | true => rw [q] at h6; cases h6
    refine ⟨kvs, ⟨⟨_, e, rfl⟩, hs, hl, vs, a1, fun hp hin => ⟨_, es, n, hin _ _ e, ⟨rfl, rfl, rfl⟩, rfl, fun x hx => a5 x (by simpa using hx), a4, ?_⟩⟩, fun H b => a6 W H b⟩
    rw [a3]
    exact of_decide_eq_true h10
  · cases h
theorem tupB_ok {W : Wd} {a : Addr} {ps : List PV} (h : tupB W.K a ps = true) : ∀ H b, Rep W H b (.tup ps) (.ref a) := by
  unfold tupB at h
  split at h
  · rename_i c its n sl e
    obtain ⟨h1, h2⟩ := He.ba h
    obtain ⟨h3, h4⟩ := He.ba h1
    have ec : c = "tuple" := of_decide_eq_true h3
    subst ec
    obtain ⟨xs, r, hr⟩ := atomsB_ok h2
    exact fun H b => .tup (.inr ⟨_, its, n, ⟨e, rfl, rfl, of_decide_eq_true h4, r⟩, rfl⟩) (hr W H b)
  · cases h
end Tg
end
section
set_option Elab.async false
set_option linter.all false
set_option autoImplicit false
set_option maxRecDepth 100000
/-! a caught exception of the program: its class, its value -/
namespace Tg
open PySem PySem.Spec PyProof.Rows L2
/-! calls within a try -/
section
variable {X : Cx} {CX : CXT} {k : Nat} {f : Addr} {fd : FuncData} {ps : List Str} {sp : Sp} {E : L2.St → XK} {x : Str} {p pos : Pos} {e : Expr} {es : List Expr} {t : TA}
theorem callGS (gd : X.A.guards = some []) (F : FnG X.prog X.w X.K X.mg X.base CX k f fd ps sp) (hr : Room k X.A) (hg : Gl X x) (hm : X.mg x = some (.ref f))
    (hk : PySem.W.keepIn X.K (.ref f) = true) (hb : Binds X.K fd ps []) (hx : ∀ σ, PassesAt CX X σ (E σ)) (ha : PA X (e :: es) t) (hdb : (x == ("__debug__" : Str)) = false)
    (he : starEach (e :: es) X.env = (false, eval e X.env) :: starEach es X.env) (hpl : (backTo pos (starEach es X.env)).any (·.1) = false) :
    PE X (.Call (.Name x p) (e :: es) [] pos) fun σ H Q => t σ H fun vs H1 => sp vs H1 Q (E σ) := by
  constructor
  intro pins s σ H Q I h
  refine wpAny_Call_Name_kw (ld_glob I hg hm ?_ hdb)
  refine PySem.W.callWith_K (h₀ := X.base) I.ok.mod.kin hk (thn (ha.run pos pins s σ H _ I h) fun us s1 z => (⟨z.choose_spec.choose_spec.1.kIn, ?_⟩ : X.K.In s1.heap ∧ _)) he hpl
  obtain ⟨vs, H1, I1, r, q⟩ := z
  have bd := hb s1 us I1.kIn (by rw [List.append_nil, ← r.length]; exact F.len _ _ _ _ q)
  rw [List.append_nil] at bd
  refine wpAny_call (codeAny_mono (F.run X.A X.stack s1 H1 ⟨us, []⟩ us vs Q (E σ) gd hr I1.env0 bd r q) ?_)
  rintro (er | (u | _ | _ | _)) s' hq
  · exact hx σ pins H1 s1 er s' I1 hq
  all_goals first | exact I1.after hq | exact False.elim hq
end
/-- what the written part says of a class of the program's exceptions, at C; C0 the first one; D another one, b: whether C is D -/
structure ExT (K : PySem.W.Frag) (C0 C : Addr) (DS : List Addr) : Prop where
  xf : XfC K C
  cl : (PySem.W.clsIn K C).isSome = true
  ha : PySem.W.findIn K (.ref C) "__class__" = some (some (.builtin "object.__class__"))
  hn : PySem.W.specialIn K (.builtin "object.__class__") "__get__" = some (some (.builtin "getset_descriptor.__get__"))
  ht : PySem.W.takesIn K (.builtin "object.__class__") = some true
  hm : PySem.W.mroIn K C (.type "object") = some true
  nv : PySem.W.findIn K (.ref C) "value" = some none
  ex : PySem.W.exmOne K (.ref C) (.ref C0) = some true
  is : ∀ D ∈ DS, PySem.W.kitOne K (.ref C) (.ref D) = some (decide (C = D) || decide (D = C0))
theorem exB_ok {K : PySem.W.Frag} {C0 C : Addr} {DS : List Addr} (h : exB K C0 DS C = true) (h0 : exB0 K = true) : ExT K C0 C DS := by
  obtain ⟨h1, h⟩ := He.ba h
  obtain ⟨a1, h1⟩ := He.ba h1
  obtain ⟨a2, a3⟩ := He.ba h1
  obtain ⟨h2, h3⟩ := He.ba h
  obtain ⟨a4, h2⟩ := He.ba h2
  obtain ⟨a5, a6⟩ := He.ba h2
  obtain ⟨b1, b2⟩ := He.ba h0
  exact ⟨xfB_ok a1, a2, He.eqO_ok a3, He.eqO_ok b1, of_decide_eq_true b2, of_decide_eq_true a4, He.eqO_ok a5, of_decide_eq_true a6, fun D hD => of_decide_eq_true (List.all_eq_true.mp h3 D hD)⟩
theorem kitAny_of {K : PySem.W.Frag} {C0 C : Addr} {DS : List Addr} (T : ExT K C0 C DS) : ∀ {Ds : List Addr}, (∀ D ∈ Ds, D ∈ DS) → PySem.W.kitAny K (.ref C) (Ds.map Value.ref) = some (Ds.any fun D => decide (C = D) || decide (D = C0))
  | [], _ => rfl
  | D :: Ds, h => by
    have e1 := T.is D (h D (List.mem_cons_self ..))
    have e2 := kitAny_of T (Ds := Ds) fun D hD => h D (List.mem_cons_of_mem _ hD)
    rw [List.map_cons, List.any_cons]
    show (match PySem.W.kitOne K (.ref C) (.ref D) with
      | some true => some true
      | some false => PySem.W.kitAny K (.ref C) (Ds.map Value.ref)
      | none => none) = _
    rw [e1, e2]
    cases decide (C = D) || decide (D = C0) <;> rfl
section
variable {X : Cx} {a C C0 dd : Addr} {oe : Obj} {pn : List (Addr × Obj)} {DS : List Addr}
/-- the caught exception's object -/
theorem inst_of {pins : List (Addr × Obj)} {σ : L2.St} {H : Hp} {s : Shared} {fs : List (Str × V)} (I : Inv (X.suite a ((a, oe) :: pn)) pins σ H s) (hz : Zc (.ref C) (some dd) oe) (hf : ∃ vs, oe.data = .fields vs) (hd : H dd = some (.xd fs)) :
    ∃ od, PySem.W.InstAt s.heap a oe C (some od) := by
  obtain ⟨ha, _⟩ := I.pin (a, oe) (List.mem_append_left _ List.mem_cons_self)
  obtain ⟨vs, hv⟩ := hf
  have hx : ObjOk X.prog X.w H s.heap dd (.xd fs) := I.hok dd _ hd
  obtain ⟨mA, hns, _⟩ := hx
  obtain ⟨od, ho, _⟩ := lookIn_ns hns
  exact ⟨od, ha, hz.1, by unfold PySem.W.notCls; rw [hv] <;> rfl, by rw [hz.2]; exact ho⟩
theorem kitx_of {od : Obj} (T : ExT X.K C0 C DS) : PySem.W.KitX X.K (.ref a) (.ref C) (fun h => PySem.W.InstAt h a oe C (some od)) :=
  PySem.W.kitx_exc T.cl T.xf.ga T.xf.gg T.xf.exC T.ha T.hn T.ht T.hm
/-- isinstance(e, D) -/
theorem cr_isE (T : ExT X.K C0 C DS) (hz : Zc (.ref C) (some dd) oe) (hf : ∃ vs, oe.data = .fields vs) :
    CallR (X.suite a ((a, oe) :: pn)) (.builtin "isinstance") fun xs H Q => ∃ (D : Addr) (fs : List (Str × V)), xs = [.ref a, .ref D] ∧ D ∈ DS ∧ H dd = some (.xd fs) ∧ Q (.bl (decide (C = D) || decide (D = C0))) H := by
  rintro pins s σ H xs us Q I r ⟨D, fs, rfl, hD, hd, q⟩
  obtain ⟨od, J⟩ := inst_of I hz hf hd
  cases r with
  | cons r1 r =>
    cases r with
    | cons r2 r =>
      cases r
      cases r1
      cases r2
      exact PySem.W.kia_one (kitx_of (od := od) T) I.kIn J (T.is D hD) (fun z => nomatch z) fun tk => ⟨.bl _, H, I.tok tk, rfl, q⟩
theorem vals_refs : ∀ {Ds : List Addr} {us : List Value}, Vals (Ds.map V.ref) us → us = Ds.map Value.ref
  | [], _, .nil => rfl
  | D :: Ds, _, .cons h t => by
    cases h
    rw [vals_refs t]; rfl
/-- isinstance(e, (D, ..)) -/
theorem cr_isET (T : ExT X.K C0 C DS) (hz : Zc (.ref C) (some dd) oe) (hf : ∃ vs, oe.data = .fields vs) :
    CallR (X.suite a ((a, oe) :: pn)) (.builtin "isinstance") fun xs H Q => ∃ (tp : Addr) (Ds : List Addr) (fs : List (Str × V)), xs = [.ref a, .ref tp] ∧ (∀ D ∈ Ds, D ∈ DS) ∧ Rd H tp (.tup (Ds.map V.ref)) ∧ H dd = some (.xd fs) ∧
      Q (.bl (Ds.any fun D => decide (C = D) || decide (D = C0))) H := by
  rintro pins s σ H xs us Q I r ⟨tp, Ds, fs, rfl, hD, ht, hd, q⟩
  obtain ⟨od, J⟩ := inst_of I hz hf hd
  obtain ⟨_, its, rv, o, h1, h2, n, h3⟩ := ht.ok I.hok
  cases r with
  | cons r1 r =>
    cases r with
    | cons r2 r =>
      cases r
      cases r1
      cases r2
      obtain ⟨oc, od', dt, sl⟩ := o
      simp only at h2 h3
      subst h2 h3
      rw [vals_refs rv] at h1
      exact PySem.W.kia_tup (kitx_of (od := od) T) I.kIn J h1 (kitAny_of T hD) (fun z => nomatch z) fun tk => ⟨.bl _, H, I.tok tk, rfl, q⟩
end
end Tg
end
section
set_option Elab.async false
set_option linter.all false
set_option autoImplicit false
set_option maxRecDepth 100000
/-! one look at what the top has left -/
namespace Tg
open PySem PySem.Spec PyProof.Rows L2
/-- the parameters, the names -/
def ckS (N : List Str) (ar : Arguments) (sc : Scope) : Bool := match ar with
  | ⟨[], args, none, [], _, none, _⟩ => ((decide (sc.kind = .function) && !sc.isCoroutine) && (!sc.isGenerator && decide N.Nodup)) &&
      ((decide (N.take (args.map (·.arg)).length = args.map (·.arg)) && ((args.map (·.arg)).all fun x => decide (sc.names.lookup x = some .local) || decide (sc.names.lookup x = some .cell))) &&
        ((sc.names.all fun y => !decide (y.2 = .free)) && decide (args.map (·.arg)).Nodup))
  | _ => false
def ckLit (G : List (Str × GV)) (R : List (Str × Nat)) (N : List Str) (fe : FE) : DV → Bool
  | some (ar, b, sc) => ckS N ar sc && match fe with
    | .code fd => (decide (N.length = fd.nl) && (decide ((ar.args.map (·.arg)).length = fd.np) && decide (fd.np ≤ fd.nl))) && srcS G R fd.body ⟨N, sc, none⟩ (.l b)
    | .ext _ => true
  | none => false
/-- .. of a row of defs -/
def ckLits (G : List (Str × GV)) (R : List (Str × Nat)) : List (List Str) → List FE → List DV → Bool
  | [], [], [] => true
  | N :: Ns, f :: fs, d :: ds => ckLit G R N f d && ckLits G R Ns fs ds
  | _, _, _ => false
theorem ckLits_at {G : List (Str × GV)} {R : List (Str × Nat)} : ∀ {Ns : List (List Str)} {fs : List FE} {ds : List DV} {i : Nat} {f : FE}, ckLits G R Ns fs ds = true → fs[i]? = some f → ∃ N d, Ns[i]? = some N ∧ ds[i]? = some d ∧ ckLit G R N f d = true
  | [], [], [], i, f, _, e => by simp at e
  | N :: Ns, g :: fs, d :: ds, 0, f, h, e => by
    simp at e
    subst e
    exact ⟨N, d, rfl, rfl, (He.ba (show (ckLit G R N g d && ckLits G R Ns fs ds) = true from h)).1⟩
  | N :: Ns, g :: fs, d :: ds, i + 1, f, h, e => by
    obtain ⟨N', d', h1, h2, h3⟩ := ckLits_at (i := i) (He.ba (show (ckLit G R N g d && ckLits G R Ns fs ds) = true from h)).2 (by simpa using e)
    exact ⟨N', d', by simpa using h1, by simpa using h2, h3⟩
  | [], [], _ :: _, _, _, h, _ => by cases h
  | [], _ :: _, _, _, _, h, _ => by cases h
  | _ :: _, [], _, _, _, h, _ => by cases h
  | _ :: _, _ :: _, [], _, _, h, _ => by cases h
/-- what is known of the def's text, its body apart -/
theorem def_ex {K : PySem.W.Frag} {a : Addr} {N : List Str} {ar : Arguments} {b : List Stmt} {sc : Scope} (h : ck1 K a = true) (e : fnV K a = some (ar, b, sc)) (s : ckS N ar sc = true) :
    ∃ (oc : Value) (od : Option Addr) (name qual : Str) (dV kV doc pm cdv ct : Value) (an : Option Addr) (osl : Array (Option Value)),
      K.lookup a = some ⟨oc, od, .func (PySem.W.fnOf name qual ar b sc dV kV doc pm an cdv ct), osl⟩ ∧ PySem.W.codeIn K cdv qual = true ∧ FnScope N (ar.args.map (·.arg)) sc ∧
      PySem.W.keepIn K (.ref a) = true ∧ BindsX K (PySem.W.fnOf name qual ar b sc dV kV doc pm an cdv ct) (ar.args.map (·.arg)) (ar.args.map (·.arg)) := by
  obtain ⟨hk, h⟩ := He.ba h
  unfold fnV at e
  cases q : K.lookup a with
  | none => rw [q] at h; cases h
  | some o =>
    rw [q] at h e
    obtain ⟨oc, od, dt, osl⟩ := o
    cases dt with
    | func fd =>
      obtain ⟨name, qual, params, body, scope, gl, cl, dV, kV, doc, pm, an, cdv, ct, bi⟩ := fd
      cases body with
      | stmts b' =>
        simp only at h e
        cases e
        obtain ⟨h0, c1⟩ := He.ba h
        obtain ⟨h01, h02⟩ := He.ba h0
        obtain ⟨h1, h2⟩ := He.ba h01
        obtain ⟨h3, h4⟩ := He.ba h02
        have e1 : dV = .none := by cases dV <;> first | rfl | cases h1
        have e2 : gl = mainGlobals := of_decide_eq_true h2
        have e3 : cl = [] := List.isEmpty_iff.mp h3
        have e4 : bi = builtinsNs := of_decide_eq_true h4
        subst e1 e2 e3 e4
        unfold ckS at s
        split at s
        · rename_i args kd df
          obtain ⟨s0, s⟩ := He.ba s
          obtain ⟨s01, s02⟩ := He.ba s0
          obtain ⟨s1, s2⟩ := He.ba s01
          obtain ⟨s3, s4⟩ := He.ba s02
          obtain ⟨p0, s⟩ := He.ba s
          obtain ⟨p1, p2⟩ := He.ba p0
          obtain ⟨f1, f2⟩ := He.ba s
          exact ⟨oc, od, name, qual, .none, kV, doc, pm, cdv, ct, an, osl, rfl, c1,
            { kind := of_decide_eq_true s1
              co := by simpa using s2
              gen := by simpa using s3
              nd := of_decide_eq_true s4
              pre := of_decide_eq_true p1
              par := fun x hx => by
                have := List.all_eq_true.mp p2 x hx
                rcases Bool.or_eq_true_iff.mp this with q | q
                · exact .inl (of_decide_eq_true q)
                · exact .inr (of_decide_eq_true q)
              nofree := fun y hy q => by
                have := List.all_eq_true.mp f1 y hy
                rw [q] at this
                cases this }, hk, bindsX_of (of_decide_eq_true f2)⟩
        · cases s
      | _ => cases e
    | _ => cases e
theorem gB_ok {W : Wd} {h : Heap} {mg : Str → Option Value} {nf : Nat} {x : Str} {gv : GV} (X : W.K.In h) (Gn : h.Ns mainGlobals mg) (c : gB W.K W.fa W.pn nf (x, gv) = true) (d : hsO W.K (x, gv) = hsV W.w (x, gv)) : match gv with
    | .fn i => i < nf ∧ mg x = some (.ref (W.fa i))
    | .val p => ∃ v u, mg x = some u ∧ RelV v u ∧ ∀ H b, Rep W H b p v
    | .none => mg x = none
    | .kw i ns => W.pn i = ns := by
  cases gv with
  | kw i ns => exact of_decide_eq_true c
  | fn i =>
    obtain ⟨c1, c2⟩ := He.ba c
    exact ⟨of_decide_eq_true c1, PySem.W.mg_of X Gn (He.eqO_ok c2)⟩
  | none => exact PySem.W.mg_none_of X Gn (He.eqO_ok c)
  | val p =>
    have atom : ∀ p, (match PySem.W.nsIn W.K mainGlobals x with
        | some (some u) => atomB p u
        | _ => false) = true → ∃ v u, mg x = some u ∧ RelV v u ∧ ∀ H b, Rep W H b p v := by
      intro p c
      split at c
      · rename_i u e
        obtain ⟨v, r, k⟩ := atomB_ok c
        exact ⟨v, u, PySem.W.mg_of X Gn e, r, k W⟩
      · cases c
    cases p with
    | tup ps =>
      have c' : (match PySem.W.nsIn W.K mainGlobals x with
        | some (some (.ref a)) => tupB W.K a ps
        | _ => false) = true := c
      split at c'
      · rename_i a e
        exact ⟨.ref a, .ref a, PySem.W.mg_of X Gn e, rfl, tupB_ok c'⟩
      · cases c'
    | kdc qs =>
      have c' : (match PySem.W.nsIn W.K mainGlobals x with
        | some (some (.ref a)) => dicB W.K a qs
        | _ => false) = true := c
      split at c'
      · rename_i a e
        have d' : He.dicW W.K (He.ga W.K x) = some (He.keysIn W.w.params (qs.map fun q => kStr q.1)) := d
        have ea : He.ga W.K x = a := by unfold He.ga; rw [e]
        rw [ea] at d'
        obtain ⟨kvs, k1, k2⟩ := dicB_ok c' d'
        exact ⟨.ref a, .ref a, PySem.W.mg_of X Gn e, rfl, fun H b => .kdc k1 (k2 H b)⟩
      · cases c'
    | _ => exact atom _ c
theorem hs_at {K : PySem.W.Frag} {w : World} : ∀ {G : List (Str × GV)}, G.map (hsO K) = G.map (hsV w) → ∀ e ∈ G, hsO K e = hsV w e
  | [], _, e, h => by cases h
  | x :: r, q, e, h => by
    rw [List.map_cons, List.map_cons] at q
    injection q with q1 q2
    rcases List.mem_cons.mp h with rfl | h
    · exact q1
    · exact hs_at q2 e h
/-! ### the classes of exceptions -/
theorem clObjB_ok {K : PySem.W.Frag} {C : Addr} (h : clObjB K C = true) : ∃ nm q N bs bm sn sub ab col dd k0 k1 k2 k3 k5, K.lookup C = some (excClassObj nm q C N bs bm true sn sub ab col dd k0 k1 k2 k3 k5 "ValueError.__new__") ∧ PySem.HandSPX.refsVE bm = true := by
  unfold clObjB at h
  split at h
  · rename_i c dd cd sl ho
    obtain ⟨h0, h⟩ := He.ba h
    split at h
    · rename_i C' bm k0 k1 k2 k3 n k5 hm hs
      obtain ⟨h1, h⟩ := He.ba h
      obtain ⟨h2, h3⟩ := He.ba h1
      obtain ⟨h4, h⟩ := He.ba h
      obtain ⟨h5, h6⟩ := He.ba h
      have e0 : c = "type" := of_decide_eq_true h0
      have e1 : C' = C := of_decide_eq_true h2
      have e2 : n = "ValueError.__new__" := of_decide_eq_true h3
      subst e0 e1 e2
      obtain ⟨nm, bs, mro, ns, qn, hd, sn, sub, ab, col, del⟩ := cd
      dsimp only at hm h4 h5
      subst hm
      have e3 : del = false := by simpa using h4
      subst e3 h5
      have hsl : sl = #[k0, k1, k2, k3, some (.builtin "ValueError.__new__"), k5] := by
        obtain ⟨l⟩ := sl
        simp only at hs
        rw [hs]
      subst hsl
      exact ⟨nm, qn, ns, bs, bm, sn, sub, ab, col, dd, k0, k1, k2, k3, k5, ho, h6⟩
    · cases h
  · cases h
theorem clB_ok {K : PySem.W.Frag} {C0 fI C : Addr} (h : clB K C0 fI C = true) : TE.ClTxt K C0 fI C := by
  unfold clB at h
  obtain ⟨h1, h⟩ := He.ba h
  obtain ⟨h2, h⟩ := He.ba h
  obtain ⟨a1, h2⟩ := He.ba h2
  obtain ⟨a2, a3⟩ := He.ba h2
  obtain ⟨h3, h⟩ := He.ba h
  obtain ⟨a4, h3⟩ := He.ba h3
  obtain ⟨a5, a6⟩ := He.ba h3
  obtain ⟨h4, h⟩ := He.ba h
  obtain ⟨a7, a8⟩ := He.ba h4
  obtain ⟨a9, a10⟩ := He.ba h
  exact ⟨clObjB_ok h1, He.eqO_ok a1, He.eqO_ok a2, He.eqO_ok a3, of_decide_eq_true a4, a5, of_decide_eq_true a6, of_decide_eq_true a7, of_decide_eq_true a8, of_decide_eq_true a9, He.eqO_ok a10⟩
theorem iBB_ok {ar : Arguments} {b : List Stmt} (h : iBB ar b = true) : ∃ p1 p2 t k a1 a2 a3 a4 a5 a6 a7 a8 a9 b1, ar = TE.iA p1 p2 ∧ b = TE.iB t k a1 a2 a3 a4 a5 a6 a7 a8 a9 b1 ∧ (a3.endLine == a5.line) = true := by
  unfold iBB at h
  split at h
  · obtain ⟨h1, h2⟩ := He.ba h
    obtain ⟨h3, h4⟩ := He.ba h1
    obtain ⟨h5, h6⟩ := He.ba h3
    obtain ⟨h7, h8⟩ := He.ba h4
    obtain ⟨h9, h10⟩ := He.ba h2
    obtain ⟨h11, h12⟩ := He.ba h9
    obtain ⟨h13, h14⟩ := He.ba h10
    rw [of_decide_eq_true h5, of_decide_eq_true h6, of_decide_eq_true h7, of_decide_eq_true h8, of_decide_eq_true h11, of_decide_eq_true h12, of_decide_eq_true h13]
    exact ⟨_, _, _, _, _, _, _, _, _, _, _, _, _, _, rfl, rfl, h14⟩
  · cases h
theorem scB_ok {sc : Scope} (h : scB sc = true) : sc = TE.iS := by
  unfold scB at h
  obtain ⟨h1, h⟩ := He.ba h
  obtain ⟨h2, h⟩ := He.ba h
  obtain ⟨h3, h5⟩ := He.ba h
  obtain ⟨h3, h4⟩ := He.ba h3
  obtain ⟨kind, names, ig, ic, more⟩ := sc
  have e1 : kind = .function := of_decide_eq_true h1
  have e2 : names = TE.iS.names := of_decide_eq_true h2
  have e3 : ig = false := by simpa using h3
  have e4 : ic = false := by simpa using h4
  have e5 : more = [] := List.isEmpty_iff.mp h5
  subst e1 e2 e3 e4 e5
  rfl
theorem teB_ok {P : Program} {K : PySem.W.Frag} {C0 fI : Addr} (h : teB P K C0 fI = true) : TE.TeTxt P K C0 fI := by
  unfold teB at h
  obtain ⟨h, hz⟩ := He.ba h
  obtain ⟨hz, hop⟩ := He.ba hz
  obtain ⟨htop, hc0⟩ := He.ba hz
  refine ⟨?_, by simpa using htop, Option.isSome_iff_exists.mp hc0, He.eqO_ok hop⟩
  split at h
  · rename_i oc od nm qual params b sc gl cl dV kV doc pm an cdv ct bi osl ho
    obtain ⟨h1, h⟩ := He.ba h
    obtain ⟨h1, h2⟩ := He.ba h1
    obtain ⟨h3, h1⟩ := He.ba h1
    obtain ⟨h4, h5⟩ := He.ba h1
    obtain ⟨h6, h2⟩ := He.ba h2
    obtain ⟨h7, h8⟩ := He.ba h2
    obtain ⟨h9, h10⟩ := He.ba h
    obtain ⟨h11, h12⟩ := He.ba h9
    obtain ⟨p1, p2, t, k, a1, a2, a3, a4, a5, a6, a7, a8, a9, b1, rfl, rfl, hl⟩ := iBB_ok h4
    have e1 := scB_ok h5
    have e2 : gl = mainGlobals := of_decide_eq_true h6
    have e3 : bi = builtinsNs := of_decide_eq_true h10
    have e4 : nm = "__init__" := of_decide_eq_true h3
    have e5 : dV = .none := by cases dV <;> first | rfl | cases h8
    subst e1 e2 e3 e4 e5
    cases cl with
    | nil => cases h7
    | cons xc r =>
      cases r with
      | cons _ _ => cases h7
      | nil =>
        obtain ⟨x, c⟩ := xc
        obtain ⟨e6, g7⟩ := He.ba (show (decide (x = "__class__") && (match K.lookup c with
          | some ⟨_, _, .cell (some (.ref D)), _⟩ => decide (D = C0)
          | _ => false)) = true from h7)
        have e6 : x = "__class__" := of_decide_eq_true e6
        subst e6
        split at g7
        case h_2 => cases g7
        rename_i ol od2 D sl hcel
        have e7 : D = C0 := of_decide_eq_true g7
        subst e7
        cases cdv with
        | ref cc =>
          have g12 : (match K.lookup cc with
            | some ⟨_, _, .fields vs, _⟩ => (match (vs.toList[2]? : Option Value) with
              | some (.str file _) => ((P.main.file : Str) == file)
              | _ => false)
            | _ => false) = true := h12
          split at g12
          · rename_i o2 d2 vs s2 hcc
            split at g12
            · rename_i file tf hv
              exact ⟨oc, od, qual, kV, doc, pm, an, cc, ct, osl, p1, p2, a1, a2, a3, a4, a5, a6, a7, a8, a9, b1, t, k, c, ho, h11, ⟨ol, od2, sl, hcel⟩, hl, o2, d2, vs, s2, file, tf, hcc, by simpa using hv, g12⟩
            · cases g12
          · cases g12
        | _ => cases h12
  · cases h
/-! ### the look -/
def LD.W (L : LD) (w : World) (K : PySem.W.Frag) : Wd := ⟨L.P, w, K, L.fa, L.ca, L.pn⟩
theorem map_at {α β : Type} {f : α → β} {l : List α} {m : List β} (h : l.map f = m) {i : Nat} {y : β} (e : m[i]? = some y) : ∃ x, l[i]? = some x ∧ f x = y := by
  rw [← h, List.getElem?_map] at e
  exact Option.map_eq_some_iff.mp e
section
variable {L : LD} {w : World} {K : PySem.W.Frag} {h base : Heap} {mg : Str → Option Value}
/-- a def's text, by its number -/
theorem def_at (c : obsV L K = valLD L w) {i : Nat} {N : List Str} {ar : Arguments} {b : List Stmt} {sc : Scope} (e : L.D[i]? = some (some (ar, b, sc))) (s : ckS N ar sc = true) :
    ∃ (oc : Value) (od : Option Addr) (name qual : Str) (dV kV doc pm cdv ct : Value) (an : Option Addr) (osl : Array (Option Value)),
      K.lookup (L.fa i) = some ⟨oc, od, .func (PySem.W.fnOf name qual ar b sc dV kV doc pm an cdv ct), osl⟩ ∧ PySem.W.codeIn K cdv qual = true ∧ FnScope N (ar.args.map (·.arg)) sc ∧
      PySem.W.keepIn K (.ref (L.fa i)) = true ∧ BindsX K (PySem.W.fnOf name qual ar b sc dV kV doc pm an cdv ct) (ar.args.map (·.arg)) (ar.args.map (·.arg)) := by
  have c1 : ckB L K = true := congrArg (fun z : AlV => z.1) c
  have c2 : L.A.map (fnV K) = L.D := congrArg (fun z : AlV => z.2.1) c
  obtain ⟨a, ha, hv⟩ := map_at c2 e
  have ea : L.fa i = a := by unfold LD.fa; rw [List.getD_eq_getElem?_getD, ha]; rfl
  rw [ea]
  have k1 := List.all_eq_true.mp (He.ba (He.ba c1).1).1 a (List.mem_of_getElem? ha)
  exact def_ex k1 hv s
theorem code_fact {F : List FE} {Ns : List (List Str)} (c : obsV L K = valLD L w) (hl : ckLits L.G L.R Ns F L.D = true) {i : Nat} {fd : FD} (e : F[i]? = some (.code fd)) : FnFact (L.W w K) mg base L.G L.R L.nf i (.code fd) := by
  obtain ⟨N, d, h1, h2, h3⟩ := ckLits_at hl e
  cases d with
  | none => cases h3
  | some z =>
    obtain ⟨ar, b, sc⟩ := z
    obtain ⟨s1, s2⟩ := He.ba (show (ckS N ar sc && _) = true from h3)
    obtain ⟨l1, s2⟩ := He.ba s2
    obtain ⟨l1, l2⟩ := He.ba l1
    obtain ⟨l2, l3⟩ := He.ba l2
    obtain ⟨oc, od, name, qual, dV, kV, doc, pm, cdv, ct, an, osl, q1, q2, q3, q4, q5⟩ := def_at c h2 s1
    exact ⟨oc, od, name, qual, ar, b, sc, dV, kV, doc, pm, cdv, ct, an, osl, N, _, q1, q2, q3, q4, (show BindsX K _ _ (L.pn i) from (by unfold LD.pn; rw [h2]; exact q5)), of_decide_eq_true l1, of_decide_eq_true l2, of_decide_eq_true l3, s2⟩
theorem tops_of (c : obsV L K = valLD L w) (X : K.In h) (Gn : h.Ns mainGlobals mg) : Tops (L.W w K) mg base L.G L.R L.nf where
  G := fun x gv hm => by
    have c1 : ckB L K = true := congrArg (fun z : AlV => z.1) c
    have c3 : L.G.map (hsO K) = L.G.map (hsV w) := congrArg (fun z : AlV => z.2.2) c
    have := gB_ok (W := L.W w K) X Gn (List.all_eq_true.mp (He.ba (He.ba (He.ba c1).1).2).1 _ hm) (hs_at c3 _ hm)
    cases gv <;> exact this
  rz := fun Y hP hw hK hmg hbase hc hr _ x cc hm p pos e te hg hd hs he => by
    have c1 : ckB L K = true := congrArg (fun z : AlV => z.1) c
    obtain ⟨c4, c5⟩ := He.ba (He.ba c1).2
    obtain ⟨c5, c6⟩ := He.ba c5
    have hc4 := List.all_eq_true.mp c4 _ hm
    obtain ⟨d1, d2⟩ := He.ba (show (He.eqO _ _ && clB K L.C0 L.fI (L.ca cc)) = true from hc4)
    have t1 := teB_ok c5
    have t2 := clB_ok d2
    have eP : Y.prog = L.P := hP
    have eK : Y.K = K := hK
    rw [← eP, ← eK] at t1
    rw [← eK] at t2
    exact pmk_te t1 t2 (k := 2) hr (by rw [hmg]; exact PySem.W.mg_of X Gn (He.eqO_ok d1)) (by rw [hmg]; exact PySem.W.mg_none_of X Gn (He.eqO_ok c6)) hg hd hs he
theorem ex_at (c : obsV L K = valLD L w) {C : Addr} (hC : C ∈ L.CA) : ExT K L.C0 C L.CA := by
  have c1 : ckB L K = true := congrArg (fun z : AlV => z.1) c
  obtain ⟨h0, h1⟩ := He.ba (He.ba (He.ba (He.ba c1).1).2).2
  exact exB_ok (List.all_eq_true.mp h1 C hC) h0
end
end Tg
end
section
set_option Elab.async false
set_option linter.all false
set_option autoImplicit false
set_option maxRecDepth 100000
set_option maxHeartbeats 2000000
/-! a law's end: from the promise of its def, at rest -/
namespace Tg
open PySem PySem.Spec PyProof.Rows L2
/-- what stands when the law is called -/
structure EndIn (K : PySem.W.Frag) (mg mb : Str → Option Value) (a : Addr) (vs : List Value) (ns : List Int) (s : Shared) : Prop where
  kin : K.In s.heap
  glob : s.heap.Ns mainGlobals mg
  blt : s.heap.Ns builtinsNs mb
  bb : ∀ x : Str, x ≠ "__name__" → mb x = bootBuiltins x
  lim : s.heap.NoLimit
  gens : s.gens = #[]
  at_ : s.heap.get? a = some { cls := .type "list", data := .seq vs.toArray }
  isI : IntsAre vs ns
  len : ns.length ≤ sizeLine
/-- the script: fixed, unless it is the top's own -/
def scriptH (K : PySem.W.Frag) (a : Addr) (vs : List Value) (ns : List Int) : Hp := fun b =>
  if b = a ∧ K.lookup a = none then some (.frz { cls := .type "list", data := .seq vs.toArray } (.lst (ns.map V.int))) else none
section
variable {K : PySem.W.Frag} {mg mb : Str → Option Value} {a : Addr} {vs : List Value} {ns : List Int} {s : Shared}
theorem scriptH_of {b : Addr} {u : HO} (h : scriptH K a vs ns b = some u) : b = a ∧ K.lookup a = none ∧ u = .frz { cls := .type "list", data := .seq vs.toArray } (.lst (ns.map V.int)) := by
  unfold scriptH at h
  split at h
  · rename_i c
    exact ⟨c.1, c.2, (Option.some.inj h).symm⟩
  · cases h
theorem EndIn.lx (I : EndIn K mg mb a vs ns s) : LX K (scriptH K a vs ns) a (ns.map V.int) := by
  cases hk : K.lookup a with
  | none => exact .inl (.inr ⟨_, if_pos ⟨rfl, hk⟩⟩)
  | some o =>
    have e := I.kin a o hk
    rw [I.at_] at e
    cases e
    exact .inr ⟨vs, _, hk, by have := I.isI.length; have := I.len; omega, vals_ints I.isI⟩
theorem EndIn.hok (I : EndIn K mg mb a vs ns s) {P : Program} {w : World} : HOk P w (scriptH K a vs ns) s.heap := fun b u z => by
  obtain ⟨rfl, _, rfl⟩ := scriptH_of z
  exact ⟨I.at_, by rw [List.length_map]; exact I.len, vs, _, vals_ints I.isI, I.at_⟩
/-- what is not the script is there for the module too -/
theorem EndIn.free (I : EndIn K mg mb a vs ns s) {b : Addr} {o : Obj} (e : s.heap.get? b = some o) (d : (∃ es n, o.data = .dict es n) ∨ K.lookup b = some o) : (hidT s.heap (scriptH K a vs ns)).get? b = some o := by
  refine hidT_get e ?_
  cases q : scriptH K a vs ns b with
  | none => rfl
  | some u =>
    obtain ⟨rfl, hk, _⟩ := scriptH_of q
    rcases d with ⟨es, n, d⟩ | d
    · rw [I.at_] at e
      cases e
      cases d
    · rw [hk] at d
      cases d
theorem EndIn.nsK (I : EndIn K mg mb a vs ns s) {b : Addr} {m : Str → Option Value} (h : s.heap.Ns b m) : (hidT s.heap (scriptH K a vs ns)).Ns b m := by
  obtain ⟨o, es, n, e, d, r⟩ := h
  exact ⟨o, es, n, I.free e (.inl ⟨es, n, d⟩), d, r⟩
theorem EndIn.kin' (I : EndIn K mg mb a vs ns s) : K.In (hidT s.heap (scriptH K a vs ns)) := fun b o e => I.free (I.kin b o e) (.inr e)
theorem EndIn.env (I : EndIn K mg mb a vs ns s) {P : Program} {w : World} : Env0 P w K mg (hidT s.heap (scriptH K a vs ns)) callerA [] s (scriptH K a vs ns) := by
  obtain ⟨mc, l1, l2⟩ := I.lim
  have md : Mod K mg (hidT s.heap (scriptH K a vs ns)) := ⟨I.kin', I.nsK I.glob, ⟨mb, I.nsK I.blt, I.bb⟩, ⟨mc, I.nsK l1, l2⟩⟩
  exact { frames := rfl, mod := md, bs := fun b o e => of_hidT e, bsz := Nat.le_of_eq (hidT_size _ _), funs := trivial, frf := (fun b hb => nomatch hb), hok := I.hok, bare := .of_eq I.gens }
/-- the law is called -/
theorem EndIn.run (I : EndIn K mg mb a vs ns s) {P : Program} {w : World} {CX : CXT} {k : Nat} {fa : Addr} {fd : FuncData} {ps : List Str} {sp : Sp} (hr : Room k callerA) (F : FnG P w K mg (hidT s.heap (scriptH K a vs ns)) CX k fa fd ps sp)
    (hbind : Binds K fd ps []) (hsp : sp [.ref a] (scriptH K a vs ns) (fun v _ => v = .bl true) fun _ _ _ => False) (hCX : ∀ e s', CX [] (scriptH K a vs ns) s (fun _ _ _ => False) e s' → False) :
    codeAny (model P w) callerA (.call (.ref fa) ⟨[.ref a], []⟩) (fun r s' => r = .ok (.ret (.bool true)) ∧ OldK s.heap s'.heap ∧ s'.os = s.os ∧ AllBare s'.gens) s := by
  have bd := hbind s [.ref a] I.kin (F.len _ _ _ _ hsp)
  have go := F.run callerA [] s (scriptH K a vs ns) ⟨[.ref a], []⟩ [.ref a] [.ref a] _ _ rfl hr I.env bd (.cons rfl .nil) hsp
  refine codeAny_mono go fun r s' h => ?_
  cases r with
  | error e => exact (hCX e s' h).elim
  | ok fl =>
    cases fl with
    | ret u =>
      obtain ⟨v, H', os, bare, un, hok', rv, rfl⟩ := h
      cases (show u = Value.bool true from rv)
      refine ⟨rfl, OldK.of_keep fun b o e => ?_, os, bare⟩
      cases q : scriptH K a vs ns b with
      | none => exact un.keep b o e q (fun z => nomatch z) (fun z => nomatch z)
      | some u =>
        obtain ⟨rfl, _, rfl⟩ := scriptH_of q
        have e2 := (hok' b _ (un.frzs b _ _ q)).1
        rw [I.at_] at e
        rw [e2]
        exact e
    | _ => exact False.elim h
end
/-- a law: what the head tells gives the written part and the promise over each base -/
theorem walkG {l : PySem.W.OpenLaw} {n k : Nat} {q : Program} {loose : List Str} {XP : (Str → Option Value) → Heap → Prop} {YP : World → Heap → Prop} {d : DefRec} {CX : World → CXT}
    (hn : l.most = some n) (hn2 : n ≤ sizeLine) (hdf : d.params.defaults = []) (hr : Room k callerA)
    (F : ∀ (w : World) (mg : Str → Option Value) (fa : Addr) (h : Heap), YP w h → h.Ns mainGlobals mg → mg d.name = some (.ref fa) →
      ∃ (K : PySem.W.Frag) (sp : Sp), K.In h ∧ (∀ (a : Addr) (H : Hp) (ns : List Int), ns.length ≤ n → LX K H a (ns.map V.int) → sp [.ref a] H (fun v _ => v = .bl true) fun _ _ _ => False) ∧
        ∀ base : Heap, K.In base → base.Ns mainGlobals mg → ∃ fd ps, FnG l.prog w K mg base (CX w) k fa fd ps sp ∧ Binds K fd ps [])
    (hCX : ∀ (w : World) (H : Hp) (s : Shared) (e : Value) (s' : Shared), CX w [] H s (fun _ _ _ => False) e s' → False) :
    PySem.W.WalkO q loose XP YP l.row.toRowW d [] (fun f vs => PySem.call f vs) := by
  refine Att.attach_call hn hdf fun w s₀ s₁ mg mb fa o pm cd doc a vs ns G Y ho hd hcd hmg hobj hints hlen hg => ?_
  obtain ⟨K, sp, KX, hsp, hF⟩ := F w mg fa _ Y G.T.g hmg
  have I : EndIn K mg mb a vs ns s₁ := ⟨KX, G.T.g, G.T.b, G.T.builtins, G.T.nolimit, hg, hobj, hints, Nat.le_trans hlen hn2⟩
  obtain ⟨fd, ps, h1, h2⟩ := hF _ I.kin' (I.nsK G.T.g)
  exact I.run hr h1 h2 (hsp a _ ns hlen I.lx) fun e s' => hCX w _ s₁ e s'
theorem reps_ints {W : Wd} {H : Hp} {b : Bn} : ∀ ns : List Int, Reps W H b (ns.map PV.int) (ns.map V.int)
  | [] => .nil
  | n :: ns => .cons (.int n) (reps_ints ns)
/-- .. and the promise by the meaning of its def -/
theorem walkL {l : PySem.W.OpenLaw} {L : LD} {F : List FE} {Ns : List (List Str)} {n m i : Nat} {q : Program} {loose : List Str} {XP : (Str → Option Value) → Heap → Prop} {d : DefRec}
    (hn : l.most = some n) (hn2 : n ≤ sizeLine) (hdf : d.params.defaults = []) (hr : Room (m + 3) callerA) (hP : L.P = l.prog) (hnf : L.nf = F.length) (hl : ckLits L.G L.R Ns F L.D = true)
    (hext : ∀ (w : World) (mg : Str → Option Value) (base : Heap) (K : PySem.W.Frag) (j : Nat) (f : CallT → List PV → Store → Rs PV), F[j]? = some (.ext f) → obsV L K = valLD L w → K.In base → base.Ns mainGlobals mg →
      FnFact (L.W w K) mg base L.G L.R L.nf j (.ext f))
    (hd : (d.name, GV.fn i) ∈ L.G) (plain : ∀ ns : List Int, ns.length ≤ n → ∃ S, callN L.G L.R F m i [.lst (ns.map PV.int)] [] = .ok (.bl true) S) :
    PySem.W.WalkO q loose XP (hookV L).says l.row.toRowW d [] (fun f vs => PySem.call f vs) := by
  refine walkG (k := m + 3) (CX := L2.CX l.prog) hn hn2 hdf hr (fun w mg fa h Y G hmg => ?_) (fun w H s e s' z => ?_)
  · obtain ⟨K, KX, c⟩ := Y
    have T0 := tops_of (base := h) c KX G
    obtain ⟨hi, hfa⟩ : i < L.nf ∧ mg d.name = some (.ref (L.fa i)) := T0.G _ _ hd
    rw [hmg] at hfa
    cases hfa
    refine ⟨K, spOf (L.W w K) (callN L.G L.R F m) i, KX, fun a H ns hlen hx => ?_, fun base hK hG => ?_⟩
    · obtain ⟨S, e⟩ := plain ns hlen
      refine ⟨[.lst (ns.map PV.int)], [], ⟨fun _ => False, []⟩, .cons (.lst ?_ (reps_ints ns)) .nil, ⟨rfl, List.nodup_nil, fun i a ps h => by simp at h⟩, fun a h => ?_, ?_⟩
      · exact hx.imp (fun h => ⟨fun z => z.elim id (fun z => nomatch z), h⟩) id
      · exact h.elim False.elim (fun z => nomatch z)
      · rw [e]
        intro H' b' _ x r
        cases r
        rfl
    · have T := tops_of (base := base) c hK hG
      rw [hnf] at T hi hext
      have ok := fns_ok T (fun j fe hj => ?_) m i hi
      · obtain ⟨fd, ps, h1, _, h3⟩ := ok
        rw [← hP]
        exact ⟨fd, ps, h1, h3.b⟩
      · cases fe with
        | code fd =>
          have := code_fact (mg := mg) (base := base) c hl hj
          rw [hnf] at this
          exact this
        | ext f => exact hext w mg base K j f hj c hK hG
  · obtain ⟨_, _, _, _, _, _, _, _, _, _, _, _, z⟩ := z
    exact z
end Tg
end
section
set_option Elab.async false
set_option linter.all false
set_option autoImplicit false
set_option maxRecDepth 100000
set_option maxHeartbeats 0
namespace K73
open PySem PySem.Spec PyProof.Rows L2 Tg
abbrev i_listed : Nat := 0
abbrev i_show_word : Nat := 1
abbrev i_show_words : Nat := 2
abbrev i_item_text : Nat := 3
abbrev i_row_text : Nat := 4
abbrev i_show_pattern : Nat := 5
abbrev i_show_rule : Nat := 6
abbrev i_show_cascade : Nat := 7
abbrev i_place_text : Nat := 8
abbrev i_show_machine : Nat := 9
abbrev i_is_integer : Nat := 10
abbrev i_is_between : Nat := 11
abbrev i_is_tuple : Nat := 12
abbrev i_is_rising : Nat := 13
abbrev i_is_text : Nat := 14
abbrev i_is_one_of : Nat := 15
abbrev i_anew : Nat := 16
abbrev i_letters_of : Nat := 17
abbrev i_is_letters : Nat := 18
abbrev i_need_n : Nat := 19
abbrev i_is_word : Nat := 20
abbrev i_is_place : Nat := 21
abbrev i_is_machine : Nat := 22
abbrev i_is_letter_item : Nat := 23
abbrev i_is_edge : Nat := 24
abbrev i_is_row : Nat := 25
abbrev i_is_pattern_of : Nat := 26
abbrev i_is_pattern : Nat := 27
abbrev i_is_change : Nat := 28
abbrev i_are_changes : Nat := 29
abbrev i_is_rule_of : Nat := 30
abbrev i_is_rule : Nat := 31
abbrev i_is_cascade : Nat := 32
abbrev i_integer_from : Nat := 33
abbrev i_all_or_none : Nat := 34
abbrev i_number_from : Nat := 35
abbrev i_text_from : Nat := 36
abbrev i_word_from : Nat := 37
abbrev i_item_from : Nat := 38
abbrev i_pattern_in : Nat := 39
abbrev i_pattern_from : Nat := 40
abbrev i_change_from : Nat := 41
abbrev i_rule_in : Nat := 42
abbrev i_rule_from : Nat := 43
abbrev i_cascade_from : Nat := 44
abbrev i_step_from : Nat := 45
abbrev i_place_from : Nat := 46
abbrev i_machine_from : Nat := 47
abbrev i_needed : Nat := 48
abbrev i_read_by : Nat := 49
abbrev i_read_with : Nat := 50
abbrev i_read_word : Nat := 51
abbrev i_read_pattern : Nat := 52
abbrev i_read_rule : Nat := 53
abbrev i_read_cascade : Nat := 54
abbrev i_read_machine : Nat := 55
abbrev i_law_well : Nat := 56
abbrev i_law_draw : Nat := 57
abbrev i_law_letters : Nat := 58
abbrev i_law_row : Nat := 59
abbrev i_law_pattern : Nat := 60
abbrev i_law_machine : Nat := 61
abbrev i_law_any_rule : Nat := 62
abbrev i_law_word_text : Nat := 63
abbrev i_law_pattern_text : Nat := 64
abbrev i_law_rule_text : Nat := 65
abbrev i_law_machine_text : Nat := 66
abbrev i_law_word : Nat := 67
abbrev i_law_words_right : Nat := 68
abbrev i_law_patterns_right : Nat := 69
abbrev i_law_rules_right : Nat := 70
abbrev i_law_machines_right : Nat := 71
abbrev i_law : Nat := 72
abbrev c_TongueError : Nat := 0
abbrev c_InvalidNumber : Nat := 1
abbrev c_Unreadable : Nat := 2
/-- listed(rows, between) -/
def f0 : FE := .code ⟨2, 2, .seq (.ret (.ite (.cmp 2 (.u1 0 (.var 0)) (.c (.int 0))) (.m1 0 (.var 1) (.var 0)) (.c (.str [45])))) (.skip)⟩
def n0 : List Str := sL ["rows", "between"]
/-- show_word(word) -/
def f1 : FE := .code ⟨1, 1, .seq (.ret (.ite (.cmp 5 (.var 0) (.c (.str []))) (.var 0) (.c (.str [46])))) (.skip)⟩
def n1 : List Str := sL ["word"]
/-- show_words(words) -/
def f2 : FE := .code ⟨1, 2, .seq (.ret (.call 0 (.cons (.lc (.name 1) [1] (.seq (.var 0)) (.c (.bl true)) (.call 1 (.cons (.var 1) (.nil)))) (.cons (.c (.str [32])) (.nil))))) (.skip)⟩
def n2 : List Str := sL ["words", "word"]
/-- item_text(item) -/
def f3 : FE := .code ⟨1, 1, .seq (.ret (.ite (.cmp 4 (.ix (.var 0) (.c (.int 0))) (.c (.str [101, 100, 103, 101]))) (.c (.str [35])) (.bin 0 (.ix (.var 0) (.c (.int 1))) (.ix (.g 6) (.ix (.var 0) (.c (.int 0))))))) (.skip)⟩
def n3 : List Str := sL ["item"]
/-- row_text(row) -/
def f4 : FE := .code ⟨1, 2, .seq (.ret (.ite (.cmp 5 (.var 0) (.tup (.nil))) (.m1 0 (.c (.str [32])) (.lc (.name 1) [1] (.seq (.var 0)) (.c (.bl true)) (.call 3 (.cons (.var 1) (.nil))))) (.c (.str [46])))) (.skip)⟩
def n4 : List Str := sL ["row", "item"]
/-- show_pattern(pattern) -/
def f5 : FE := .code ⟨1, 2, .seq (.ret (.m1 0 (.c (.str [32, 124, 32])) (.lc (.name 1) [1] (.seq (.var 0)) (.c (.bl true)) (.call 4 (.cons (.var 1) (.nil)))))) (.skip)⟩
def n5 : List Str := sL ["pattern", "row"]
/-- show_rule(rule) -/
def f6 : FE := .code ⟨1, 9, .seq (.asg (.tup (.cons (.name 2) (.cons (.name 3) (.cons (.name 4) (.cons (.name 5) (.cons (.name 6) (.nil))))))) (.var 0)) (.seq (.asg (.name 1) (.m1 0 (.c (.str [32])) (.lc (.tup (.cons (.name 7) (.cons (.name 8) (.nil)))) [7, 8] (.seq (.var 2)) (.c (.bl true)) (.bin 0 (.bin 0 (.var 7) (.c (.str [62]))) (.call 1 (.cons (.var 8) (.nil))))))) (.seq (.ret (.js (.jcons (.fmt (.var 1)) (.jcons (.c (.str [32, 47, 32])) (.jcons (.fmt (.call 5 (.cons (.var 3) (.nil)))) (.jcons (.c (.str [32, 95, 32])) (.jcons (.fmt (.call 5 (.cons (.var 4) (.nil)))) (.jcons (.c (.str [32, 47, 32])) (.jcons (.fmt (.var 5)) (.jcons (.c (.str [32])) (.jcons (.fmt (.var 6)) (.jnil)))))))))))) (.skip)))⟩
def n6 : List Str := sL ["rule", "words", "changes", "left", "right", "way", "force", "letter", "text"]
/-- show_cascade(cascade) -/
def f7 : FE := .code ⟨1, 2, .seq (.ret (.m1 0 (.c (.str [32, 59, 32])) (.bin 0 (.lst (.cons (.u1 8 (.ix (.var 0) (.c (.int 0)))) (.nil))) (.lc (.name 1) [1] (.seq (.ix (.var 0) (.c (.int 1)))) (.c (.bl true)) (.call 6 (.cons (.var 1) (.nil))))))) (.skip)⟩
def n7 : List Str := sL ["cascade", "rule"]
/-- place_text(place) -/
def f8 : FE := .code ⟨1, 3, .seq (.ret (.m1 0 (.c (.str [32])) (.bin 0 (.lst (.cons (.ite (.tv (.ix (.var 0) (.c (.int 0)))) (.c (.str [49])) (.c (.str [48]))) (.nil))) (.lc (.tup (.cons (.name 1) (.cons (.name 2) (.nil)))) [1, 2] (.seq (.ix (.var 0) (.c (.int 1)))) (.c (.bl true)) (.js (.jcons (.fmt (.var 1)) (.jcons (.fmt (.var 2)) (.jnil)))))))) (.skip)⟩
def n8 : List Str := sL ["place", "letter", "number"]
/-- show_machine(machine) -/
def f9 : FE := .code ⟨1, 2, .seq (.ret (.m1 0 (.c (.str [32, 59, 32])) (.bin 0 (.lst (.cons (.u1 8 (.ix (.var 0) (.c (.int 0)))) (.nil))) (.lc (.name 1) [1] (.seq (.ix (.var 0) (.c (.int 1)))) (.c (.bl true)) (.call 8 (.cons (.var 1) (.nil))))))) (.skip)⟩
def n9 : List Str := sL ["machine", "place"]
/-- is_integer(value) -/
def f10 : FE := .code ⟨1, 1, .seq (.ret (.and (.isi 0 (.var 0)) (.one (.not (.isi 4 (.var 0)))))) (.skip)⟩
def n10 : List Str := sL ["value"]
/-- is_between(value, low, high) -/
def f11 : FE := .code ⟨3, 3, .seq (.ret (.and (.call 10 (.cons (.var 0) (.nil))) (.one (.chain 1 1 (.var 1) (.var 0) (.var 2))))) (.skip)⟩
def n11 : List Str := sL ["value", "low", "high"]
/-- is_tuple(value, low, high) -/
def f12 : FE := .code ⟨3, 3, .seq (.ret (.and (.isi 2 (.var 0)) (.one (.chain 1 1 (.var 1) (.u1 0 (.var 0)) (.var 2))))) (.skip)⟩
def n12 : List Str := sL ["value", "low", "high"]
/-- is_rising(value) -/
def f13 : FE := .code ⟨1, 2, .seq (.ret (.u1 3 (.lc (.name 1) [1] (.rng 1 (.cons (.bin 1 (.u1 0 (.var 0)) (.c (.int 1))) (.nil))) (.c (.bl true)) (.cmp 0 (.ix (.var 0) (.var 1)) (.ix (.var 0) (.bin 0 (.var 1) (.c (.int 1)))))))) (.skip)⟩
def n13 : List Str := sL ["value", "at"]
/-- is_text(value, signs, low, high) -/
def f14 : FE := .code ⟨4, 5, .seq (.ret (.and (.isi 1 (.var 0)) (.and (.chain 1 1 (.var 2) (.u1 0 (.var 0)) (.var 3)) (.one (.u1 3 (.lc (.name 4) [4] (.seq (.var 0)) (.c (.bl true)) (.cmp 6 (.var 4) (.var 1)))))))) (.skip)⟩
def n14 : List Str := sL ["value", "signs", "low", "high", "sign"]
/-- is_one_of(value, words) -/
def f15 : FE := .code ⟨2, 2, .seq (.ret (.and (.isi 1 (.var 0)) (.one (.cmp 6 (.var 0) (.var 1))))) (.skip)⟩
def n15 : List Str := sL ["value", "words"]
/-- anew(value) -/
def f16 : FE := .code ⟨1, 2, .seq (.iff (.tv (.isi 3 (.var 0))) (.seq (.ret (.lc (.name 1) [1] (.seq (.var 0)) (.c (.bl true)) (.call 16 (.cons (.var 1) (.nil))))) (.skip)) (.skip)) (.seq (.iff (.tv (.isi 2 (.var 0))) (.seq (.ret (.u1 1 (.lc (.name 1) [1] (.seq (.var 0)) (.c (.bl true)) (.call 16 (.cons (.var 1) (.nil)))))) (.skip)) (.skip)) (.seq (.ret (.var 0)) (.skip)))⟩
def n16 : List Str := sL ["value", "part"]
/-- letters_of(n) -/
def f17 : FE := .code ⟨1, 1, .seq (.ret (.cutH (.g 0) (.var 0))) (.skip)⟩
def n17 : List Str := sL ["n"]
/-- is_letters(value) -/
def f18 : FE := .code ⟨1, 1, .seq (.ret (.call 11 (.cons (.var 0) (.cons (.c (.int 1)) (.cons (.u1 0 (.g 0)) (.nil)))))) (.skip)⟩
def n18 : List Str := sL ["value"]
/-- need_n(n) -/
def f19 : FE := .code ⟨1, 1, .seq (.iff (.not (.tv (.call 18 (.cons (.var 0) (.nil))))) (.seq (.raise 1 (.var 0)) (.skip)) (.skip)) (.skip)⟩
def n19 : List Str := sL ["n"]
/-- is_word(n, value) -/
def f20 : FE := .code ⟨2, 3, .seq (.ret (.and (.isi 1 (.var 1)) (.one (.u1 3 (.lc (.name 2) [2] (.seq (.var 1)) (.c (.bl true)) (.cmp 6 (.var 2) (.cutH (.g 0) (.var 0)))))))) (.skip)⟩
def n20 : List Str := sL ["n", "value", "letter"]
/-- is_place(value, n, many) -/
def f21 : FE := .code ⟨3, 7, .seq (.iff (.or (.not (.tv (.call 12 (.cons (.var 0) (.cons (.c (.int 2)) (.cons (.c (.int 2)) (.nil))))))) (.or (.not (.tv (.isi 4 (.ix (.var 0) (.c (.int 0)))))) (.one (.not (.tv (.isi 2 (.ix (.var 0) (.c (.int 1))))))))) (.seq (.ret (.c (.bl false))) (.skip)) (.skip)) (.seq (.for (.name 3) (.seq (.ix (.var 0) (.c (.int 1)))) (.seq (.iff (.or (.not (.tv (.call 12 (.cons (.var 3) (.cons (.c (.int 2)) (.cons (.c (.int 2)) (.nil))))))) (.or (.not (.tv (.isi 1 (.ix (.var 3) (.c (.int 0)))))) (.one (.cmp 5 (.u1 0 (.ix (.var 3) (.c (.int 0)))) (.c (.int 1)))))) (.seq (.ret (.c (.bl false))) (.skip)) (.skip)) (.seq (.iff (.or (.cmp 7 (.ix (.var 3) (.c (.int 0))) (.call 17 (.cons (.var 1) (.nil)))) (.one (.not (.tv (.call 11 (.cons (.ix (.var 3) (.c (.int 1))) (.cons (.c (.int 0)) (.cons (.bin 1 (.var 2) (.c (.int 1))) (.nil))))))))) (.seq (.ret (.c (.bl false))) (.skip)) (.skip)) (.skip)))) (.seq (.setLc false 4 (.lc (.name 3) [3] (.seq (.ix (.var 0) (.c (.int 1)))) (.c (.bl true)) (.ix (.var 3) (.c (.int 0))))) (.seq (.ret (.u1 3 (.lc (.tup (.cons (.name 5) (.cons (.name 6) (.nil)))) [5, 6] (.zip (.cons (.var 4) (.cons (.cutL (.var 4) (.c (.int 1))) (.nil)))) (.c (.bl true)) (.cmp 0 (.var 5) (.var 6))))) (.skip))))⟩
def n21 : List Str := sL ["value", "n", "many", "step", "letters", "one", "other"]
/-- is_machine(value) -/
def f22 : FE := .code ⟨1, 2, .seq (.iff (.or (.not (.tv (.call 12 (.cons (.var 0) (.cons (.c (.int 2)) (.cons (.c (.int 2)) (.nil))))))) (.or (.not (.tv (.call 18 (.cons (.ix (.var 0) (.c (.int 0))) (.nil))))) (.one (.not (.tv (.isi 2 (.ix (.var 0) (.c (.int 1))))))))) (.seq (.ret (.c (.bl false))) (.skip)) (.skip)) (.seq (.ret (.u1 3 (.lc (.name 1) [1] (.seq (.ix (.var 0) (.c (.int 1)))) (.c (.bl true)) (.call 21 (.cons (.var 1) (.cons (.ix (.var 0) (.c (.int 0))) (.cons (.u1 0 (.ix (.var 0) (.c (.int 1)))) (.nil)))))))) (.skip))⟩
def n22 : List Str := sL ["value", "place"]
/-- is_letter_item(n, value) -/
def f23 : FE := .code ⟨2, 4, .seq (.iff (.or (.not (.tv (.call 12 (.cons (.var 1) (.cons (.c (.int 2)) (.cons (.c (.int 2)) (.nil))))))) (.or (.not (.tv (.call 15 (.cons (.ix (.var 1) (.c (.int 0))) (.cons (.g 5) (.nil)))))) (.one (.not (.tv (.call 14 (.cons (.ix (.var 1) (.c (.int 1))) (.cons (.call 17 (.cons (.var 0) (.nil))) (.cons (.c (.int 1)) (.cons (.var 0) (.nil))))))))))) (.seq (.ret (.c (.bl false))) (.skip)) (.skip)) (.seq (.ret (.u1 3 (.lc (.tup (.cons (.name 2) (.cons (.name 3) (.nil)))) [2, 3] (.zip (.cons (.ix (.var 1) (.c (.int 1))) (.cons (.cutL (.ix (.var 1) (.c (.int 1))) (.c (.int 1))) (.nil)))) (.c (.bl true)) (.cmp 0 (.var 2) (.var 3))))) (.skip))⟩
def n23 : List Str := sL ["n", "value", "one", "other"]
/-- is_edge(value) -/
def f24 : FE := .code ⟨1, 1, .seq (.ret (.and (.call 12 (.cons (.var 0) (.cons (.c (.int 1)) (.cons (.c (.int 1)) (.nil))))) (.and (.isi 1 (.ix (.var 0) (.c (.int 0)))) (.one (.cmp 4 (.var 0) (.g 2)))))) (.skip)⟩
def n24 : List Str := sL ["value"]
/-- is_row(n, value, side) -/
def f25 : FE := .code ⟨3, 5, .seq (.iff (.not (.tv (.call 12 (.cons (.var 1) (.cons (.c (.int 0)) (.cons (.g 8) (.nil))))))) (.seq (.ret (.c (.bl false))) (.skip)) (.skip)) (.seq (.asg (.name 3) (.var 1)) (.seq (.iff (.and (.cmp 4 (.var 2) (.c (.str [108, 101, 102, 116]))) (.and (.cmp 5 (.var 3) (.tup (.nil))) (.one (.tv (.call 24 (.cons (.ix (.var 3) (.c (.int 0))) (.nil))))))) (.seq (.asg (.name 3) (.cutL (.var 3) (.c (.int 1)))) (.skip)) (.seq (.iff (.and (.cmp 4 (.var 2) (.c (.str [114, 105, 103, 104, 116]))) (.and (.cmp 5 (.var 3) (.tup (.nil))) (.one (.tv (.call 24 (.cons (.ix (.var 3) (.neg (.c (.int 1)))) (.nil))))))) (.seq (.asg (.name 3) (.cutH (.var 3) (.neg (.c (.int 1))))) (.skip)) (.skip)) (.skip))) (.seq (.ret (.u1 3 (.lc (.name 4) [4] (.seq (.var 3)) (.c (.bl true)) (.call 23 (.cons (.var 0) (.cons (.var 4) (.nil))))))) (.skip))))⟩
def n25 : List Str := sL ["n", "value", "side", "items", "item"]
/-- is_pattern_of(n, value, side) -/
def f26 : FE := .code ⟨3, 4, .seq (.ret (.and (.call 12 (.cons (.var 1) (.cons (.c (.int 1)) (.cons (.g 9) (.nil))))) (.one (.u1 3 (.lc (.name 3) [3] (.seq (.var 1)) (.c (.bl true)) (.call 25 (.cons (.var 0) (.cons (.var 3) (.cons (.var 2) (.nil)))))))))) (.skip)⟩
def n26 : List Str := sL ["n", "value", "side", "row"]
/-- is_pattern(n, value, side) -/
def f27 : FE := .code ⟨3, 3, .seq (.expr (.call 19 (.cons (.var 0) (.nil)))) (.seq (.ret (.call 26 (.cons (.var 0) (.cons (.var 1) (.cons (.var 2) (.nil)))))) (.skip))⟩
def n27 : List Str := sL ["n", "value", "side"]
/-- is_change(n, value) -/
def f28 : FE := .code ⟨2, 2, .seq (.iff (.or (.not (.tv (.call 12 (.cons (.var 1) (.cons (.c (.int 2)) (.cons (.c (.int 2)) (.nil))))))) (.or (.not (.tv (.call 20 (.cons (.var 0) (.cons (.ix (.var 1) (.c (.int 0))) (.nil)))))) (.one (.not (.tv (.call 20 (.cons (.var 0) (.cons (.ix (.var 1) (.c (.int 1))) (.nil))))))))) (.seq (.ret (.c (.bl false))) (.skip)) (.skip)) (.seq (.ret (.and (.cmp 1 (.u1 0 (.ix (.var 1) (.c (.int 0)))) (.c (.int 1))) (.and (.cmp 1 (.u1 0 (.ix (.var 1) (.c (.int 1)))) (.g 11)) (.one (.cmp 5 (.ix (.var 1) (.c (.int 0))) (.ix (.var 1) (.c (.int 1)))))))) (.skip))⟩
def n28 : List Str := sL ["n", "value"]
/-- are_changes(n, value) -/
def f29 : FE := .code ⟨2, 5, .seq (.iff (.or (.not (.tv (.isi 2 (.var 1)))) (.or (.cmp 4 (.var 1) (.tup (.nil))) (.one (.not (.tv (.u1 3 (.lc (.name 4) [4] (.seq (.var 1)) (.c (.bl true)) (.call 28 (.cons (.var 0) (.cons (.var 4) (.nil))))))))))) (.seq (.ret (.c (.bl false))) (.skip)) (.skip)) (.seq (.ret (.call 13 (.cons (.lc (.tup (.cons (.name 2) (.cons (.name 3) (.nil)))) [2, 3] (.seq (.var 1)) (.c (.bl true)) (.var 2)) (.nil)))) (.skip))⟩
def n29 : List Str := sL ["n", "value", "letter", "text", "change"]
/-- is_rule_of(n, value) -/
def f30 : FE := .code ⟨2, 2, .seq (.iff (.or (.not (.tv (.call 12 (.cons (.var 1) (.cons (.c (.int 5)) (.cons (.c (.int 5)) (.nil))))))) (.one (.not (.tv (.call 29 (.cons (.var 0) (.cons (.ix (.var 1) (.c (.int 0))) (.nil)))))))) (.seq (.ret (.c (.bl false))) (.skip)) (.skip)) (.seq (.iff (.or (.not (.tv (.call 26 (.cons (.var 0) (.cons (.ix (.var 1) (.c (.int 1))) (.cons (.c (.str [108, 101, 102, 116])) (.nil))))))) (.one (.not (.tv (.call 26 (.cons (.var 0) (.cons (.ix (.var 1) (.c (.int 2))) (.cons (.c (.str [114, 105, 103, 104, 116])) (.nil))))))))) (.seq (.ret (.c (.bl false))) (.skip)) (.skip)) (.seq (.ret (.and (.call 15 (.cons (.ix (.var 1) (.c (.int 3))) (.cons (.g 12) (.nil)))) (.one (.call 15 (.cons (.ix (.var 1) (.c (.int 4))) (.cons (.g 3) (.nil))))))) (.skip)))⟩
def n30 : List Str := sL ["n", "value"]
/-- is_rule(n, value) -/
def f31 : FE := .code ⟨2, 2, .seq (.expr (.call 19 (.cons (.var 0) (.nil)))) (.seq (.ret (.call 30 (.cons (.var 0) (.cons (.var 1) (.nil))))) (.skip))⟩
def n31 : List Str := sL ["n", "value"]
/-- is_cascade(value) -/
def f32 : FE := .code ⟨1, 2, .seq (.iff (.or (.not (.tv (.call 12 (.cons (.var 0) (.cons (.c (.int 2)) (.cons (.c (.int 2)) (.nil))))))) (.or (.not (.tv (.call 18 (.cons (.ix (.var 0) (.c (.int 0))) (.nil))))) (.one (.not (.tv (.call 12 (.cons (.ix (.var 0) (.c (.int 1))) (.cons (.c (.int 0)) (.cons (.g 10) (.nil)))))))))) (.seq (.ret (.c (.bl false))) (.skip)) (.skip)) (.seq (.ret (.u1 3 (.lc (.name 1) [1] (.seq (.ix (.var 0) (.c (.int 1)))) (.c (.bl true)) (.call 30 (.cons (.ix (.var 0) (.c (.int 0))) (.cons (.var 1) (.nil))))))) (.skip))⟩
def n32 : List Str := sL ["value", "rule"]
/-- integer_from(word, digits) -/
def f33 : FE := .code ⟨2, 3, .seq (.iff (.or (.not (.chain 0 1 (.c (.int 0)) (.u1 0 (.var 0)) (.var 1))) (.one (.not (.tv (.u1 3 (.lc (.name 2) [2] (.seq (.var 0)) (.c (.bl true)) (.cmp 6 (.var 2) (.g 1)))))))) (.seq (.ret (.c (.non))) (.skip)) (.skip)) (.seq (.ret (.ite (.and (.cmp 4 (.ix (.var 0) (.c (.int 0))) (.c (.str [48]))) (.one (.cmp 5 (.var 0) (.c (.str [48]))))) (.c (.non)) (.u1 9 (.var 0)))) (.skip))⟩
def n33 : List Str := sL ["word", "digits", "sign"]
/-- all_or_none(found) -/
def f34 : FE := .code ⟨1, 1, .seq (.ret (.ite (.cmp 6 (.c (.non)) (.var 0)) (.c (.non)) (.u1 1 (.var 0)))) (.skip)⟩
def n34 : List Str := sL ["found"]
/-- number_from(word) -/
def f35 : FE := .code ⟨1, 1, .seq (.ret (.call 33 (.cons (.var 0) (.cons (.g 7) (.nil))))) (.skip)⟩
def n35 : List Str := sL ["word"]
/-- text_from(word) -/
def f36 : FE := .code ⟨1, 1, .seq (.ret (.ite (.cmp 4 (.var 0) (.c (.str [46]))) (.c (.str [])) (.var 0))) (.skip)⟩
def n36 : List Str := sL ["word"]
/-- word_from(n, text) -/
def f37 : FE := .code ⟨2, 3, .seq (.asg (.name 2) (.call 36 (.cons (.var 1) (.nil)))) (.seq (.ret (.ite (.and (.tv (.call 20 (.cons (.var 0) (.cons (.var 2) (.nil))))) (.one (.cmp 5 (.var 1) (.c (.str []))))) (.var 2) (.c (.non)))) (.skip))⟩
def n37 : List Str := sL ["n", "text", "word"]
/-- item_from(word) -/
def f38 : FE := .code ⟨1, 2, .seq (.iff (.cmp 4 (.var 0) (.c (.str [35]))) (.seq (.ret (.tup (.cons (.c (.str [101, 100, 103, 101])) (.nil)))) (.skip)) (.skip)) (.seq (.asg (.name 1) (.get (.g 4) (.cutL (.var 0) (.neg (.c (.int 1)))))) (.seq (.ret (.ite (.cmp 8 (.var 1) (.c (.non))) (.tup (.cons (.c (.str [111, 110, 101])) (.cons (.var 0) (.nil)))) (.tup (.cons (.var 1) (.cons (.cutH (.var 0) (.neg (.c (.int 1)))) (.nil)))))) (.skip)))⟩
def n38 : List Str := sL ["word", "kind"]
/-- pattern_in(text) -/
def f39 : FE := .code ⟨1, 4, .seq (.setLc false 1 (.lc (.name 2) [2] (.seq (.m1 1 (.var 0) (.c (.str [32, 124, 32])))) (.c (.bl true)) (.ite (.cmp 4 (.var 2) (.c (.str [46]))) (.lst (.nil)) (.m1 1 (.var 2) (.c (.str [32])))))) (.seq (.ret (.u1 1 (.lc (.name 2) [2] (.seq (.var 1)) (.c (.bl true)) (.u1 1 (.lc (.name 3) [3] (.seq (.var 2)) (.c (.bl true)) (.call 38 (.cons (.var 3) (.nil)))))))) (.skip))⟩
def n39 : List Str := sL ["text", "rows", "row", "word"]
/-- pattern_from(n, text) -/
def f40 : FE := .code ⟨2, 3, .seq (.asg (.name 2) (.call 39 (.cons (.var 1) (.nil)))) (.seq (.iff (.and (.not (.tv (.call 27 (.cons (.var 0) (.cons (.var 2) (.cons (.c (.str [108, 101, 102, 116])) (.nil))))))) (.one (.not (.tv (.call 27 (.cons (.var 0) (.cons (.var 2) (.cons (.c (.str [114, 105, 103, 104, 116])) (.nil))))))))) (.seq (.ret (.c (.non))) (.skip)) (.skip)) (.seq (.ret (.ite (.cmp 4 (.call 5 (.cons (.var 2) (.nil))) (.var 1)) (.var 2) (.c (.non)))) (.skip)))⟩
def n40 : List Str := sL ["n", "text", "found"]
/-- change_from(word) -/
def f41 : FE := .code ⟨1, 4, .seq (.asg (.tup (.cons (.name 1) (.cons (.name 2) (.cons (.name 3) (.nil))))) (.m1 2 (.var 0) (.c (.str [62])))) (.seq (.ret (.tup (.cons (.var 1) (.cons (.call 36 (.cons (.var 3) (.nil))) (.nil))))) (.skip))⟩
def n41 : List Str := sL ["word", "letter", "mark", "text"]
/-- rule_in(text) -/
def f42 : FE := .code ⟨1, 10, .seq (.asg (.name 1) (.m1 1 (.var 0) (.c (.str [32, 47, 32])))) (.seq (.iff (.cmp 5 (.u1 0 (.var 1)) (.c (.int 3))) (.seq (.ret (.c (.non))) (.skip)) (.skip)) (.seq (.asg (.name 2) (.u1 1 (.lc (.name 9) [9] (.seq (.m1 1 (.ix (.var 1) (.c (.int 0))) (.c (.str [32])))) (.c (.bl true)) (.call 41 (.cons (.var 9) (.nil)))))) (.seq (.asg (.tup (.cons (.name 3) (.cons (.name 4) (.cons (.name 5) (.nil))))) (.m1 2 (.ix (.var 1) (.c (.int 1))) (.c (.str [32, 95, 32])))) (.seq (.asg (.tup (.cons (.name 6) (.cons (.name 7) (.cons (.name 8) (.nil))))) (.m1 3 (.ix (.var 1) (.c (.int 2))) (.c (.str [32])))) (.seq (.ret (.tup (.cons (.var 2) (.cons (.call 39 (.cons (.var 3) (.nil))) (.cons (.call 39 (.cons (.var 5) (.nil))) (.cons (.var 6) (.cons (.var 8) (.nil)))))))) (.skip))))))⟩
def n42 : List Str := sL ["text", "parts", "changes", "left", "gap", "right", "way", "blank", "force", "word"]
/-- rule_from(n, text) -/
def f43 : FE := .code ⟨2, 3, .seq (.asg (.name 2) (.call 42 (.cons (.var 1) (.nil)))) (.seq (.ret (.ite (.and (.cmp 9 (.var 2) (.c (.non))) (.and (.tv (.call 31 (.cons (.var 0) (.cons (.var 2) (.nil))))) (.one (.cmp 4 (.call 6 (.cons (.var 2) (.nil))) (.var 1))))) (.var 2) (.c (.non)))) (.skip))⟩
def n43 : List Str := sL ["n", "text", "found"]
/-- cascade_from(text) -/
def f44 : FE := .code ⟨1, 5, .seq (.asg (.name 1) (.m1 1 (.var 0) (.c (.str [32, 59, 32])))) (.seq (.par2 2 3 [false, false] (.cons (.call 35 (.cons (.ix (.var 1) (.c (.int 0))) (.nil))) (.cons (.call 34 (.cons (.lc (.name 4) [4] (.seq (.cutL (.var 1) (.c (.int 1)))) (.c (.bl true)) (.call 42 (.cons (.var 4) (.nil)))) (.nil))) (.nil)))) (.seq (.iff (.or (.cmp 8 (.var 2) (.c (.non))) (.or (.cmp 8 (.var 3) (.c (.non))) (.one (.not (.tv (.call 32 (.cons (.tup (.cons (.var 2) (.cons (.var 3) (.nil)))) (.nil)))))))) (.seq (.ret (.c (.non))) (.skip)) (.skip)) (.seq (.ret (.ite (.cmp 4 (.call 7 (.cons (.tup (.cons (.var 2) (.cons (.var 3) (.nil)))) (.nil))) (.var 0)) (.tup (.cons (.var 2) (.cons (.var 3) (.nil)))) (.c (.non)))) (.skip))))⟩
def n44 : List Str := sL ["text", "parts", "n", "rules", "part"]
/-- step_from(word) -/
def f45 : FE := .code ⟨1, 2, .seq (.asg (.name 1) (.call 35 (.cons (.cutL (.var 0) (.c (.int 1))) (.nil)))) (.seq (.ret (.ite (.cmp 8 (.var 1) (.c (.non))) (.c (.non)) (.tup (.cons (.ix (.var 0) (.c (.int 0))) (.cons (.var 1) (.nil)))))) (.skip))⟩
def n45 : List Str := sL ["word", "number"]
/-- place_from(text) -/
def f46 : FE := .code ⟨1, 4, .seq (.asg (.name 1) (.m1 1 (.var 0) (.c (.str [32])))) (.seq (.asg (.name 2) (.call 34 (.cons (.lc (.name 3) [3] (.seq (.cutL (.var 1) (.c (.int 1)))) (.c (.bl true)) (.call 45 (.cons (.var 3) (.nil)))) (.nil)))) (.seq (.ret (.ite (.and (.cmp 9 (.var 2) (.c (.non))) (.one (.cmp 6 (.ix (.var 1) (.c (.int 0))) (.tup (.cons (.c (.str [48])) (.cons (.c (.str [49])) (.nil))))))) (.tup (.cons (.cmp 4 (.ix (.var 1) (.c (.int 0))) (.c (.str [49]))) (.cons (.var 2) (.nil)))) (.c (.non)))) (.skip)))⟩
def n46 : List Str := sL ["text", "words", "steps", "word"]
/-- machine_from(text) -/
def f47 : FE := .code ⟨1, 5, .seq (.asg (.name 1) (.m1 1 (.var 0) (.c (.str [32, 59, 32])))) (.seq (.par2 2 3 [false, false] (.cons (.call 35 (.cons (.ix (.var 1) (.c (.int 0))) (.nil))) (.cons (.call 34 (.cons (.lc (.name 4) [4] (.seq (.cutL (.var 1) (.c (.int 1)))) (.c (.bl true)) (.call 46 (.cons (.var 4) (.nil)))) (.nil))) (.nil)))) (.seq (.iff (.or (.cmp 8 (.var 2) (.c (.non))) (.or (.cmp 8 (.var 3) (.c (.non))) (.one (.not (.tv (.call 22 (.cons (.tup (.cons (.var 2) (.cons (.var 3) (.nil)))) (.nil)))))))) (.seq (.ret (.c (.non))) (.skip)) (.skip)) (.seq (.ret (.ite (.cmp 4 (.call 9 (.cons (.tup (.cons (.var 2) (.cons (.var 3) (.nil)))) (.nil))) (.var 0)) (.tup (.cons (.var 2) (.cons (.var 3) (.nil)))) (.c (.non)))) (.skip))))⟩
def n47 : List Str := sL ["text", "parts", "n", "places", "part"]
/-- needed(found, text) -/
def f48 : FE := .code ⟨2, 2, .seq (.iff (.cmp 8 (.var 0) (.c (.non))) (.seq (.raise 2 (.call 16 (.cons (.var 1) (.nil)))) (.skip)) (.skip)) (.seq (.ret (.var 0)) (.skip))⟩
def n48 : List Str := sL ["found", "text"]
/-- read_by(kind, text) -/
def f49 : FE := .code ⟨2, 2, .seq (.ret (.call 48 (.cons (.ite (.tv (.isi 1 (.var 1))) (.callL 0 (.cons (.var 1) (.nil))) (.c (.non))) (.cons (.var 1) (.nil))))) (.skip)⟩
def n49 : List Str := sL ["kind", "text"]
/-- read_with(kind, n, text) -/
def f50 : FE := .code ⟨3, 3, .seq (.expr (.call 19 (.cons (.var 1) (.nil)))) (.seq (.ret (.call 48 (.cons (.ite (.tv (.isi 1 (.var 2))) (.callL 0 (.cons (.var 1) (.cons (.var 2) (.nil)))) (.c (.non))) (.cons (.var 2) (.nil))))) (.skip))⟩
def n50 : List Str := sL ["kind", "n", "text"]
/-- read_word(n, text) -/
def f51 : FE := .code ⟨2, 2, .seq (.ret (.call 50 (.cons (.g 99) (.cons (.var 0) (.cons (.var 1) (.nil)))))) (.skip)⟩
def n51 : List Str := sL ["n", "text"]
/-- read_pattern(n, text) -/
def f52 : FE := .code ⟨2, 2, .seq (.ret (.call 50 (.cons (.g 72) (.cons (.var 0) (.cons (.var 1) (.nil)))))) (.skip)⟩
def n52 : List Str := sL ["n", "text"]
/-- read_rule(n, text) -/
def f53 : FE := .code ⟨2, 2, .seq (.ret (.call 50 (.cons (.g 86) (.cons (.var 0) (.cons (.var 1) (.nil)))))) (.skip)⟩
def n53 : List Str := sL ["n", "text"]
/-- read_cascade(text) -/
def f54 : FE := .code ⟨1, 1, .seq (.ret (.call 49 (.cons (.g 35) (.cons (.var 0) (.nil))))) (.skip)⟩
def n54 : List Str := sL ["text"]
/-- read_machine(text) -/
def f55 : FE := .code ⟨1, 1, .seq (.ret (.call 49 (.cons (.g 66) (.cons (.var 0) (.nil))))) (.skip)⟩
def n55 : List Str := sL ["text"]
/-- _law_well(script, k) -/
def f56 : FE := .code ⟨2, 6, .seq (.asg (.name 2) (.ite (.cmp 0 (.var 1) (.u1 0 (.var 0))) (.u1 9 (.ix (.var 0) (.var 1))) (.bin 0 (.bin 2 (.c (.int 71)) (.var 1)) (.c (.int 37))))) (.seq (.asg (.name 3) (.bin 0 (.c (.int 29)) (.u1 0 (.var 0)))) (.seq (.for (.name 4) (.seq (.var 0)) (.seq (.asg (.name 3) (.bin 4 (.u1 9 (.bin 0 (.bin 2 (.var 3) (.c (.int 5323))) (.bin 4 (.u1 9 (.var 4)) (.bin 0 (.bin 5 (.c (.int 10)) (.c (.int 19))) (.c (.int 51)))))) (.bin 0 (.bin 5 (.c (.int 10)) (.c (.int 25))) (.c (.int 13))))) (.skip))) (.seq (.asg (.name 5) (.bin 4 (.u1 9 (.bin 0 (.bin 0 (.bin 0 (.bin 2 (.u1 10 (.var 2)) (.c (.int 7129))) (.bin 2 (.var 3) (.c (.int 41)))) (.bin 2 (.c (.int 3)) (.u1 9 (.cmp 0 (.var 2) (.c (.int 0)))))) (.bin 2 (.c (.int 61)) (.var 1)))) (.bin 0 (.bin 5 (.c (.int 10)) (.c (.int 28))) (.c (.int 331))))) (.seq (.ret (.lstc (.cons (.u2 0 (.c (.int 0)) (.bin 1 (.u1 10 (.var 2)) (.bin 5 (.c (.int 10)) (.c (.int 18))))) (.cons (.var 5) (.cons (.c (.int 0)) (.nil)))))) (.skip)))))⟩
def n56 : List Str := sL ["script", "k", "cell", "whole", "part", "mixed"]
/-- _law_draw(well, many) -/
def f57 : FE := .code ⟨2, 5, .seq (.iff (.cmp 2 (.ix (.var 0) (.c (.int 0))) (.c (.int 0))) (.seq (.asg (.name 4) (.bin 4 (.u1 9 (.ix (.var 0) (.c (.int 0)))) (.var 1))) (.seq (.put 0 (.bin 3 (.ix (.var 0) (.c (.int 0))) (.var 1)) (.c (.int 0))) (.seq (.ret (.var 4)) (.skip)))) (.skip)) (.seq (.put 0 (.bin 0 (.ix (.var 0) (.c (.int 2))) (.c (.int 1))) (.c (.int 2))) (.seq (.asg (.name 2) (.ix (.var 0) (.c (.int 2)))) (.seq (.asg (.name 3) (.bin 4 (.u1 9 (.bin 0 (.bin 0 (.bin 2 (.bin 2 (.bin 0 (.ix (.var 0) (.c (.int 1))) (.c (.int 31))) (.bin 0 (.var 2) (.c (.int 5)))) (.c (.int 998244353))) (.bin 2 (.bin 2 (.bin 2 (.var 2) (.var 2)) (.var 2)) (.c (.int 424242427)))) (.c (.int 77)))) (.bin 0 (.bin 5 (.c (.int 10)) (.c (.int 29))) (.c (.int 319))))) (.seq (.asg (.name 3) (.bin 4 (.u1 9 (.bin 0 (.bin 0 (.bin 2 (.var 3) (.var 3)) (.bin 2 (.ix (.var 0) (.c (.int 1))) (.c (.int 7)))) (.var 2))) (.bin 0 (.bin 5 (.c (.int 10)) (.c (.int 31))) (.c (.int 33))))) (.seq (.asg (.name 3) (.bin 4 (.u1 9 (.bin 0 (.bin 2 (.bin 2 (.var 3) (.var 3)) (.c (.int 3))) (.bin 2 (.var 3) (.c (.int 11))))) (.bin 0 (.bin 5 (.c (.int 10)) (.c (.int 33))) (.c (.int 603))))) (.seq (.ret (.bin 4 (.u1 9 (.bin 3 (.var 3) (.c (.int 50021)))) (.var 1))) (.skip)))))))⟩
def n57 : List Str := sL ["well", "many", "step", "mixed", "found"]
/-- _law_letters(well, n) -/
def f58 : FE := .code ⟨2, 4, .seq (.asg (.name 2) (.m1 0 (.c (.str [])) (.lc (.name 3) [3] (.seq (.cutH (.c (.str [97, 98, 99, 100, 101, 102, 103, 104, 105, 106, 107, 108])) (.var 1))) (.t1 (.cmp 4 (.call 57 (.cons (.var 0) (.cons (.c (.int 2)) (.nil)))) (.c (.int 0)))) (.var 3)))) (.seq (.ret (.ite (.cmp 5 (.var 2) (.c (.str []))) (.var 2) (.ix (.c (.str [97, 98, 99, 100, 101, 102, 103, 104, 105, 106, 107, 108])) (.call 57 (.cons (.var 0) (.cons (.var 1) (.nil))))))) (.skip))⟩
def n58 : List Str := sL ["well", "n", "found", "letter"]
/-- _law_row(well, n, side, most) -/
def f59 : FE := .code ⟨4, 7, .seq (.own 4 (.lst (.nil))) (.seq (.for (.name 5) (.rng 1 (.cons (.call 57 (.cons (.var 0) (.cons (.bin 0 (.var 3) (.c (.int 1))) (.nil)))) (.nil))) (.seq (.app 4 (.cons (.tup (.cons (.ix (.lst (.cons (.c (.str [111, 110, 101])) (.cons (.c (.str [111, 110, 101])) (.cons (.c (.str [109, 97, 121, 98, 101])) (.cons (.c (.str [97, 110, 121])) (.nil)))))) (.call 57 (.cons (.var 0) (.cons (.c (.int 4)) (.nil))))) (.cons (.call 58 (.cons (.var 0) (.cons (.var 1) (.nil)))) (.nil)))) (.nil))) (.skip))) (.seq (.asg (.name 6) (.ite (.and (.cmp 4 (.call 57 (.cons (.var 0) (.cons (.c (.int 4)) (.nil)))) (.c (.int 0))) (.one (.cmp 5 (.var 2) (.c (.str [98, 111, 116, 104]))))) (.lst (.cons (.tup (.cons (.c (.str [101, 100, 103, 101])) (.nil))) (.nil))) (.lst (.nil)))) (.seq (.ret (.u1 1 (.ite (.cmp 4 (.var 2) (.c (.str [108, 101, 102, 116]))) (.bin 0 (.var 6) (.bor 4)) (.bin 0 (.bor 4) (.var 6))))) (.skip))))⟩
def n59 : List Str := sL ["well", "n", "side", "most", "items", "turn", "edge"]
/-- _law_pattern(well, n, side, rows, most) -/
def f60 : FE := .code ⟨5, 6, .seq (.ret (.u1 1 (.lc (.name 5) [5] (.rng 1 (.cons (.bin 0 (.c (.int 1)) (.call 57 (.cons (.var 0) (.cons (.var 3) (.nil))))) (.nil))) (.c (.bl true)) (.call 59 (.cons (.var 0) (.cons (.var 1) (.cons (.var 2) (.cons (.var 4) (.nil))))))))) (.skip)⟩
def n60 : List Str := sL ["well", "n", "side", "rows", "most", "turn"]
/-- _law_machine(well, n, most) -/
def f61 : FE := .code ⟨3, 8, .seq (.par2 4 5 [false, true] (.cons (.ix (.lst (.cons (.call 57 (.cons (.var 0) (.cons (.bin 0 (.var 2) (.c (.int 1))) (.nil)))) (.cons (.var 2) (.cons (.var 2) (.cons (.u2 0 (.c (.int 1)) (.bin 1 (.var 2) (.c (.int 1)))) (.nil)))))) (.call 57 (.cons (.var 0) (.cons (.c (.int 4)) (.nil))))) (.cons (.lst (.nil)) (.nil)))) (.seq (.for (.name 3) (.rng 1 (.cons (.var 4) (.nil))) (.seq (.own 6 (.lst (.nil))) (.seq (.for (.name 7) (.seq (.cutH (.c (.str [97, 98, 99, 100, 101, 102, 103, 104, 105, 106, 107, 108])) (.var 1))) (.seq (.iff (.cmp 2 (.call 57 (.cons (.var 0) (.cons (.c (.int 4)) (.nil)))) (.c (.int 0))) (.seq (.app 6 (.cons (.tup (.cons (.var 7) (.cons (.call 57 (.cons (.var 0) (.cons (.var 4) (.nil)))) (.nil)))) (.nil))) (.skip)) (.skip)) (.skip))) (.seq (.app 5 (.cons (.tup (.cons (.cmp 4 (.call 57 (.cons (.var 0) (.cons (.c (.int 2)) (.nil)))) (.c (.int 0))) (.cons (.u1 1 (.bor 6)) (.nil)))) (.nil))) (.skip))))) (.seq (.ret (.tup (.cons (.var 1) (.cons (.u1 1 (.bor 5)) (.nil))))) (.skip)))⟩
def n61 : List Str := sL ["well", "n", "most", "place", "many", "places", "steps", "letter"]
/-- _law_any_rule(well, n) -/
def f62 : FE := .code ⟨2, 11, .seq (.par2 6 7 [true, false] (.cons (.dnew) (.cons (.cutH (.c (.str [97, 98, 99, 100, 101, 102, 103, 104, 105, 106, 107, 108])) (.var 1)) (.nil)))) (.seq (.for (.name 2) (.rng 1 (.cons (.bin 0 (.c (.int 1)) (.call 57 (.cons (.var 0) (.cons (.c (.int 3)) (.nil))))) (.nil))) (.seq (.asg (.name 8) (.ite (.cmp 2 (.call 57 (.cons (.var 0) (.cons (.c (.int 4)) (.nil)))) (.c (.int 0))) (.ix (.var 7) (.call 57 (.cons (.var 0) (.cons (.var 1) (.nil))))) (.c (.str [])))) (.seq (.asg (.name 9) (.m1 0 (.c (.str [])) (.lc (.name 10) [10] (.rng 1 (.cons (.call 57 (.cons (.var 0) (.cons (.c (.int 3)) (.nil)))) (.nil))) (.c (.bl true)) (.ix (.var 7) (.call 57 (.cons (.var 0) (.cons (.var 1) (.nil)))))))) (.seq (.iff (.cmp 5 (.var 9) (.var 8)) (.seq (.put 6 (.var 9) (.var 8)) (.skip)) (.skip)) (.skip))))) (.seq (.iff (.cmp 4 (.bor 6) (.dnew)) (.seq (.put 6 (.c (.str [])) (.c (.str [97]))) (.skip)) (.skip)) (.seq (.frz 6) (.seq (.asg (.name 3) (.u1 1 (.u1 13 (.lc (.name 8) [8] (.walk .keys (.var 6)) (.c (.bl true)) (.tup (.cons (.var 8) (.cons (.ix (.var 6) (.var 8)) (.nil)))))))) (.seq (.asg (.name 4) (.lst (.cons (.call 60 (.cons (.var 0) (.cons (.var 1) (.cons (.c (.str [108, 101, 102, 116])) (.cons (.c (.int 3)) (.cons (.c (.int 3)) (.nil))))))) (.cons (.call 60 (.cons (.var 0) (.cons (.var 1) (.cons (.c (.str [114, 105, 103, 104, 116])) (.cons (.c (.int 3)) (.cons (.c (.int 3)) (.nil))))))) (.nil))))) (.seq (.asg (.name 5) (.ix (.lst (.cons (.c (.str [97, 116, 32, 111, 110, 99, 101])) (.cons (.c (.str [111, 110, 119, 97, 114, 100])) (.cons (.c (.str [98, 97, 99, 107, 119, 97, 114, 100])) (.nil))))) (.call 57 (.cons (.var 0) (.cons (.c (.int 3)) (.nil)))))) (.seq (.ret (.tup (.cons (.var 3) (.cons (.ix (.var 4) (.c (.int 0))) (.cons (.ix (.var 4) (.c (.int 1))) (.cons (.var 5) (.cons (.ix (.lst (.cons (.c (.str [109, 117, 115, 116])) (.cons (.c (.str [109, 97, 121])) (.nil)))) (.call 57 (.cons (.var 0) (.cons (.c (.int 2)) (.nil))))) (.nil)))))))) (.skip))))))))⟩
def n62 : List Str := sL ["well", "n", "turn", "changes", "sides", "way", "rows", "letters", "letter", "text", "at"]
/-- _law_word_text(word) -/
def f63 : FE := .code ⟨1, 1, .seq (.ret (.ite (.cmp 5 (.var 0) (.c (.str []))) (.var 0) (.c (.str [46])))) (.skip)⟩
def n63 : List Str := sL ["word"]
/-- _law_pattern_text(pattern) -/
def f64 : FE := .code ⟨1, 6, .seq (.par2 2 3 [true, false] (.cons (.lst (.nil)) (.cons (.dlit [(.s [111, 110, 101], .str []), (.s [109, 97, 121, 98, 101], .str [63]), (.s [97, 110, 121], .str [42])]) (.nil)))) (.seq (.for (.name 1) (.seq (.var 0)) (.seq (.setLc false 4 (.lc (.name 5) [5] (.seq (.var 1)) (.c (.bl true)) (.ite (.cmp 4 (.u1 0 (.var 5)) (.c (.int 1))) (.c (.str [35])) (.bin 0 (.ix (.var 5) (.c (.int 1))) (.ix (.var 3) (.ix (.var 5) (.c (.int 0)))))))) (.seq (.app 2 (.cons (.ite (.cmp 5 (.var 4) (.lst (.nil))) (.m1 0 (.c (.str [32])) (.var 4)) (.c (.str [46]))) (.nil))) (.skip)))) (.seq (.ret (.m1 0 (.c (.str [32, 124, 32])) (.bor 2))) (.skip)))⟩
def n64 : List Str := sL ["pattern", "row", "rows", "signs", "items", "item"]
/-- _law_rule_text(rule) -/
def f65 : FE := .code ⟨1, 5, .seq (.asg (.name 1) (.m1 0 (.c (.str [32])) (.lc (.tup (.cons (.name 3) (.cons (.name 4) (.nil)))) [3, 4] (.seq (.ix (.var 0) (.c (.int 0)))) (.c (.bl true)) (.bin 0 (.bin 0 (.var 3) (.c (.str [62]))) (.call 63 (.cons (.var 4) (.nil))))))) (.seq (.asg (.name 2) (.bin 0 (.bin 0 (.call 64 (.cons (.ix (.var 0) (.c (.int 1))) (.nil))) (.c (.str [32, 95, 32]))) (.call 64 (.cons (.ix (.var 0) (.c (.int 2))) (.nil))))) (.seq (.ret (.bin 0 (.bin 0 (.bin 0 (.bin 0 (.bin 0 (.bin 0 (.var 1) (.c (.str [32, 47, 32]))) (.var 2)) (.c (.str [32, 47, 32]))) (.ix (.var 0) (.c (.int 3)))) (.c (.str [32]))) (.ix (.var 0) (.c (.int 4))))) (.skip)))⟩
def n65 : List Str := sL ["rule", "changes", "sides", "letter", "text"]
/-- _law_machine_text(machine) -/
def f66 : FE := .code ⟨1, 6, .seq (.own 1 (.lst (.cons (.u1 8 (.ix (.var 0) (.c (.int 0)))) (.nil)))) (.seq (.for (.tup (.cons (.name 2) (.cons (.name 3) (.nil)))) (.seq (.ix (.var 0) (.c (.int 1)))) (.seq (.app 1 (.cons (.m1 0 (.c (.str [32])) (.bin 0 (.lst (.cons (.u1 8 (.u1 9 (.var 2))) (.nil))) (.lc (.tup (.cons (.name 4) (.cons (.name 5) (.nil)))) [4, 5] (.seq (.var 3)) (.c (.bl true)) (.bin 0 (.var 4) (.u1 8 (.var 5)))))) (.nil))) (.skip))) (.seq (.ret (.m1 0 (.c (.str [32, 59, 32])) (.bor 1))) (.skip)))⟩
def n66 : List Str := sL ["machine", "parts", "ends", "steps", "letter", "after"]
/-- _law_word(well, n, most) -/
def f67 : FE := .code ⟨3, 4, .seq (.ret (.m1 0 (.c (.str [])) (.lc (.name 3) [3] (.rng 1 (.cons (.call 57 (.cons (.var 0) (.cons (.bin 0 (.var 2) (.c (.int 1))) (.nil)))) (.nil))) (.c (.bl true)) (.ix (.c (.str [97, 98, 99, 100, 101, 102, 103, 104, 105, 106, 107, 108])) (.call 57 (.cons (.var 0) (.cons (.var 1) (.nil)))))))) (.skip)⟩
def n67 : List Str := sL ["well", "n", "most", "at"]
/-- _law_words_right(well, n) -/
def f68 : FE := .code ⟨2, 8, .seq (.par2 5 6 [false, false] (.cons (.call 67 (.cons (.var 0) (.cons (.var 1) (.cons (.ix (.lst (.cons (.c (.int 3)) (.cons (.c (.int 60)) (.nil)))) (.call 57 (.cons (.var 0) (.cons (.c (.int 2)) (.nil))))) (.nil))))) (.cons (.call 67 (.cons (.var 0) (.cons (.var 1) (.cons (.c (.int 3)) (.nil))))) (.nil)))) (.seq (.asg (.name 2) (.call 63 (.cons (.var 5) (.nil)))) (.seq (.iff (.cmp 5 (.u1 12 (.lst (.cons (.call 1 (.cons (.var 5) (.nil))) (.cons (.callK1 1 (.var 5)) (.nil))))) (.u1 12 (.lst (.cons (.var 2) (.cons (.var 2) (.nil)))))) (.seq (.ret (.c (.bl false))) (.skip)) (.skip)) (.seq (.iff (.cmp 5 (.u1 12 (.lst (.cons (.call 51 (.cons (.var 1) (.cons (.var 2) (.nil)))) (.cons (.callK2 51 (.var 2) (.var 1)) (.nil))))) (.u1 12 (.lst (.cons (.var 5) (.cons (.var 5) (.nil)))))) (.seq (.ret (.c (.bl false))) (.skip)) (.skip)) (.seq (.asg (.name 3) (.lst (.cons (.var 5) (.cons (.var 6) (.cons (.c (.str [])) (.cons (.var 6) (.nil))))))) (.seq (.asg (.name 4) (.m1 0 (.c (.str [32])) (.lc (.name 7) [7] (.seq (.var 3)) (.c (.bl true)) (.call 63 (.cons (.var 7) (.nil)))))) (.seq (.iff (.cmp 5 (.u1 12 (.lst (.cons (.call 2 (.cons (.var 3) (.nil))) (.cons (.callK1 2 (.u1 1 (.var 3))) (.nil))))) (.u1 12 (.lst (.cons (.var 4) (.cons (.var 4) (.nil)))))) (.seq (.ret (.c (.bl false))) (.skip)) (.skip)) (.seq (.ret (.cmp 4 (.cmp 4 (.call 1 (.cons (.var 6) (.nil))) (.var 2)) (.cmp 4 (.var 5) (.var 6)))) (.skip))))))))⟩
def n68 : List Str := sL ["well", "n", "text", "row", "due", "word", "other", "own"]
/-- _law_patterns_right(well, n) -/
def f69 : FE := .code ⟨2, 6, .seq (.asg (.name 2) (.ix (.lst (.cons (.c (.str [108, 101, 102, 116])) (.cons (.c (.str [114, 105, 103, 104, 116])) (.nil)))) (.call 57 (.cons (.var 0) (.cons (.c (.int 2)) (.nil)))))) (.seq (.par2 4 5 [false, false] (.cons (.call 60 (.cons (.var 0) (.cons (.var 1) (.cons (.var 2) (.cons (.c (.int 4)) (.cons (.c (.int 5)) (.nil))))))) (.cons (.call 60 (.cons (.var 0) (.cons (.var 1) (.cons (.var 2) (.cons (.c (.int 2)) (.cons (.c (.int 2)) (.nil))))))) (.nil)))) (.seq (.asg (.name 3) (.call 64 (.cons (.var 4) (.nil)))) (.seq (.iff (.cmp 5 (.u1 12 (.lst (.cons (.call 5 (.cons (.var 4) (.nil))) (.cons (.callK1 5 (.var 4)) (.nil))))) (.u1 12 (.lst (.cons (.var 3) (.cons (.var 3) (.nil)))))) (.seq (.ret (.c (.bl false))) (.skip)) (.skip)) (.seq (.iff (.cmp 5 (.u1 12 (.lst (.cons (.call 52 (.cons (.var 1) (.cons (.var 3) (.nil)))) (.cons (.callK2 52 (.var 3) (.var 1)) (.nil))))) (.u1 12 (.lst (.cons (.var 4) (.cons (.var 4) (.nil)))))) (.seq (.ret (.c (.bl false))) (.skip)) (.skip)) (.seq (.ret (.cmp 4 (.cmp 4 (.call 5 (.cons (.var 5) (.nil))) (.var 3)) (.cmp 4 (.u1 12 (.var 5)) (.u1 12 (.var 4))))) (.skip))))))⟩
def n69 : List Str := sL ["well", "n", "side", "text", "pattern", "other"]
/-- _law_rules_right(well, n) -/
def f70 : FE := .code ⟨2, 7, .seq (.setLc false 2 (.lc (.name 6) [6] (.rng 1 (.cons (.call 57 (.cons (.var 0) (.cons (.c (.int 5)) (.nil)))) (.nil))) (.c (.bl true)) (.call 62 (.cons (.var 0) (.cons (.var 1) (.nil)))))) (.seq (.for (.name 3) (.seq (.var 2)) (.seq (.asg (.name 5) (.call 65 (.cons (.var 3) (.nil)))) (.seq (.iff (.cmp 5 (.u1 12 (.lst (.cons (.call 6 (.cons (.var 3) (.nil))) (.cons (.callK1 6 (.var 3)) (.nil))))) (.u1 12 (.lst (.cons (.var 5) (.cons (.var 5) (.nil)))))) (.seq (.ret (.c (.bl false))) (.skip)) (.skip)) (.seq (.iff (.cmp 5 (.u1 12 (.lst (.cons (.call 53 (.cons (.var 1) (.cons (.var 5) (.nil)))) (.cons (.callK2 53 (.var 5) (.var 1)) (.nil))))) (.u1 12 (.lst (.cons (.var 3) (.cons (.var 3) (.nil)))))) (.seq (.ret (.c (.bl false))) (.skip)) (.skip)) (.skip))))) (.seq (.asg (.name 4) (.tup (.cons (.var 1) (.cons (.u1 1 (.var 2)) (.nil))))) (.seq (.asg (.name 5) (.m1 0 (.c (.str [32, 59, 32])) (.bin 0 (.lst (.cons (.u1 8 (.var 1)) (.nil))) (.lc (.name 3) [3] (.seq (.var 2)) (.c (.bl true)) (.call 65 (.cons (.var 3) (.nil))))))) (.seq (.iff (.cmp 5 (.u1 12 (.lst (.cons (.call 7 (.cons (.var 4) (.nil))) (.cons (.callK1 7 (.var 4)) (.nil))))) (.u1 12 (.lst (.cons (.var 5) (.cons (.var 5) (.nil)))))) (.seq (.ret (.c (.bl false))) (.skip)) (.skip)) (.seq (.iff (.cmp 5 (.u1 12 (.lst (.cons (.call 54 (.cons (.var 5) (.nil))) (.cons (.callK1 54 (.var 5)) (.nil))))) (.u1 12 (.lst (.cons (.var 4) (.cons (.var 4) (.nil)))))) (.seq (.ret (.c (.bl false))) (.skip)) (.skip)) (.seq (.ret (.or (.cmp 5 (.call 7 (.cons (.tup (.cons (.var 1) (.cons (.u1 1 (.cutL (.var 2) (.c (.int 1)))) (.nil)))) (.nil))) (.var 5)) (.one (.cmp 4 (.var 2) (.lst (.nil)))))) (.skip)))))))⟩
def n70 : List Str := sL ["well", "n", "rules", "rule", "cascade", "text", "turn"]
/-- _law_machines_right(well, n) -/
def f71 : FE := .code ⟨2, 5, .seq (.par2 3 4 [false, false] (.cons (.call 61 (.cons (.var 0) (.cons (.var 1) (.cons (.c (.int 12)) (.nil))))) (.cons (.call 61 (.cons (.var 0) (.cons (.var 1) (.cons (.c (.int 2)) (.nil))))) (.nil)))) (.seq (.asg (.name 2) (.call 66 (.cons (.var 3) (.nil)))) (.seq (.iff (.cmp 5 (.u1 12 (.lst (.cons (.call 9 (.cons (.var 3) (.nil))) (.cons (.callK1 9 (.var 3)) (.nil))))) (.u1 12 (.lst (.cons (.var 2) (.cons (.var 2) (.nil)))))) (.seq (.ret (.c (.bl false))) (.skip)) (.skip)) (.seq (.iff (.cmp 5 (.u1 12 (.lst (.cons (.call 55 (.cons (.var 2) (.nil))) (.cons (.callK1 55 (.var 2)) (.nil))))) (.u1 12 (.lst (.cons (.var 3) (.cons (.var 3) (.nil)))))) (.seq (.ret (.c (.bl false))) (.skip)) (.skip)) (.seq (.ret (.cmp 4 (.cmp 4 (.call 9 (.cons (.var 4) (.nil))) (.var 2)) (.cmp 4 (.u1 12 (.var 4)) (.u1 12 (.var 3))))) (.skip)))))⟩
def n71 : List Str := sL ["well", "n", "text", "machine", "other"]
/-- law(script) -/
def f72 : FE := .code ⟨1, 4, .seq (.for (.name 1) (.rng 1 (.cons (.u2 0 (.c (.int 1)) (.u2 1 (.c (.int 6)) (.u1 0 (.var 0)))) (.nil))) (.seq (.asg (.name 2) (.call 56 (.cons (.var 0) (.cons (.var 1) (.nil))))) (.seq (.asg (.name 3) (.ix (.lst (.cons (.c (.int 1)) (.cons (.c (.int 2)) (.cons (.c (.int 2)) (.cons (.c (.int 3)) (.cons (.c (.int 4)) (.cons (.c (.int 12)) (.nil)))))))) (.call 57 (.cons (.var 2) (.cons (.c (.int 6)) (.nil)))))) (.seq (.iff (.or (.not (.tv (.call 68 (.cons (.var 2) (.cons (.var 3) (.nil)))))) (.one (.not (.tv (.call 69 (.cons (.var 2) (.cons (.var 3) (.nil)))))))) (.seq (.ret (.c (.bl false))) (.skip)) (.skip)) (.seq (.iff (.or (.not (.tv (.call 70 (.cons (.var 2) (.cons (.var 3) (.nil)))))) (.one (.not (.tv (.call 71 (.cons (.var 2) (.cons (.var 3) (.nil)))))))) (.seq (.ret (.c (.bl false))) (.skip)) (.skip)) (.skip)))))) (.seq (.ret (.c (.bl true))) (.skip))⟩
def n72 : List Str := sL ["script", "k", "well", "n"]
def F0 : List FE := [f0, f1, f2, f3, f4, f5, f6, f7, f8, f9, f10, f11, f12, f13, f14, f15, f16, f17, f18, f19, f20, f21, f22, f23, f24, f25, f26, f27, f28, f29, f30, f31, f32, f33, f34, f35, f36, f37, f38, f39, f40, f41, f42, f43, f44, f45, f46, f47, f48, f49, f50, f51, f52, f53, f54, f55, f56, f57, f58, f59, f60, f61, f62, f63, f64, f65, f66, f67, f68, f69, f70, f71, f72]
def N0 : List (List Str) := [n0, n1, n2, n3, n4, n5, n6, n7, n8, n9, n10, n11, n12, n13, n14, n15, n16, n17, n18, n19, n20, n21, n22, n23, n24, n25, n26, n27, n28, n29, n30, n31, n32, n33, n34, n35, n36, n37, n38, n39, n40, n41, n42, n43, n44, n45, n46, n47, n48, n49, n50, n51, n52, n53, n54, n55, n56, n57, n58, n59, n60, n61, n62, n63, n64, n65, n66, n67, n68, n69, n70, n71, n72]
def chk (i : Nat) : Bool := match F0[i]?, N0[i]?, D0[i]? with
  | some f, some N, some d => ckLit G0 R0 N f d
  | _, _, _ => false
end K73
end
section
set_option maxRecDepth 100000
namespace K73
open PySem PySem.Spec PyProof.Rows L2 Tg
theorem lits : ckLits G0 R0 N0 F0 D0 = true := by decide +kernel
def isCode : FE → Bool
  | .code _ => true
  | .ext _ => false
theorem codes : F0.all isCode = true := by decide +kernel
end K73
end
section
namespace K73
abbrev j_ALPHABET : Nat := 0
abbrev j_DIGITS : Nat := 1
abbrev j_EDGE : Nat := 2
abbrev j_FORCES : Nat := 3
abbrev j_KINDS_finding : Nat := 4
abbrev j_KINDS_patterns : Nat := 5
abbrev j_MARKS : Nat := 6
abbrev j_MOST_DIGITS : Nat := 7
abbrev j_MOST_ITEMS : Nat := 8
abbrev j_MOST_ROWS : Nat := 9
abbrev j_MOST_RULES : Nat := 10
abbrev j_MOST_TEXT : Nat := 11
abbrev j_WAYS : Nat := 12
abbrev j__law_any_rule : Nat := 13
abbrev j__law_draw : Nat := 14
abbrev j__law_letters : Nat := 15
abbrev j__law_machine : Nat := 16
abbrev j__law_machine_text : Nat := 17
abbrev j__law_machines_right : Nat := 18
abbrev j__law_pattern : Nat := 19
abbrev j__law_pattern_text : Nat := 20
abbrev j__law_patterns_right : Nat := 21
abbrev j__law_row : Nat := 22
abbrev j__law_rule_text : Nat := 23
abbrev j__law_rules_right : Nat := 24
abbrev j__law_well : Nat := 25
abbrev j__law_word : Nat := 26
abbrev j__law_word_text : Nat := 27
abbrev j__law_words_right : Nat := 28
abbrev j_abs : Nat := 29
abbrev j_all : Nat := 30
abbrev j_all_or_none : Nat := 31
abbrev j_anew : Nat := 32
abbrev j_are_changes : Nat := 33
abbrev j_bool : Nat := 34
abbrev j_cascade_from : Nat := 35
abbrev j_change_from : Nat := 36
abbrev j_int : Nat := 37
abbrev j_integer_from : Nat := 38
abbrev j_is_between : Nat := 39
abbrev j_is_cascade : Nat := 40
abbrev j_is_change : Nat := 41
abbrev j_is_edge : Nat := 42
abbrev j_is_integer : Nat := 43
abbrev j_is_letter_item : Nat := 44
abbrev j_is_letters : Nat := 45
abbrev j_is_machine : Nat := 46
abbrev j_is_one_of : Nat := 47
abbrev j_is_pattern : Nat := 48
abbrev j_is_pattern_of : Nat := 49
abbrev j_is_place : Nat := 50
abbrev j_is_rising : Nat := 51
abbrev j_is_row : Nat := 52
abbrev j_is_rule : Nat := 53
abbrev j_is_rule_of : Nat := 54
abbrev j_is_text : Nat := 55
abbrev j_is_tuple : Nat := 56
abbrev j_is_word : Nat := 57
abbrev j_isinstance : Nat := 58
abbrev j_item_from : Nat := 59
abbrev j_item_text : Nat := 60
abbrev j_law : Nat := 61
abbrev j_len : Nat := 62
abbrev j_letters_of : Nat := 63
abbrev j_list : Nat := 64
abbrev j_listed : Nat := 65
abbrev j_machine_from : Nat := 66
abbrev j_max : Nat := 67
abbrev j_min : Nat := 68
abbrev j_need_n : Nat := 69
abbrev j_needed : Nat := 70
abbrev j_number_from : Nat := 71
abbrev j_pattern_from : Nat := 72
abbrev j_pattern_in : Nat := 73
abbrev j_place_from : Nat := 74
abbrev j_place_text : Nat := 75
abbrev j_range : Nat := 76
abbrev j_read_by : Nat := 77
abbrev j_read_cascade : Nat := 78
abbrev j_read_machine : Nat := 79
abbrev j_read_pattern : Nat := 80
abbrev j_read_rule : Nat := 81
abbrev j_read_with : Nat := 82
abbrev j_read_word : Nat := 83
abbrev j_repr : Nat := 84
abbrev j_row_text : Nat := 85
abbrev j_rule_from : Nat := 86
abbrev j_rule_in : Nat := 87
abbrev j_show_cascade : Nat := 88
abbrev j_show_machine : Nat := 89
abbrev j_show_pattern : Nat := 90
abbrev j_show_rule : Nat := 91
abbrev j_show_word : Nat := 92
abbrev j_show_words : Nat := 93
abbrev j_sorted : Nat := 94
abbrev j_step_from : Nat := 95
abbrev j_str : Nat := 96
abbrev j_text_from : Nat := 97
abbrev j_tuple : Nat := 98
abbrev j_word_from : Nat := 99
abbrev j_zip : Nat := 100
abbrev nF : Nat := 73
end K73
end
section
set_option Elab.async false
set_option linter.all false
set_option autoImplicit false
set_option maxRecDepth 100000
set_option maxHeartbeats 0
namespace K73
open PySem PySem.Spec PyProof.Rows L2 Tg
abbrev C (n : Nat) : CallT := callN G0 R0 F0 n
abbrev Pn (n : Nat) : Px := ⟨C n, nF, G0, R0⟩
theorem cc {i ar nl : Nat} {b : CS} (hF : F0[i]? = some (.code ⟨ar, nl, b⟩)) (n : Nat) (ps : List PV) (S : Store) (hl : ps.length = ar) :
    C (n + 1) i ps S = outF (evS (Pn n) b (startE ps nl) S) := by
  show callN G0 R0 F0 (n + 1) i ps S = _
  unfold callN
  rw [hF]
  simp only
  rw [if_pos hl]
  rfl
/-! ### the parts of the meaning -/
theorem bnd_ok {α β : Type} {a : α} {S : Store} {k : α → Store → Rs β} : (Rs.ok a S).bnd k = k a S := rfl
theorem bnd_bad {α β : Type} {k : α → Store → Rs β} : (Rs.bad : Rs α).bnd k = .bad := rfl
theorem bnd_exc {α β : Type} {c : Nat} {v : PV} {S : Store} {k : α → Store → Rs β} : (Rs.exc c v S : Rs α).bnd k = .exc c v S := rfl
theorem okv_s {v : PV} {S : Store} : okv (some v) S = .ok v S := rfl
theorem onBl_b {b : Bool} {k : Bool → Rs PV} : onBl (.bl b) k = k b := rfl
theorem onI_i {b : Int} {k : Int → Rs PV} : onI (.int b) k = k b := rfl
theorem onS_s {s : List Nat} {k : Rs PV} : onS (.str s) k = k := rfl
theorem onT_s {s : List Nat} {k : List Nat → Rs PV} : onT (.str s) k = k s := rfl
theorem tst_b {b : Bool} {k : Bool → Rs PV} : tst (.bl b) k = k b := rfl
theorem tstS_b {b : Bool} {k : Bool → Rs Fl} : tstS (.bl b) k = k b := rfl
theorem okE_s {ρ : Tg.Env} {S : Store} : okE (some ρ) S = .ok (.nx ρ) S := rfl
theorem outF_rt {v : PV} {S : Store} : outF (.ok (.rt v) S) = .ok v S := rfl
theorem outF_nx {ρ : Tg.Env} {S : Store} : outF (.ok (.nx ρ) S) = .ok .non S := rfl
theorem outF_exc {c : Nat} {v : PV} {S : Store} : outF (.exc c v S) = .exc c v S := rfl
theorem seqK_nx {d : DenS} {ρ : Tg.Env} {S : Store} : seqK d (.nx ρ) S = d ρ S := rfl
theorem seqK_rt {d : DenS} {v : PV} {S : Store} : seqK d (.rt v) S = .ok (.rt v) S := rfl
theorem okL_s {l : List PV} {S : Store} : okL (some l) S = .ok (.lst l) S := rfl
theorem asL_l {l : List PV} : asL (.lst l) = l := rfl
theorem okN0 {v : PV} {S : Store} : okN [] v S = .ok v S := if_pos (by decide)
theorem okN1 {a v : PV} {S : Store} : okN [a] v S = .ok v S := if_pos (show 1 ≤ sizeLine by decide)
theorem okN2 {a b v : PV} {S : Store} : okN [a, b] v S = .ok v S := if_pos (show 2 ≤ sizeLine by decide)
theorem okN3 {a b c v : PV} {S : Store} : okN [a, b, c] v S = .ok v S := if_pos (show 3 ≤ sizeLine by decide)
theorem okN4 {a b c d v : PV} {S : Store} : okN [a, b, c, d] v S = .ok v S := if_pos (show 4 ≤ sizeLine by decide)
theorem okN5 {a b c d e v : PV} {S : Store} : okN [a, b, c, d, e] v S = .ok v S := if_pos (show 5 ≤ sizeLine by decide)
theorem look0 {s : Sl} {r : Tg.Env} : look (s :: r) 0 = s := rfl
theorem lookS {s : Sl} {r : Tg.Env} {i : Nat} : look (s :: r) (i + 1) = look r i := rfl
theorem dVar_v {i : Nat} {ρ : Tg.Env} {S : Store} {v : PV} (h : look ρ i = .val v) : dVar i ρ S = .ok v S := by unfold dVar; rw [h]
theorem v0 {v : PV} {r : Tg.Env} {S : Store} : dVar 0 (.val v :: r) S = .ok v S := rfl
theorem v1 {a : Sl} {v : PV} {r : Tg.Env} {S : Store} : dVar 1 (a :: .val v :: r) S = .ok v S := rfl
theorem v2 {a b : Sl} {v : PV} {r : Tg.Env} {S : Store} : dVar 2 (a :: b :: .val v :: r) S = .ok v S := rfl
theorem v3 {a b c : Sl} {v : PV} {r : Tg.Env} {S : Store} : dVar 3 (a :: b :: c :: .val v :: r) S = .ok v S := rfl
theorem v4 {a b c d : Sl} {v : PV} {r : Tg.Env} {S : Store} : dVar 4 (a :: b :: c :: d :: .val v :: r) S = .ok v S := rfl
theorem v5 {a b c d e : Sl} {v : PV} {r : Tg.Env} {S : Store} : dVar 5 (a :: b :: c :: d :: e :: .val v :: r) S = .ok v S := rfl
theorem v6 {a b c d e f : Sl} {v : PV} {r : Tg.Env} {S : Store} : dVar 6 (a :: b :: c :: d :: e :: f :: .val v :: r) S = .ok v S := rfl
theorem v7 {a b c d e f g : Sl} {v : PV} {r : Tg.Env} {S : Store} : dVar 7 (a :: b :: c :: d :: e :: f :: g :: .val v :: r) S = .ok v S := rfl
theorem v8 {a b c d e f g h : Sl} {v : PV} {r : Tg.Env} {S : Store} : dVar 8 (a :: b :: c :: d :: e :: f :: g :: h :: .val v :: r) S = .ok v S := rfl
theorem v9 {a b c d e f g h i : Sl} {v : PV} {r : Tg.Env} {S : Store} : dVar 9 (a :: b :: c :: d :: e :: f :: g :: h :: i :: .val v :: r) S = .ok v S := rfl
theorem v10 {a b c d e f g h i j : Sl} {v : PV} {r : Tg.Env} {S : Store} : dVar 10 (a :: b :: c :: d :: e :: f :: g :: h :: i :: j :: .val v :: r) S = .ok v S := rfl
theorem v11 {a b c d e f g h i j k : Sl} {v : PV} {r : Tg.Env} {S : Store} : dVar 11 (a :: b :: c :: d :: e :: f :: g :: h :: i :: j :: k :: .val v :: r) S = .ok v S := rfl
theorem isi1 {i : Int} : uIsi "int" (.int i) = some (.bl true) := rfl
theorem isi2 {i : Int} : uIsi "str" (.int i) = some (.bl false) := rfl
theorem isi3 {i : Int} : uIsi "tuple" (.int i) = some (.bl false) := rfl
theorem isi4 {i : Int} : uIsi "list" (.int i) = some (.bl false) := rfl
theorem isi5 {i : Int} : uIsi "bool" (.int i) = some (.bl false) := rfl
theorem iss1 {i : List Nat} : uIsi "int" (.str i) = some (.bl false) := rfl
theorem iss2 {i : List Nat} : uIsi "str" (.str i) = some (.bl true) := rfl
theorem iss3 {i : List Nat} : uIsi "tuple" (.str i) = some (.bl false) := rfl
theorem iss4 {i : List Nat} : uIsi "list" (.str i) = some (.bl false) := rfl
theorem iss5 {i : List Nat} : uIsi "bool" (.str i) = some (.bl false) := rfl
theorem ist1 {i : List PV} : uIsi "int" (.tup i) = some (.bl false) := rfl
theorem ist2 {i : List PV} : uIsi "str" (.tup i) = some (.bl false) := rfl
theorem ist3 {i : List PV} : uIsi "tuple" (.tup i) = some (.bl true) := rfl
theorem ist4 {i : List PV} : uIsi "list" (.tup i) = some (.bl false) := rfl
theorem ist5 {i : List PV} : uIsi "bool" (.tup i) = some (.bl false) := rfl
theorem isn1 : uIsi "int" .non = some (.bl false) := rfl
theorem isn2 : uIsi "str" .non = some (.bl false) := rfl
theorem isn3 : uIsi "tuple" .non = some (.bl false) := rfl
theorem isb5 {b : Bool} : uIsi "bool" (.bl b) = some (.bl true) := rfl
theorem len_t {l : List PV} : uLen (.tup l) = some (.int l.length) := rfl
theorem len_l {l : List PV} : uLen (.lst l) = some (.int l.length) := rfl
theorem len_s {s : List Nat} (h : s.length ≤ sizeLine) : uLen (.str s) = some (.int s.length) := if_pos h
theorem lt_i {i j : Int} : vLt (.int i) (.int j) = some (.bl (decide (i < j))) := rfl
theorem le_i {i j : Int} : vLe (.int i) (.int j) = some (.bl (decide (i ≤ j))) := rfl
theorem gt_i {i j : Int} : vGt (.int i) (.int j) = some (.bl (decide (j < i))) := rfl
theorem ge_i {i j : Int} : vGe (.int i) (.int j) = some (.bl (decide (j ≤ i))) := rfl
theorem eq_i {i j : Int} : vEq (.int i) (.int j) = some (.bl (decide (i = j))) := rfl
theorem ne_i {i j : Int} : vNe (.int i) (.int j) = some (.bl (!decide (i = j))) := rfl
theorem eq_s {i j : List Nat} : vEq (.str i) (.str j) = some (.bl (decide (i = j))) := rfl
theorem ne_s {i j : List Nat} : vNe (.str i) (.str j) = some (.bl (!decide (i = j))) := rfl
theorem lt_s {i j : List Nat} : vLt (.str i) (.str j) = some (.bl (decide (i < j))) := rfl
theorem add_i {i j : Int} : vAdd (.int i) (.int j) = some (.int (i + j)) := rfl
theorem sub_i {i j : Int} : vSub (.int i) (.int j) = some (.int (i - j)) := rfl
theorem neg_i {i : Int} : vNeg (.int i) = some (.int (-i)) := rfl
theorem is_non : vIs .non .non = some (.bl true) := rfl
theorem is_t {l : List PV} : vIs (.tup l) .non = some (.bl false) := rfl
theorem is_s {l : List Nat} : vIs (.str l) .non = some (.bl false) := rfl
theorem is_i {l : Int} : vIs (.int l) .non = some (.bl false) := rfl
theorem isn_non : vIsN .non .non = some (.bl false) := rfl
theorem isn_t {l : List PV} : vIsN (.tup l) .non = some (.bl true) := rfl
theorem isn_s {l : List Nat} : vIsN (.str l) .non = some (.bl true) := rfl
theorem isn_i {l : Int} : vIsN (.int l) .non = some (.bl true) := rfl
theorem at_t0 {a : PV} {l : List PV} : vIdx (.tup (a :: l)) (.int 0) = some a := rfl
theorem at_t1 {a b : PV} {l : List PV} : vIdx (.tup (a :: b :: l)) (.int 1) = some b := rfl
theorem at_t2 {a b c : PV} {l : List PV} : vIdx (.tup (a :: b :: c :: l)) (.int 2) = some c := rfl
theorem at_t3 {a b c d : PV} {l : List PV} : vIdx (.tup (a :: b :: c :: d :: l)) (.int 3) = some d := rfl
theorem at_t4 {a b c d e : PV} {l : List PV} : vIdx (.tup (a :: b :: c :: d :: e :: l)) (.int 4) = some e := rfl
theorem ixt {l : List PV} {u : PV} {S : Store} : ixS (.tup l) u S = vIdx (.tup l) u := rfl
theorem ixl {l : List PV} {u : PV} {S : Store} : ixS (.lst l) u S = vIdx (.lst l) u := rfl
theorem ixs {l : List Nat} {u : PV} {S : Store} : ixS (.str l) u S = vIdx (.str l) u := rfl
theorem sq_t {l : List PV} : sqOf (.tup l) = some l := rfl
theorem sq_l {l : List PV} : sqOf (.lst l) = some l := rfl
theorem sq_s {l : List Nat} : sqOf (.str l) = some (Tg.signs l) := rfl
theorem tup_l {l : List PV} : uTuple (.lst l) = some (.tup l) := rfl
theorem in_c {c : Nat} {z : List Nat} : vIn (.str [c]) (.str z) = some (.bl (decide (c ∈ z))) := rfl
theorem nin_c {c : Nat} {z : List Nat} : vNotIn (.str [c]) (.str z) = some (.bl (!decide (c ∈ z))) := rfl
theorem and_bl {b c : Bool} {S : Store} : (if b = true then Rs.ok (PV.bl c) S else Rs.ok (PV.bl false) S) = Rs.ok (PV.bl (b && c)) S := by cases b <;> rfl
theorem or_bl {b c : Bool} {S : Store} : (if b = true then Rs.ok (PV.bl true) S else Rs.ok (PV.bl c) S) = Rs.ok (PV.bl (b || c)) S := by cases b <;> rfl
theorem ite_ok {b : Bool} {u v : PV} {S : Store} : (if b = true then Rs.ok u S else Rs.ok v S) = Rs.ok (if b = true then u else v) S := by cases b <;> rfl
theorem ret_ok {b : Bool} {u v : PV} {S : Store} : outF (if b = true then Rs.ok (.rt u) S else Rs.ok (.rt v) S) = Rs.ok (if b = true then u else v) S := by cases b <;> rfl
theorem ib_and {b c : Bool} : (if b = true then PV.bl c else PV.bl false) = PV.bl (b && c) := by cases b <;> rfl
theorem ib_or {b c : Bool} : (if b = true then PV.bl true else PV.bl c) = PV.bl (b || c) := by cases b <;> rfl
theorem ib_f {b c : Bool} : (if b = true then PV.bl false else PV.bl c) = PV.bl (!b && c) := by cases b <;> rfl
/-- a turn away, then the rest -/
theorem guard_ok {b : Bool} {u : PV} {S : Store} {ρ : Tg.Env} {k : DenS} : outF ((if b = true then Rs.ok (.rt u) S else Rs.ok (.nx ρ) S).bnd (seqK k)) = if b = true then .ok u S else outF (k ρ S) := by cases b <;> rfl
theorem st0 {n : Nat} : startE [] n = List.replicate (n - 0) .no := rfl
theorem st1 {n : Nat} {a : PV} : startE [a] n = .val a :: List.replicate (n - 1) .no := rfl
theorem st2 {n : Nat} {a b : PV} : startE [a, b] n = .val a :: .val b :: List.replicate (n - 2) .no := rfl
theorem st3 {n : Nat} {a b c : PV} : startE [a, b, c] n = .val a :: .val b :: .val c :: List.replicate (n - 3) .no := rfl
theorem st4 {n : Nat} {a b c d : PV} : startE [a, b, c, d] n = .val a :: .val b :: .val c :: .val d :: List.replicate (n - 4) .no := rfl
theorem nc0 : ((0 : Nat) : Int) = 0 := rfl
theorem nc1 : ((1 : Nat) : Int) = 1 := rfl
theorem nc2 : ((2 : Nat) : Int) = 2 := rfl
theorem nc3 : ((3 : Nat) : Int) = 3 := rfl
theorem nc4 : ((4 : Nat) : Int) = 4 := rfl
theorem nc5 : ((5 : Nat) : Int) = 5 := rfl
theorem nc6 : ((6 : Nat) : Int) = 6 := rfl
local macro_rules | `(tactic| walk_at "es") => `(tactic| try simp only [st0, st1, st2, st3, st4, evS, ev, evO, dSeqS, dSkip, dExpr, dRet, dRetN, dIfS, dAsg, dC, dNil, dCons, consV, dTup, dLst, dB1, dB2, dChain, dIte, dAnd, dOr, dNot, dCall,
  dCutL, dCutH, dCutB, dM1, dIx, dSeq, dSrc, dLc, dFor, dPar2, oCons, oNil, wipeE, opF, cmF, u1F, u2F, m1F, isiN, rngF, Tgt.put, List.set, List.headD_cons, List.tail_cons,
  bnd_ok, bnd_bad, bnd_exc, okv_s, onBl_b, onI_i, onS_s, onT_s, tst_b, tstS_b, okE_s, outF_rt, outF_nx, outF_exc, seqK_nx, seqK_rt, okL_s, asL_l, okN0, okN1, okN2, okN3, okN4, okN5, v0, v1, v2, v3, v4, v5, v6, v7, v8, v9, v10, v11,
  isi1, isi2, isi3, isi4, isi5, iss1, iss2, iss3, iss4, iss5, ist1, ist2, ist3, ist4, ist5, isn1, isn2, isn3, isb5, len_t, len_l, lt_i, le_i, gt_i, ge_i, eq_i, ne_i, eq_s, ne_s, lt_s, add_i, sub_i, neg_i, is_non, is_t, is_s, is_i, isn_non, isn_t, isn_s, isn_i,
  at_t0, at_t1, at_t2, at_t3, at_t4, ixt, ixl, ixs, sq_t, sq_l, sq_s, tup_l, in_c, nin_c, and_bl, or_bl, ite_ok, ret_ok, guard_ok, ib_and, ib_or, ib_f, nc0, nc1, nc2, nc3, nc4, nc5, nc6, Int.reduceLE, Int.reduceLT, Int.reduceEq, decide_true, decide_false, Int.le_refl, Int.lt_irrefl,
  List.length_cons, List.length_nil, List.replicate, List.cons_append, List.nil_append, Nat.add_zero, Nat.zero_add, Nat.reduceAdd, Nat.reduceSub, Option.getD_some, Option.getD_none, Bool.not_false, Bool.not_true, Bool.true_or, Bool.false_or, Bool.true_and, Bool.false_and, Bool.and_true, Bool.or_true, Bool.or_false, if_true, if_false, Bool.false_eq_true, ite_true, ite_false])
local macro_rules | `(tactic| walk_at "es2") => `(tactic| try simp -implicitDefEqProofs only [st0, st1, st2, st3, st4, evS, ev, evO, dSeqS, dSkip, dExpr, dRet, dRetN, dIfS, dAsg, dC, dNil, dCons, consV, dTup, dLst, dB1, dB2, dChain, dIte, dAnd, dOr, dNot, dCall,
  dCutL, dCutH, dCutB, dM1, dIx, dSeq, dSrc, dLc, dFor, dPar2, oCons, oNil, wipeE, opF, cmF, u1F, u2F, m1F, isiN, rngF, Tgt.put, List.set, List.headD_cons, List.tail_cons,
  bnd_ok, bnd_bad, bnd_exc, okv_s, onBl_b, onI_i, onS_s, onT_s, tst_b, tstS_b, okE_s, outF_rt, outF_nx, outF_exc, seqK_nx, seqK_rt, okL_s, asL_l, okN0, okN1, okN2, okN3, okN4, okN5, v0, v1, v2, v3, v4, v5, v6, v7, v8, v9, v10, v11,
  isi1, isi2, isi3, isi4, isi5, iss1, iss2, iss3, iss4, iss5, ist1, ist2, ist3, ist4, ist5, isn1, isn2, isn3, isb5, len_t, len_l, lt_i, le_i, gt_i, ge_i, eq_i, ne_i, eq_s, ne_s, lt_s, add_i, sub_i, neg_i, is_non, is_t, is_s, is_i, isn_non, isn_t, isn_s, isn_i,
  at_t0, at_t1, at_t2, at_t3, at_t4, ixt, ixl, ixs, sq_t, sq_l, sq_s, tup_l, in_c, nin_c, and_bl, or_bl, ite_ok, ret_ok, guard_ok, ib_and, ib_or, ib_f, nc0, nc1, nc2, nc3, nc4, nc5, nc6, Int.reduceLE, Int.reduceLT, Int.reduceEq, decide_true, decide_false, Int.le_refl, Int.lt_irrefl,
  List.length_cons, List.length_nil, List.replicate, List.cons_append, List.nil_append, Nat.add_zero, Nat.zero_add, Nat.reduceAdd, Nat.reduceSub, Option.getD_some, Option.getD_none, Bool.not_false, Bool.not_true, Bool.true_or, Bool.false_or, Bool.true_and, Bool.false_and, Bool.and_true, Bool.or_true, Bool.or_false, if_true, if_false, Bool.false_eq_true, ite_true, ite_false])

/-! ### comprehensions -/
theorem lcGo_map {t : Tgt} {tt te : Den} {ρ : Tg.Env} {S : Store} (f : PV → PV) : ∀ xs : List PV, (∀ x ∈ xs, ∃ ρ1, t.put x ρ = some ρ1 ∧ tt ρ1 S = .ok (.bl true) S ∧ te ρ1 S = .ok (f x) S) → lcGo t tt te ρ xs S = .ok (xs.map f) S
  | [], _ => rfl
  | x :: xs, h => by
    obtain ⟨ρ1, h1, h2, h3⟩ := h x (List.mem_cons_self ..)
    have ih := lcGo_map f xs fun y hy => h y (List.mem_cons_of_mem _ hy)
    unfold lcGo
    rw [h1]; simp only
    rw [h2]; simp only [truth]
    rw [h3]; simp only
    rw [ih]; rfl
theorem lc_map {vs : List Nat} {t : Tgt} {tt te : Den} {ρ : Tg.Env} {S : Store} (f : PV → PV) {xs : List PV} (hl : xs.length ≤ sizeLine) (h : ∀ x ∈ xs, ∃ ρ1, t.put x (wipeE ρ vs) = some ρ1 ∧ tt ρ1 S = .ok (.bl true) S ∧ te ρ1 S = .ok (f x) S) :
    lcK vs t tt te ρ (.lst xs) S = .ok (.lst (xs.map f)) S := by
  unfold lcK
  show (if xs.length ≤ sizeLine then _ else _) = _
  rw [if_pos hl, show asL (PV.lst xs) = xs from rfl, lcGo_map f xs h]
  rfl
/-- of encoded things -/
theorem lc_enc {α : Type} {vs : List Nat} {t : Tgt} {tt te : Den} {ρ : Tg.Env} {S : Store} (e : α → PV) (f : α → PV) {xs : List α} (hl : xs.length ≤ sizeLine) (h : ∀ x ∈ xs, ∃ ρ1, t.put (e x) (wipeE ρ vs) = some ρ1 ∧ tt ρ1 S = .ok (.bl true) S ∧ te ρ1 S = .ok (f x) S) :
    lcK vs t tt te ρ (.lst (xs.map e)) S = .ok (.lst (xs.map f)) S := by
  unfold lcK
  show (if (xs.map e).length ≤ sizeLine then _ else _) = _
  rw [List.length_map, if_pos hl, show asL (PV.lst (xs.map e)) = xs.map e from rfl]
  have : lcGo t tt te (wipeE ρ vs) (xs.map e) S = .ok (xs.map f) S := by
    clear hl
    induction xs with
    | nil => rfl
    | cons x xs ih =>
      obtain ⟨ρ1, h1, h2, h3⟩ := h x (List.mem_cons_self ..)
      have ih := ih fun y hy => h y (List.mem_cons_of_mem _ hy)
      rw [List.map_cons, List.map_cons]
      unfold lcGo
      rw [h1]; simp only
      rw [h2]; simp only [truth]
      rw [h3]; simp only
      rw [ih]; rfl
  rw [this]; rfl
theorem asBls_map {α : Type} (g : α → Bool) : ∀ xs : List α, asBls (xs.map fun x => PV.bl (g x)) = some (xs.map g)
  | [] => rfl
  | x :: xs => by simp only [List.map_cons, asBls, asBls_map g xs]; rfl
theorem all_map {α : Type} (g : α → Bool) (xs : List α) : uAll (.lst (xs.map fun x => PV.bl (g x))) = some (.bl (xs.all g)) := by
  unfold uAll; simp only [asBls_map, Option.map_some, List.all_map]; rfl
theorem any_map {α : Type} (g : α → Bool) (xs : List α) : uAny (.lst (xs.map fun x => PV.bl (g x))) = some (.bl (xs.any g)) := by
  unfold uAny; simp only [asBls_map, Option.map_some, List.any_map]; rfl
theorem asStrs_map {α : Type} (g : α → List Nat) : ∀ xs : List α, asStrs (xs.map fun x => PV.str (g x)) = some (xs.map g)
  | [] => rfl
  | x :: xs => by simp only [List.map_cons, asStrs, asStrs_map g xs]; rfl
/-! ### validators -/
theorem s_is_integer (n : Nat) (S : Store) : (∀ i, C (n + 1) i_is_integer [.int i] S = .ok (.bl true) S) ∧ (∀ s, C (n + 1) i_is_integer [.str s] S = .ok (.bl false) S) ∧ C (n + 1) i_is_integer [.non] S = .ok (.bl false) S ∧ (∀ s, C (n + 1) i_is_integer [.tup s] S = .ok (.bl false) S) := by
  refine ⟨fun i => ?_, fun i => ?_, ?_, fun i => ?_⟩ <;> rw [cc rfl n _ S rfl] <;> walk_at "es" <;> rfl
theorem s_between_i (n : Nat) (S : Store) (v lo hi : Int) : C (n + 2) i_is_between [.int v, .int lo, .int hi] S = .ok (.bl (decide (lo ≤ v) && decide (v ≤ hi))) S := by
  rw [cc rfl (n + 1) _ S rfl]
  walk_at "es"
  rw [(s_is_integer n S).1]
  walk_at "es"
theorem s_between_s (n : Nat) (S : Store) (v : List Nat) (lo hi : Int) : C (n + 2) i_is_between [.str v, .int lo, .int hi] S = .ok (.bl false) S := by
  rw [cc rfl (n + 1) _ S rfl]
  walk_at "es"
  rw [(s_is_integer n S).2.1]
  walk_at "es"
theorem s_between_n (n : Nat) (S : Store) (lo hi : Int) : C (n + 2) i_is_between [.non, .int lo, .int hi] S = .ok (.bl false) S := by
  rw [cc rfl (n + 1) _ S rfl]
  walk_at "es"
  rw [(s_is_integer n S).2.2.1]
  walk_at "es"
theorem s_is_tuple (n : Nat) (S : Store) (xs : List PV) (lo hi : Int) : C (n + 1) i_is_tuple [.tup xs, .int lo, .int hi] S = .ok (.bl (decide (lo ≤ xs.length) && decide ((xs.length : Int) ≤ hi))) S := by
  rw [cc rfl n _ S rfl]
  walk_at "es"
theorem s_is_tuple_n (n : Nat) (S : Store) (lo hi : Int) : C (n + 1) i_is_tuple [.non, .int lo, .int hi] S = .ok (.bl false) S := by
  rw [cc rfl n _ S rfl]
  walk_at "es"
theorem inB_tup (s : List Nat) (l : List PV) : inB (.str s) (.tup l) = if flatIn (.str s) l = true then some (inF (.str s) l) else inD (.str s) l := by
  cases s with
  | nil => rfl
  | cons a r => cases r <;> rfl
theorem s_le {α : Type} {s : List α} {k : Nat} (h : s.length ≤ k) (hk : k ≤ 1000000 := by decide) : s.length ≤ sizeLine := by
  have : sizeLine = 16777216 := by decide
  omega
/-! ### data -/
def strG (s : List Nat) : Prop := s.length ≤ 65536 ∧ ∀ c ∈ s, c < 128
theorem strG.le {s : List Nat} (h : strG s) : s.length ≤ sizeLine := s_le h.1
/-- a datum of depth k at most -/
def Gd (k : Nat) (v : PV) : Prop := ∃ d, toD v = some d ∧ d.canLay0 = true ∧ d.depth ≤ k
theorem gd_non {k : Nat} : Gd k .non := ⟨_, rfl, rfl, Nat.zero_le _⟩
theorem gd_int {k : Nat} (i : Int) : Gd k (.int i) := ⟨_, rfl, rfl, Nat.zero_le _⟩
theorem gd_bl {k : Nat} (i : Bool) : Gd k (.bl i) := ⟨_, rfl, rfl, Nat.zero_le _⟩
theorem gd_str {k : Nat} {s : List Nat} (h : strG s) : Gd k (.str s) := by
  refine ⟨_, rfl, ?_, Nat.zero_le _⟩
  show PyData.canLay0 (.str _) = true
  unfold PyData.canLay0 PyData.strOk
  rw [Array.all_eq_true_iff_forall_mem]
  intro c hc
  have := h.2 c (by simpa using hc)
  simp; omega
theorem gd_list {k : Nat} : ∀ {xs : List PV}, (∀ x ∈ xs, Gd k x) → ∃ ds, toDs xs = some ds ∧ PyData.canLayAll0 ds = true ∧ PyData.depthAll ds ≤ k
  | [], _ => ⟨[], rfl, rfl, Nat.zero_le _⟩
  | x :: xs, h => by
    obtain ⟨d, h1, h2, h3⟩ := h x (List.mem_cons_self ..)
    obtain ⟨ds, q1, q2, q3⟩ := gd_list fun y hy => h y (List.mem_cons_of_mem _ hy)
    refine ⟨d :: ds, ?_, ?_, ?_⟩
    · unfold toDs; rw [h1, q1]
    · show (_ && _) = true; rw [h2, q2]; rfl
    · show max _ _ ≤ k; omega
theorem gd_tup {k : Nat} {xs : List PV} (h : ∀ x ∈ xs, Gd k x) : Gd (k + 1) (.tup xs) := by
  obtain ⟨ds, q1, q2, q3⟩ := gd_list h
  refine ⟨.tuple ds, ?_, q2, ?_⟩
  · unfold toD; rw [q1]
  · show PyData.depthAll ds + 1 ≤ _; omega
theorem Gd.mono {k m : Nat} {v : PV} (h : Gd k v) (hk : k ≤ m) : Gd m v := by
  obtain ⟨d, h1, h2, h3⟩ := h
  exact ⟨d, h1, h2, Nat.le_trans h3 hk⟩
theorem eq_unit {k : Nat} {xs : List PV} (h : ∀ x ∈ xs, Gd k x) (hk : k ≤ 63 := by decide) : eqB (.tup xs) (.tup []) = some xs.isEmpty := by
  obtain ⟨ds, q1, q2, q3⟩ := gd_list h
  show vEqD _ _ = _
  have e1 : toD (.tup xs) = some (.tuple ds) := by unfold toD; rw [q1]
  have e2 : toD (.tup []) = some (.tuple []) := rfl
  unfold vEqD
  rw [e1, e2]
  have : (SeqAt.shaped (.tuple ds) && SeqAt.shaped (.tuple [])) = true := by
    have a : SeqAt.shaped (.tuple ds) = true := by
      show (PyData.canLayAll0 ds && decide (PyData.depthAll ds + 1 ≤ 64)) = true
      rw [q2]; simp; omega
    rw [a]; decide
  simp only [this, if_true]
  cases xs with
  | nil => cases q1; rfl
  | cons x xs =>
    cases ds with
    | nil => unfold toDs at q1; split at q1 <;> (try split at q1) <;> simp at q1
    | cons d ds => rfl
theorem eqv_non : ∀ d : PyData, PyData.eqv d .none = (match d with | .none => true | _ => false) := by
  intro d; cases d <;> rfl
theorem in_non {k : Nat} {xs : List PV} (h : ∀ x ∈ xs, Gd k x) (hk : k ≤ 63 := by decide) : inB .non (.lst xs) = some (xs.any isNonP) := by
  have e : inB .non (.lst xs) = if flatIn .non xs = true then some (inF .non xs) else inD .non xs := rfl
  rw [e]
  split
  · congr 1
    unfold inF
    congr 1
    funext y
    cases y <;> rfl
  · obtain ⟨ds, q1, q2, q3⟩ := gd_list h
    unfold inD
    rw [show toD PV.non = some .none from rfl, q1]
    have a : (SeqAt.shaped .none && SeqAt.shaped (.list ds)) = true := by
      have a : SeqAt.shaped (.list ds) = true := by
        show (PyData.canLayAll0 ds && decide (PyData.depthAll ds + 1 ≤ 64)) = true
        rw [q2]; simp; omega
      rw [a]; decide
    simp only [a, if_true]
    congr 1
    rename_i hf; clear a q2 q3 e hf
    induction xs generalizing ds with
    | nil => cases q1; rfl
    | cons x xs ih =>
      unfold toDs at q1
      split at q1
      · rename_i d hd
        split at q1
        · rename_i es he
          cases q1
          rw [List.any_cons, List.any_cons, ih (fun y hy => h y (List.mem_cons_of_mem _ hy)) es he, eqv_non]
          congr 1
          cases x <;> simp [toD] at hd <;> (try (subst hd; rfl))
          all_goals (split at hd <;> simp at hd; subst hd; rfl)
        · cases q1
      · cases q1
end K73
end
section
set_option Elab.async false
set_option linter.all false
set_option autoImplicit false
set_option maxRecDepth 100000
set_option maxHeartbeats 0
namespace K73
open PySem PySem.Spec PyProof.Rows L2 Tg
local macro_rules | `(tactic| walk_at "es") => `(tactic| try simp only [st0, st1, st2, st3, st4, evS, ev, evO, dSeqS, dSkip, dExpr, dRet, dRetN, dIfS, dAsg, dC, dNil, dCons, consV, dTup, dLst, dB1, dB2, dChain, dIte, dAnd, dOr, dNot, dCall,
  dCutL, dCutH, dCutB, dM1, dIx, dSeq, dSrc, dLc, dFor, dPar2, oCons, oNil, wipeE, opF, cmF, u1F, u2F, m1F, isiN, rngF, Tgt.put, List.set, List.headD_cons, List.tail_cons,
  bnd_ok, bnd_bad, bnd_exc, okv_s, onBl_b, onI_i, onS_s, onT_s, tst_b, tstS_b, okE_s, outF_rt, outF_nx, outF_exc, seqK_nx, seqK_rt, okL_s, asL_l, okN0, okN1, okN2, okN3, okN4, okN5, v0, v1, v2, v3, v4, v5, v6, v7, v8, v9, v10, v11,
  isi1, isi2, isi3, isi4, isi5, iss1, iss2, iss3, iss4, iss5, ist1, ist2, ist3, ist4, ist5, isn1, isn2, isn3, isb5, len_t, len_l, lt_i, le_i, gt_i, ge_i, eq_i, ne_i, eq_s, ne_s, lt_s, add_i, sub_i, neg_i, is_non, is_t, is_s, is_i, isn_non, isn_t, isn_s, isn_i,
  at_t0, at_t1, at_t2, at_t3, at_t4, ixt, ixl, ixs, sq_t, sq_l, sq_s, tup_l, in_c, nin_c, and_bl, or_bl, ite_ok, ret_ok, guard_ok, ib_and, ib_or, ib_f, nc0, nc1, nc2, nc3, nc4, nc5, nc6, Int.reduceLE, Int.reduceLT, Int.reduceEq, decide_true, decide_false, Int.le_refl, Int.lt_irrefl,
  List.length_cons, List.length_nil, List.replicate, List.cons_append, List.nil_append, Nat.add_zero, Nat.zero_add, Nat.reduceAdd, Nat.reduceSub, Option.getD_some, Option.getD_none, Bool.not_false, Bool.not_true, Bool.true_or, Bool.false_or, Bool.true_and, Bool.false_and, Bool.and_true, Bool.or_true, Bool.or_false, if_true, if_false, Bool.false_eq_true, ite_true, ite_false])
local macro_rules | `(tactic| walk_at "es2") => `(tactic| try simp -implicitDefEqProofs only [st0, st1, st2, st3, st4, evS, ev, evO, dSeqS, dSkip, dExpr, dRet, dRetN, dIfS, dAsg, dC, dNil, dCons, consV, dTup, dLst, dB1, dB2, dChain, dIte, dAnd, dOr, dNot, dCall,
  dCutL, dCutH, dCutB, dM1, dIx, dSeq, dSrc, dLc, dFor, dPar2, oCons, oNil, wipeE, opF, cmF, u1F, u2F, m1F, isiN, rngF, Tgt.put, List.set, List.headD_cons, List.tail_cons,
  bnd_ok, bnd_bad, bnd_exc, okv_s, onBl_b, onI_i, onS_s, onT_s, tst_b, tstS_b, okE_s, outF_rt, outF_nx, outF_exc, seqK_nx, seqK_rt, okL_s, asL_l, okN0, okN1, okN2, okN3, okN4, okN5, v0, v1, v2, v3, v4, v5, v6, v7, v8, v9, v10, v11,
  isi1, isi2, isi3, isi4, isi5, iss1, iss2, iss3, iss4, iss5, ist1, ist2, ist3, ist4, ist5, isn1, isn2, isn3, isb5, len_t, len_l, lt_i, le_i, gt_i, ge_i, eq_i, ne_i, eq_s, ne_s, lt_s, add_i, sub_i, neg_i, is_non, is_t, is_s, is_i, isn_non, isn_t, isn_s, isn_i,
  at_t0, at_t1, at_t2, at_t3, at_t4, ixt, ixl, ixs, sq_t, sq_l, sq_s, tup_l, in_c, nin_c, and_bl, or_bl, ite_ok, ret_ok, guard_ok, ib_and, ib_or, ib_f, nc0, nc1, nc2, nc3, nc4, nc5, nc6, Int.reduceLE, Int.reduceLT, Int.reduceEq, decide_true, decide_false, Int.le_refl, Int.lt_irrefl,
  List.length_cons, List.length_nil, List.replicate, List.cons_append, List.nil_append, Nat.add_zero, Nat.zero_add, Nat.reduceAdd, Nat.reduceSub, Option.getD_some, Option.getD_none, Bool.not_false, Bool.not_true, Bool.true_or, Bool.false_or, Bool.true_and, Bool.false_and, Bool.and_true, Bool.or_true, Bool.or_false, if_true, if_false, Bool.false_eq_true, ite_true, ite_false])
/-! ### constants -/
def alpha : List Nat := [97, 98, 99, 100, 101, 102, 103, 104, 105, 106, 107, 108]
def kinds : List PV := [.str [97, 110, 121], .str [109, 97, 121, 98, 101], .str [111, 110, 101]]
theorem g0 : dG G0 j_ALPHABET = dC (.str alpha) := rfl
theorem g6 : dG G0 j_KINDS_patterns = dC (.tup kinds) := rfl
theorem g10 : dG G0 j_MOST_ITEMS = dC (.int 6) := rfl
theorem g14 : dG G0 j_MOST_ROWS = dC (.int 8) := rfl
theorem g15 : dG G0 j_MOST_RULES = dC (.int 8) := rfl
theorem g3 : dG G0 j_EDGE = dC (.tup [.str [101, 100, 103, 101]]) := rfl
theorem g20 : dG G0 j_MOST_TEXT = dC (.int 2) := rfl
def ways : List PV := [.str [97, 116, 32, 111, 110, 99, 101], .str [98, 97, 99, 107, 119, 97, 114, 100], .str [111, 110, 119, 97, 114, 100]]
def forces : List PV := [.str [109, 97, 121], .str [109, 117, 115, 116]]
theorem g26 : dG G0 j_WAYS = dC (.tup ways) := rfl
theorem g4 : dG G0 j_FORCES = dC (.tup forces) := rfl
def lets (n : Int) : List Nat := cutP alpha none (some n)
theorem lets_le (n : Int) : (lets n).length ≤ 12 := by
  unfold lets cutP
  rw [List.length_take, List.length_drop]
  exact Nat.le_trans (Nat.min_le_right _ _) (Nat.sub_le _ _)
/-! ### one -/
theorem in_t {s : List Nat} {l : List PV} (hl : flatIn (.str s) l = true) : vIn (.str s) (.tup l) = some (.bl (inF (.str s) l)) := by
  unfold vIn; rw [inB_tup, if_pos hl]; rfl
theorem s_is_text (n : Nat) (S : Store) {s z : List Nat} (lo hi : Int) (hs : s.length ≤ sizeLine) :
    C (n + 1) i_is_text [.str s, .str z, .int lo, .int hi] S = .ok (.bl ((decide (lo ≤ s.length) && decide ((s.length : Int) ≤ hi)) && s.all fun c => decide (c ∈ z))) S := by
  rw [cc rfl n _ S rfl]
  walk_at "es"
  rw [len_s hs]
  walk_at "es"
  rw [Tg.signs, lc_enc (fun c : Nat => PV.str [c]) (fun c : Nat => PV.bl (decide (c ∈ z))) hs (fun c _ => ⟨_, rfl, by walk_at "es", by walk_at "es"⟩)]
  walk_at "es"
  rw [all_map]
  walk_at "es"
theorem s_is_one_of (n : Nat) (S : Store) {s : List Nat} {l : List PV} (hl : flatIn (.str s) l = true) :
    C (n + 1) i_is_one_of [.str s, .tup l] S = .ok (.bl (inF (.str s) l)) S := by
  rw [cc rfl n _ S rfl]
  walk_at "es"
  rw [in_t hl]
  walk_at "es"
theorem flatS (s : List Nat) {l : List PV} (h : l.all flatP = true) : flatIn (.str s) l = true := by unfold flatIn; rw [h]; rfl
theorem s_letters_of (n : Nat) (S : Store) (k : Int) : C (n + 1) i_letters_of [.int k] S = .ok (.str (lets k)) S := by
  rw [cc rfl n _ S rfl]
  walk_at "es"
  rw [g0]
  walk_at "es"
  rfl
theorem s_is_letters (n : Nat) (S : Store) (k : Int) : C (n + 3) i_is_letters [.int k] S = .ok (.bl (decide (1 ≤ k) && decide (k ≤ 12))) S := by
  rw [cc rfl (n + 2) _ S rfl]
  walk_at "es"
  rw [g0]
  walk_at "es"
  rw [show uLen (.str alpha) = some (.int 12) from rfl]
  walk_at "es"
  rw [s_between_i]
  walk_at "es"
theorem s_is_letters_n (n : Nat) (S : Store) : C (n + 3) i_is_letters [.non] S = .ok (.bl false) S := by
  rw [cc rfl (n + 2) _ S rfl]
  walk_at "es"
  rw [g0]
  walk_at "es"
  rw [show uLen (.str alpha) = some (.int 12) from rfl]
  walk_at "es"
  rw [s_between_n]
  walk_at "es"
theorem s_need_n (n : Nat) (S : Store) {k : Int} (h : (decide (1 ≤ k) && decide (k ≤ 12)) = true) : C (n + 4) i_need_n [.int k] S = .ok .non S := by
  rw [cc rfl (n + 3) _ S rfl]
  walk_at "es"
  rw [s_is_letters, h]
  walk_at "es"
def isW (n : Int) (s : List Nat) : Bool := s.all fun c => decide (c ∈ lets n)
theorem s_is_word (n : Nat) (S : Store) (k : Int) {s : List Nat} (hs : s.length ≤ sizeLine) : C (n + 1) i_is_word [.int k, .str s] S = .ok (.bl (isW k s)) S := by
  rw [cc rfl n _ S rfl]
  walk_at "es"
  rw [Tg.signs, lc_enc (fun c : Nat => PV.str [c]) (fun c : Nat => PV.bl (decide (c ∈ lets k))) hs (fun c _ => ⟨_, rfl, by walk_at "es", by walk_at "es"; rw [g0]; walk_at "es"; rw [show vCut (.str alpha) none (some k) = some (.str (lets k)) from rfl]; walk_at "es"⟩)]
  walk_at "es"
  rw [all_map]
  walk_at "es"
  rfl
/-! ### items, rows, patterns -/
inductive Item where
  | edge | one (w : List Nat) | may (w : List Nat) | any (w : List Nat)
def eI : Item → PV
  | .edge => .tup [.str [101, 100, 103, 101]]
  | .one w => .tup [.str [111, 110, 101], .str w]
  | .may w => .tup [.str [109, 97, 121, 98, 101], .str w]
  | .any w => .tup [.str [97, 110, 121], .str w]
def Item.ok : Item → Prop
  | .edge => True
  | .one w => strG w
  | .may w => strG w
  | .any w => strG w
def rise : List Nat → Bool
  | [] => true
  | c :: r => (match r with | [] => true | d :: _ => decide (c < d)) && rise r
theorem tailP {α : Type} (s : List α) : cutP s (some 1) none = s.tail := by
  unfold cutP sPl
  cases s with
  | nil => rfl
  | cons a r => simp
theorem zip_map {α β : Type} (f : α → PV) (g : β → PV) : ∀ (a : List α) (b : List β), List.zipWith pr (a.map f) (b.map g) = (List.zip a b).map fun p => PV.tup [f p.1, g p.2]
  | [], _ => rfl
  | _ :: _, [] => rfl
  | x :: a, y :: b => by
    simp only [List.map_cons, List.zipWith_cons_cons, List.zip_cons_cons, zip_map f g a b]; rfl
theorem zip_signs (s t : List Nat) : zipV [.str s, .str t] = some ((List.zip s t).map fun p => PV.tup [.str [p.1], .str [p.2]]) := by
  show some (List.zipWith pr (Tg.signs s) (Tg.signs t)) = _
  unfold Tg.signs
  rw [zip_map]
theorem cutS {s : List Nat} {lo hi : Option Int} (h : s.length ≤ sizeLine) : vCut (.str s) lo hi = some (.str (cutP s lo hi)) := if_pos h
def incr (s : List Nat) : Bool := (List.zip s s.tail).all fun p => decide (([p.1] : List Nat) < [p.2])
def liB (n : Int) (w : List Nat) : Bool := !!((decide (1 ≤ (w.length : Int)) && decide ((w.length : Int) ≤ n)) && w.all fun c => decide (c ∈ lets n)) && incr w
def itB (n : Int) : Item → Bool
  | .edge => false
  | .one w => liB n w
  | .may w => liB n w
  | .any w => liB n w
theorem zip_le {α β : Type} (a : List α) (b : List β) : (List.zip a b).length ≤ a.length := by rw [List.length_zip]; exact Nat.min_le_left _ _
theorem s_li (n : Nat) (S : Store) (k : Int) {w kd : List Nat} (hw : strG w) (hk : inF (.str kd) kinds = true) : C (n + 2) i_is_letter_item [.int k, .tup [.str kd, .str w]] S = .ok (.bl (liB k w)) S := by
  have fl : flatIn (.str kd) kinds = true := flatS _ rfl
  rw [cc rfl (n + 1) _ S rfl]
  walk_at "es"
  rw [s_is_tuple]
  walk_at "es"
  rw [g6]
  walk_at "es"
  rw [s_is_one_of n S fl, hk]
  walk_at "es"
  rw [s_letters_of]
  walk_at "es"
  rw [s_is_text n S _ _ hw.le]
  walk_at "es"
  rw [cutS hw.le, tailP]
  walk_at "es"
  rw [zip_signs]
  walk_at "es"
  rw [lc_enc (fun p : Nat × Nat => PV.tup [.str [p.1], .str [p.2]]) (fun p => PV.bl (decide (([p.1] : List Nat) < [p.2]))) (Nat.le_trans (zip_le _ _) hw.le) (fun p _ => ⟨_, rfl, by walk_at "es", by walk_at "es"⟩)]
  walk_at "es"
  rw [all_map]
  walk_at "es"
  simp [liB, incr]
theorem s_is_letter_item (n : Nat) (S : Store) (k : Int) {i : Item} (h : i.ok) : C (n + 2) i_is_letter_item [.int k, eI i] S = .ok (.bl (itB k i)) S := by
  cases i with
  | edge =>
    rw [cc rfl (n + 1) _ S rfl]
    walk_at "es"
    simp only [eI]
    rw [s_is_tuple]
    walk_at "es"
    rfl
  | one w => exact s_li n S k h rfl
  | may w => exact s_li n S k h rfl
  | any w => exact s_li n S k h rfl
end K73
end
section
set_option Elab.async false
set_option linter.all false
set_option autoImplicit false
set_option maxRecDepth 100000
set_option maxHeartbeats 0
namespace K73
open PySem PySem.Spec PyProof.Rows L2 Tg
local macro_rules | `(tactic| walk_at "es") => `(tactic| try simp only [st0, st1, st2, st3, st4, evS, ev, evO, dSeqS, dSkip, dExpr, dRet, dRetN, dIfS, dAsg, dC, dNil, dCons, consV, dTup, dLst, dB1, dB2, dChain, dIte, dAnd, dOr, dNot, dCall,
  dCutL, dCutH, dCutB, dM1, dIx, dSeq, dSrc, dLc, dFor, dPar2, oCons, oNil, wipeE, opF, cmF, u1F, u2F, m1F, isiN, rngF, Tgt.put, List.set, List.headD_cons, List.tail_cons,
  bnd_ok, bnd_bad, bnd_exc, okv_s, onBl_b, onI_i, onS_s, onT_s, tst_b, tstS_b, okE_s, outF_rt, outF_nx, outF_exc, seqK_nx, seqK_rt, okL_s, asL_l, okN0, okN1, okN2, okN3, okN4, okN5, v0, v1, v2, v3, v4, v5, v6, v7, v8, v9, v10, v11,
  isi1, isi2, isi3, isi4, isi5, iss1, iss2, iss3, iss4, iss5, ist1, ist2, ist3, ist4, ist5, isn1, isn2, isn3, isb5, len_t, len_l, lt_i, le_i, gt_i, ge_i, eq_i, ne_i, eq_s, ne_s, lt_s, add_i, sub_i, neg_i, is_non, is_t, is_s, is_i, isn_non, isn_t, isn_s, isn_i,
  at_t0, at_t1, at_t2, at_t3, at_t4, ixt, ixl, ixs, sq_t, sq_l, sq_s, tup_l, in_c, nin_c, and_bl, or_bl, ite_ok, ret_ok, guard_ok, ib_and, ib_or, ib_f, nc0, nc1, nc2, nc3, nc4, nc5, nc6, Int.reduceLE, Int.reduceLT, Int.reduceEq, decide_true, decide_false, Int.le_refl, Int.lt_irrefl,
  List.length_cons, List.length_nil, List.replicate, List.cons_append, List.nil_append, Nat.add_zero, Nat.zero_add, Nat.reduceAdd, Nat.reduceSub, Option.getD_some, Option.getD_none, Bool.not_false, Bool.not_true, Bool.true_or, Bool.false_or, Bool.true_and, Bool.false_and, Bool.and_true, Bool.or_true, Bool.or_false, if_true, if_false, Bool.false_eq_true, ite_true, ite_false])
local macro_rules | `(tactic| walk_at "es2") => `(tactic| try simp -implicitDefEqProofs only [st0, st1, st2, st3, st4, evS, ev, evO, dSeqS, dSkip, dExpr, dRet, dRetN, dIfS, dAsg, dC, dNil, dCons, consV, dTup, dLst, dB1, dB2, dChain, dIte, dAnd, dOr, dNot, dCall,
  dCutL, dCutH, dCutB, dM1, dIx, dSeq, dSrc, dLc, dFor, dPar2, oCons, oNil, wipeE, opF, cmF, u1F, u2F, m1F, isiN, rngF, Tgt.put, List.set, List.headD_cons, List.tail_cons,
  bnd_ok, bnd_bad, bnd_exc, okv_s, onBl_b, onI_i, onS_s, onT_s, tst_b, tstS_b, okE_s, outF_rt, outF_nx, outF_exc, seqK_nx, seqK_rt, okL_s, asL_l, okN0, okN1, okN2, okN3, okN4, okN5, v0, v1, v2, v3, v4, v5, v6, v7, v8, v9, v10, v11,
  isi1, isi2, isi3, isi4, isi5, iss1, iss2, iss3, iss4, iss5, ist1, ist2, ist3, ist4, ist5, isn1, isn2, isn3, isb5, len_t, len_l, lt_i, le_i, gt_i, ge_i, eq_i, ne_i, eq_s, ne_s, lt_s, add_i, sub_i, neg_i, is_non, is_t, is_s, is_i, isn_non, isn_t, isn_s, isn_i,
  at_t0, at_t1, at_t2, at_t3, at_t4, ixt, ixl, ixs, sq_t, sq_l, sq_s, tup_l, in_c, nin_c, and_bl, or_bl, ite_ok, ret_ok, guard_ok, ib_and, ib_or, ib_f, nc0, nc1, nc2, nc3, nc4, nc5, nc6, Int.reduceLE, Int.reduceLT, Int.reduceEq, decide_true, decide_false, Int.le_refl, Int.lt_irrefl,
  List.length_cons, List.length_nil, List.replicate, List.cons_append, List.nil_append, Nat.add_zero, Nat.zero_add, Nat.reduceAdd, Nat.reduceSub, Option.getD_some, Option.getD_none, Bool.not_false, Bool.not_true, Bool.true_or, Bool.false_or, Bool.true_and, Bool.false_and, Bool.and_true, Bool.or_true, Bool.or_false, if_true, if_false, Bool.false_eq_true, ite_true, ite_false])
def isEdge : Item → Bool
  | .edge => true
  | _ => false
theorem eqEdge : vEq (.tup [.str [101, 100, 103, 101]]) (.tup [.str [101, 100, 103, 101]]) = some (.bl true) := by
  unfold vEq
  rw [show eqB (.tup [.str [101, 100, 103, 101]]) (.tup [.str [101, 100, 103, 101]]) = some true by decide +kernel]
  rfl
theorem s_is_edge (n : Nat) (S : Store) (i : Item) : C (n + 2) i_is_edge [eI i] S = .ok (.bl (isEdge i)) S := by
  rw [cc rfl (n + 1) _ S rfl]
  walk_at "es"
  cases i with
  | edge =>
    simp only [eI]
    rw [s_is_tuple]
    walk_at "es"
    rw [g3]
    walk_at "es"
    rw [eqEdge]
    walk_at "es"
    rfl
  | one w => simp only [eI]; rw [s_is_tuple]; walk_at "es"; rfl
  | may w => simp only [eI]; rw [s_is_tuple]; walk_at "es"; rfl
  | any w => simp only [eI]; rw [s_is_tuple]; walk_at "es"; rfl
theorem gd_item {i : Item} (h : i.ok) : Gd 1 (eI i) := by
  have c : ∀ s : List Nat, s.length ≤ 65536 ∧ (∀ c ∈ s, c < 128) → strG s := fun s h => h
  cases i with
  | edge => exact gd_tup (k := 0) (by intro x hx; simp at hx; subst hx; exact gd_str (by constructor <;> decide))
  | one w => exact gd_tup (k := 0) (by intro x hx; simp at hx; rcases hx with rfl | rfl; exact gd_str (by constructor <;> decide); exact gd_str h)
  | may w => exact gd_tup (k := 0) (by intro x hx; simp at hx; rcases hx with rfl | rfl; exact gd_str (by constructor <;> decide); exact gd_str h)
  | any w => exact gd_tup (k := 0) (by intro x hx; simp at hx; rcases hx with rfl | rfl; exact gd_str (by constructor <;> decide); exact gd_str h)
def rowOk (r : List Item) : Prop := r.length ≤ 65536 ∧ ∀ i ∈ r, i.ok
theorem gd_row {r : List Item} (h : rowOk r) : ∀ x ∈ r.map eI, Gd 1 x := by
  intro x hx
  obtain ⟨i, hi, rfl⟩ := List.mem_map.mp hx
  exact gd_item (h.2 i hi)
def eRow (r : List Item) : PV := .tup (r.map eI)
theorem eq_t0 {k : Nat} {xs : List PV} (h : ∀ x ∈ xs, Gd k x) (hk : k ≤ 63 := by decide) : vEq (.tup xs) (.tup []) = some (.bl xs.isEmpty) := by unfold vEq; rw [eq_unit h hk]; rfl
theorem ne_t0 {k : Nat} {xs : List PV} (h : ∀ x ∈ xs, Gd k x) (hk : k ≤ 63 := by decide) : vNe (.tup xs) (.tup []) = some (.bl (!xs.isEmpty)) := by unfold vNe; rw [eq_unit h hk]; rfl
theorem cutT {l : List PV} {lo hi : Option Int} : vCut (.tup l) lo hi = some (.tup (cutP l lo hi)) := rfl
theorem cutL {l : List PV} {lo hi : Option Int} : vCut (.lst l) lo hi = some (.lst (cutP l lo hi)) := rfl
theorem cut_last {α : Type} (s : List α) : cutP s none (some (-1)) = s.dropLast := by
  unfold cutP sPl
  simp only [List.drop_zero, Nat.sub_zero, if_pos (show (-1 : Int) < 0 by decide)]
  rw [List.dropLast_eq_take]
  congr 1
  omega
def leftS : List Nat := [108, 101, 102, 116]
def rightS : List Nat := [114, 105, 103, 104, 116]
/-- the row's items without its edge -/
def inner (side : Bool) (r : List Item) : List Item := if side = true then (match r with
  | .edge :: t => t
  | _ => r) else (match r.getLast? with
  | some .edge => r.dropLast
  | _ => r)
def sideS (side : Bool) : List Nat := if side = true then leftS else rightS
def rowB (n : Int) (side : Bool) (r : List Item) : Bool := decide ((r.length : Int) ≤ 6) && (inner side r).all (itB n)
theorem at_last {l : List PV} {v : PV} (h : l.getLast? = some v) : vIdx (.tup l) (.int (-1)) = some v := by
  show atP l (-1) = _
  unfold atP
  cases l with
  | nil => cases h
  | cons a r =>
    rw [if_neg (by decide), if_pos (by simp; omega)]
    rw [List.getLast?_eq_getElem?] at h
    rw [← h]
    congr 1
    simp only [List.length_cons]
    omega
theorem all_items (n : Nat) (S : Store) (k : Int) {r : List Item} (h : rowOk r) (v : Tgt) (ρ : Tg.Env) {te : Den} (hv : v = .name 4) (hρ : ∃ a b c d, ρ = [.val (.int k), a, b, c, d]) (hte : te = dCall (C (n + 2)) i_is_letter_item (dCons (dVar 0) (dCons (dVar 4) dNil))) :
    lcK [4] v (dC (.bl true)) te ρ (.lst (r.map eI)) S = .ok (.lst (r.map fun i => .bl (itB k i))) S := by
  subst hv hte
  obtain ⟨a, b, c, d, rfl⟩ := hρ
  exact lc_enc eI (fun i => .bl (itB k i)) (s_le (k := 65536) h.1) fun i hi => ⟨_, rfl, by walk_at "es", by walk_at "es"; rw [s_is_letter_item n S k (h.2 i hi)]⟩
theorem inner_ok {side : Bool} {r : List Item} (h : rowOk r) : rowOk (inner side r) := by
  unfold inner
  split
  · split
    · exact ⟨by have := h.1; simp at this; omega, fun i hi => h.2 i (List.mem_cons_of_mem _ hi)⟩
    · exact h
  · split
    · exact ⟨by have := h.1; rw [List.length_dropLast]; omega, fun i hi => h.2 i (List.dropLast_subset _ hi)⟩
    · exact h
theorem s_is_row (n : Nat) (S : Store) (k : Int) (side : Bool) {r : List Item} (h : rowOk r) : C (n + 3) i_is_row [.int k, eRow r, .str (sideS side)] S = .ok (.bl (rowB k side r)) S := by
  rw [cc rfl (n + 2) _ S rfl]
  walk_at "es"
  rw [g10]
  walk_at "es"
  simp only [eRow]
  rw [s_is_tuple]
  walk_at "es"
  rw [List.length_map]
  by_cases hl : (r.length : Int) ≤ 6
  case neg => simp [rowB, hl]
  have h0 : (0 : Int) ≤ r.length := by omega
  simp only [hl, h0, decide_true, Bool.and_true, Bool.not_true, Bool.false_eq_true, if_false]
  walk_at "es"
  rw [ne_t0 (gd_row h)]
  walk_at "es"
  cases side with
  | true =>
    have e : sideS true = leftS := rfl
    rw [e, show decide (leftS = [108, 101, 102, 116]) = true from rfl]
    walk_at "es"
    cases r with
    | nil =>
      rw [show (([] : List Item).map eI).isEmpty = true from rfl]
      walk_at "es"
      try rw [show decide (leftS = [114, 105, 103, 104, 116]) = false from rfl]
      walk_at "es"
      rw [all_items n S k (r := []) ⟨by decide, by simp⟩ _ _ rfl ⟨_, _, _, _, rfl⟩ rfl]
      walk_at "es"
      rfl
    | cons a t =>
      rw [show ((a :: t).map eI).isEmpty = false from rfl]
      walk_at "es"
      rw [List.map_cons]
      walk_at "es"
      rw [s_is_edge]
      walk_at "es"
      cases hE : isEdge a with
      | true =>
        walk_at "es"
        rw [cutT]
        walk_at "es"
        try rw [show decide (leftS = [114, 105, 103, 104, 116]) = false from rfl]
        walk_at "es"
        rw [tailP, List.tail_cons]
        cases a with
        | edge =>
          rw [all_items n S k (r := t) (inner_ok (side := true) h) _ _ rfl ⟨_, _, _, _, rfl⟩ rfl]
          walk_at "es"
          rw [all_map]
          walk_at "es"
          simp [rowB, inner] at hl ⊢; omega
        | _ => cases hE
      | false =>
        walk_at "es"
        try rw [show decide (leftS = [114, 105, 103, 104, 116]) = false from rfl]
        walk_at "es"
        rw [show eI a :: t.map eI = (a :: t).map eI from rfl, all_items n S k h _ _ rfl ⟨_, _, _, _, rfl⟩ rfl]
        walk_at "es"
        rw [all_map]
        walk_at "es"
        have : inner true (a :: t) = a :: t := by
          cases a with
          | edge => cases hE
          | _ => rfl
        simp only [rowB, this, hl, decide_true, Bool.true_and]
  | false =>
    have e : sideS false = rightS := rfl
    rw [e, show decide (rightS = [108, 101, 102, 116]) = false from rfl]
    walk_at "es"
    rw [show decide (rightS = [114, 105, 103, 104, 116]) = true from rfl]
    walk_at "es"
    cases hr : r.getLast? with
    | none =>
      rw [List.getLast?_eq_none_iff] at hr
      subst hr
      rw [show (([] : List Item).map eI).isEmpty = true from rfl]
      walk_at "es"
      rw [all_items n S k (r := []) ⟨by decide, by simp⟩ _ _ rfl ⟨_, _, _, _, rfl⟩ rfl]
      walk_at "es"
      rfl
    | some a =>
      have hne : (r.map eI).isEmpty = false := by
        cases r with
        | nil => cases hr
        | cons => rfl
      have hg : (r.map eI).getLast? = some (eI a) := by rw [List.getLast?_map, hr]; rfl
      rw [hne]
      walk_at "es"
      rw [at_last hg]
      walk_at "es"
      rw [s_is_edge]
      walk_at "es"
      cases hE : isEdge a with
      | true =>
        walk_at "es"
        rw [cutT]
        walk_at "es"
        rw [cut_last, ← List.map_dropLast]
        have hi : inner false r = r.dropLast := by
          unfold inner
          rw [if_neg (by decide), hr]
          cases a with
          | edge => rfl
          | _ => cases hE
        rw [all_items n S k (r := r.dropLast) (hi ▸ inner_ok (side := false) h) _ _ rfl ⟨_, _, _, _, rfl⟩ rfl]
        walk_at "es"
        rw [all_map]
        walk_at "es"
        simp only [rowB, hi, hl, decide_true, Bool.true_and]
      | false =>
        walk_at "es"
        have hi : inner false r = r := by
          unfold inner
          rw [if_neg (by decide), hr]
          cases a with
          | edge => cases hE
          | _ => rfl
        rw [all_items n S k h _ _ rfl ⟨_, _, _, _, rfl⟩ rfl]
        walk_at "es"
        rw [all_map]
        walk_at "es"
        simp only [rowB, hi, hl, decide_true, Bool.true_and]
end K73
end
section
set_option Elab.async false
set_option linter.all false
set_option autoImplicit false
set_option maxRecDepth 100000
set_option maxHeartbeats 0
namespace K73
open PySem PySem.Spec PyProof.Rows L2 Tg
local macro_rules | `(tactic| walk_at "es") => `(tactic| try simp only [st0, st1, st2, st3, st4, evS, ev, evO, dSeqS, dSkip, dExpr, dRet, dRetN, dIfS, dAsg, dC, dNil, dCons, consV, dTup, dLst, dB1, dB2, dChain, dIte, dAnd, dOr, dNot, dCall,
  dCutL, dCutH, dCutB, dM1, dIx, dSeq, dSrc, dLc, dFor, dPar2, oCons, oNil, wipeE, opF, cmF, u1F, u2F, m1F, isiN, rngF, Tgt.put, List.set, List.headD_cons, List.tail_cons,
  bnd_ok, bnd_bad, bnd_exc, okv_s, onBl_b, onI_i, onS_s, onT_s, tst_b, tstS_b, okE_s, outF_rt, outF_nx, outF_exc, seqK_nx, seqK_rt, okL_s, asL_l, okN0, okN1, okN2, okN3, okN4, okN5, v0, v1, v2, v3, v4, v5, v6, v7, v8, v9, v10, v11,
  isi1, isi2, isi3, isi4, isi5, iss1, iss2, iss3, iss4, iss5, ist1, ist2, ist3, ist4, ist5, isn1, isn2, isn3, isb5, len_t, len_l, lt_i, le_i, gt_i, ge_i, eq_i, ne_i, eq_s, ne_s, lt_s, add_i, sub_i, neg_i, is_non, is_t, is_s, is_i, isn_non, isn_t, isn_s, isn_i,
  at_t0, at_t1, at_t2, at_t3, at_t4, ixt, ixl, ixs, sq_t, sq_l, sq_s, tup_l, in_c, nin_c, and_bl, or_bl, ite_ok, ret_ok, guard_ok, ib_and, ib_or, ib_f, nc0, nc1, nc2, nc3, nc4, nc5, nc6, Int.reduceLE, Int.reduceLT, Int.reduceEq, decide_true, decide_false, Int.le_refl, Int.lt_irrefl,
  List.length_cons, List.length_nil, List.replicate, List.cons_append, List.nil_append, Nat.add_zero, Nat.zero_add, Nat.reduceAdd, Nat.reduceSub, Option.getD_some, Option.getD_none, Bool.not_false, Bool.not_true, Bool.true_or, Bool.false_or, Bool.true_and, Bool.false_and, Bool.and_true, Bool.or_true, Bool.or_false, if_true, if_false, Bool.false_eq_true, ite_true, ite_false])
local macro_rules | `(tactic| walk_at "es2") => `(tactic| try simp -implicitDefEqProofs only [st0, st1, st2, st3, st4, evS, ev, evO, dSeqS, dSkip, dExpr, dRet, dRetN, dIfS, dAsg, dC, dNil, dCons, consV, dTup, dLst, dB1, dB2, dChain, dIte, dAnd, dOr, dNot, dCall,
  dCutL, dCutH, dCutB, dM1, dIx, dSeq, dSrc, dLc, dFor, dPar2, oCons, oNil, wipeE, opF, cmF, u1F, u2F, m1F, isiN, rngF, Tgt.put, List.set, List.headD_cons, List.tail_cons,
  bnd_ok, bnd_bad, bnd_exc, okv_s, onBl_b, onI_i, onS_s, onT_s, tst_b, tstS_b, okE_s, outF_rt, outF_nx, outF_exc, seqK_nx, seqK_rt, okL_s, asL_l, okN0, okN1, okN2, okN3, okN4, okN5, v0, v1, v2, v3, v4, v5, v6, v7, v8, v9, v10, v11,
  isi1, isi2, isi3, isi4, isi5, iss1, iss2, iss3, iss4, iss5, ist1, ist2, ist3, ist4, ist5, isn1, isn2, isn3, isb5, len_t, len_l, lt_i, le_i, gt_i, ge_i, eq_i, ne_i, eq_s, ne_s, lt_s, add_i, sub_i, neg_i, is_non, is_t, is_s, is_i, isn_non, isn_t, isn_s, isn_i,
  at_t0, at_t1, at_t2, at_t3, at_t4, ixt, ixl, ixs, sq_t, sq_l, sq_s, tup_l, in_c, nin_c, and_bl, or_bl, ite_ok, ret_ok, guard_ok, ib_and, ib_or, ib_f, nc0, nc1, nc2, nc3, nc4, nc5, nc6, Int.reduceLE, Int.reduceLT, Int.reduceEq, decide_true, decide_false, Int.le_refl, Int.lt_irrefl,
  List.length_cons, List.length_nil, List.replicate, List.cons_append, List.nil_append, Nat.add_zero, Nat.zero_add, Nat.reduceAdd, Nat.reduceSub, Option.getD_some, Option.getD_none, Bool.not_false, Bool.not_true, Bool.true_or, Bool.false_or, Bool.true_and, Bool.false_and, Bool.and_true, Bool.or_true, Bool.or_false, if_true, if_false, Bool.false_eq_true, ite_true, ite_false])
/-! ### patterns -/
def patOk (p : List (List Item)) : Prop := p.length ≤ 65536 ∧ ∀ r ∈ p, rowOk r
def ePat (p : List (List Item)) : PV := .tup (p.map eRow)
def patB (n : Int) (side : Bool) (p : List (List Item)) : Bool := (decide (1 ≤ (p.length : Int)) && decide ((p.length : Int) ≤ 8)) && p.all (rowB n side)
theorem s_is_pattern_of (n : Nat) (S : Store) (k : Int) (side : Bool) {p : List (List Item)} (h : patOk p) : C (n + 4) i_is_pattern_of [.int k, ePat p, .str (sideS side)] S = .ok (.bl (patB k side p)) S := by
  rw [cc rfl (n + 3) _ S rfl]
  walk_at "es"
  rw [g14]
  walk_at "es"
  unfold ePat
  rw [s_is_tuple]
  walk_at "es"
  rw [List.length_map, lc_enc eRow (fun r => .bl (rowB k side r)) (s_le h.1) (fun r hr => ⟨_, rfl, by walk_at "es", by walk_at "es"; rw [s_is_row n S k side (h.2 r hr)]⟩)]
  walk_at "es"
  rw [all_map]
  walk_at "es"
  rfl
theorem s_is_pattern (n : Nat) (S : Store) {k : Int} (hk : (decide (1 ≤ k) && decide (k ≤ 12)) = true) (side : Bool) {p : List (List Item)} (h : patOk p) : C (n + 5) i_is_pattern [.int k, ePat p, .str (sideS side)] S = .ok (.bl (patB k side p)) S := by
  rw [cc rfl (n + 4) _ S rfl]
  walk_at "es"
  rw [s_need_n n S hk]
  walk_at "es"
  rw [s_is_pattern_of n S k side h]
  walk_at "es"
/-! ### rising -/
theorem rng1_ok {j : Int} (h1 : -1 ≤ j) (h2 : j ≤ 1000000) : rng1 [.int j] = some (rngL 0 j.toNat) := by
  show (if rgOk j = true then some (rngL 0 j.toNat) else none) = _
  rw [if_pos]
  unfold rgOk
  rw [Bool.and_eq_true, decide_eq_true_eq, decide_eq_true_eq]
  omega
theorem at_nat {xs : List PV} {k : Nat} : atP xs (k : Int) = xs[k]? := by
  unfold atP
  rw [if_pos (by omega)]
  rfl
theorem zip_tail {α : Type} (d : α) : ∀ ys : List α, List.zip ys ys.tail = (List.range (ys.length - 1)).map fun k => (ys.getD k d, ys.getD (k + 1) d)
  | [] => rfl
  | [a] => rfl
  | a :: b :: t => by
    have ih := zip_tail d (b :: t)
    simp only [List.tail_cons, List.zip_cons_cons, List.length_cons, Nat.add_sub_cancel] at ih ⊢
    rw [ih, List.range_succ_eq_map, List.map_cons, List.map_map]
    rfl
/-- what rises -/
def risL {α : Type} (lt : α → α → Bool) (ys : List α) : Bool := (List.zip ys ys.tail).all fun p => lt p.1 p.2
def isSeq (v : PV) (xs : List PV) : Prop := v = .tup xs ∨ v = .lst xs
theorem s_is_rising {α : Type} (n : Nat) (S : Store) {v : PV} (e : α → PV) (lt : α → α → Bool) (d : α) {ys : List α} (hv : isSeq v (ys.map e)) (hl : ys.length ≤ 65537) (h : ∀ a ∈ ys, ∀ b ∈ ys, ltB (e a) (e b) = some (lt a b)) :
    C (n + 1) i_is_rising [v] S = .ok (.bl (risL lt ys)) S := by
  rw [cc rfl n _ S rfl]
  walk_at "es"
  have h1 : uLen v = some (.int ys.length) := by rcases hv with rfl | rfl <;> (walk_at "es"; rw [List.length_map])
  have h2 : ∀ k : Nat, ixS v (.int k) S = (ys.map e)[k]? := fun k => by rcases hv with rfl | rfl <;> exact at_nat
  rw [h1]
  walk_at "es"
  rw [rng1_ok (by omega) (by omega)]
  walk_at "es"
  have e3 : ((ys.length : Int) - 1).toNat = ys.length - 1 := by omega
  rw [e3]
  unfold rngL
  rw [lc_enc (fun k : Nat => PV.int (0 + k)) (fun k : Nat => PV.bl (lt (ys.getD k d) (ys.getD (k + 1) d))) (by rw [List.length_range]; exact s_le (s := ys.tail) (k := 65537) (by rw [List.length_tail]; omega) |> fun q => by rw [List.length_tail] at q; exact q) (fun k hk => ⟨_, rfl, by walk_at "es", by
    walk_at "es"
    rw [List.mem_range] at hk
    have q1 : k < ys.length := by omega
    have q2 : k + 1 < ys.length := by omega
    rw [show (0 + (k : Int)) = ((k : Nat) : Int) by omega, show ((k : Int) + 1) = ((k + 1 : Nat) : Int) by omega, h2, List.getElem?_map, List.getElem?_eq_getElem q1]
    simp only [Option.map_some]
    walk_at "es"
    rw [h2, List.getElem?_map, List.getElem?_eq_getElem q2]
    simp only [Option.map_some]
    walk_at "es"
    rw [vLt, h _ (List.getElem_mem q1) _ (List.getElem_mem q2)]
    simp only [Option.map_some]
    walk_at "es"
    rw [List.getD_eq_getElem?_getD, List.getD_eq_getElem?_getD, List.getElem?_eq_getElem q1, List.getElem?_eq_getElem q2]
    rfl⟩)]
  walk_at "es"
  rw [all_map]
  walk_at "es"
  unfold risL
  rw [zip_tail d, List.all_map]
  rfl
/-! ### changes, rules -/
def eCh (c : List Nat × List Nat) : PV := .tup [.str c.1, .str c.2]
def chOk (c : List Nat × List Nat) : Prop := strG c.1 ∧ strG c.2
def chB (n : Int) (c : List Nat × List Nat) : Bool := (isW n c.1 && isW n c.2) && (decide ((c.1.length : Int) ≤ 1) && (decide ((c.2.length : Int) ≤ 2) && !decide (c.1 = c.2)))
theorem s_is_change (n : Nat) (S : Store) (k : Int) {c : List Nat × List Nat} (h : chOk c) : C (n + 2) i_is_change [.int k, eCh c] S = .ok (.bl (chB k c)) S := by
  rw [cc rfl (n + 1) _ S rfl]
  walk_at "es"
  simp only [eCh]
  rw [s_is_tuple]
  walk_at "es"
  rw [s_is_word n S k h.1.le]
  walk_at "es"
  rw [s_is_word n S k h.2.le]
  walk_at "es"
  rw [len_s h.1.le, len_s h.2.le]
  walk_at "es"
  rw [g20]
  walk_at "es"
  simp [chB, Bool.and_assoc]
theorem gd_ch {c : List Nat × List Nat} (h : chOk c) : Gd 1 (eCh c) := gd_tup (k := 0) (by intro x hx; simp at hx; rcases hx with rfl | rfl; exact gd_str h.1; exact gd_str h.2)
def chsOk (l : List (List Nat × List Nat)) : Prop := l.length ≤ 65536 ∧ ∀ c ∈ l, chOk c
theorem gd_chs {l : List (List Nat × List Nat)} (h : chsOk l) : ∀ x ∈ l.map eCh, Gd 1 x := by
  intro x hx
  obtain ⟨i, hi, rfl⟩ := List.mem_map.mp hx
  exact gd_ch (h.2 i hi)
def chsB (n : Int) (l : List (List Nat × List Nat)) : Bool := (!l.isEmpty && l.all (chB n)) && risL (fun a b => decide (a < b)) (l.map (·.1))
theorem ltS (a b : List Nat) : ltB (.str a) (.str b) = some (decide (a < b)) := rfl
theorem isEmpty_map {α β : Type} (f : α → β) (l : List α) : (l.map f).isEmpty = l.isEmpty := by cases l <;> rfl
theorem s_are_changes (n : Nat) (S : Store) (k : Int) {l : List (List Nat × List Nat)} (h : chsOk l) : C (n + 3) i_are_changes [.int k, .tup (l.map eCh)] S = .ok (.bl (chsB k l)) S := by
  rw [cc rfl (n + 2) _ S rfl]
  walk_at "es"
  rw [eq_t0 (gd_chs h), isEmpty_map]
  walk_at "es"
  rw [lc_enc eCh (fun c => .bl (chB k c)) (s_le h.1) (fun c hc => ⟨_, rfl, by walk_at "es", by walk_at "es"; rw [s_is_change n S k (h.2 c hc)]⟩)]
  walk_at "es"
  rw [all_map]
  walk_at "es"
  rw [lc_enc eCh (fun c => .str c.1) (s_le h.1) (fun c hc => ⟨_, rfl, by walk_at "es", by walk_at "es"⟩)]
  walk_at "es"
  rw [s_is_rising (n + 1) S (ys := l.map (·.1)) PV.str (fun a b => decide (a < b)) [] (.inr (by rw [List.map_map]; rfl)) (by rw [List.length_map]; have := h.1; omega) (fun a _ b _ => ltS a b)]
  walk_at "es"
  unfold chsB
  cases l.isEmpty <;> cases l.all (chB k) <;> rfl
structure Rule where
  ch : List (List Nat × List Nat)
  left : List (List Item)
  right : List (List Item)
  way : List Nat
  force : List Nat
def eRule (r : Rule) : PV := .tup [.tup (r.ch.map eCh), ePat r.left, ePat r.right, .str r.way, .str r.force]
structure Rule.ok (r : Rule) : Prop where
  ch : chsOk r.ch
  left : patOk r.left
  right : patOk r.right
  way : strG r.way
  force : strG r.force
def ruleB (n : Int) (r : Rule) : Bool := chsB n r.ch && ((patB n true r.left && patB n false r.right) && (inF (.str r.way) ways && inF (.str r.force) forces))
theorem s_is_rule_of (n : Nat) (S : Store) (k : Int) {r : Rule} (h : r.ok) : C (n + 5) i_is_rule_of [.int k, eRule r] S = .ok (.bl (ruleB k r)) S := by
  rw [cc rfl (n + 4) _ S rfl]
  walk_at "es"
  unfold eRule
  rw [s_is_tuple]
  walk_at "es"
  rw [s_are_changes (n + 1) S k h.ch]
  walk_at "es"
  rw [show ([108, 101, 102, 116] : List Nat) = sideS true from rfl, s_is_pattern_of n S k true h.left]
  walk_at "es"
  rw [show ([114, 105, 103, 104, 116] : List Nat) = sideS false from rfl, s_is_pattern_of n S k false h.right]
  walk_at "es"
  rw [g26]
  walk_at "es"
  rw [s_is_one_of (n + 3) S (flatS _ rfl)]
  walk_at "es"
  rw [g4]
  walk_at "es"
  rw [s_is_one_of (n + 3) S (flatS _ rfl)]
  walk_at "es"
  unfold ruleB
  cases chsB k r.ch <;> cases patB k true r.left <;> cases patB k false r.right <;> rfl
theorem s_is_rule (n : Nat) (S : Store) {k : Int} (hk : (decide (1 ≤ k) && decide (k ≤ 12)) = true) {r : Rule} (h : r.ok) : C (n + 6) i_is_rule [.int k, eRule r] S = .ok (.bl (ruleB k r)) S := by
  rw [cc rfl (n + 5) _ S rfl]
  walk_at "es"
  rw [s_need_n (n + 1) S hk]
  walk_at "es"
  rw [s_is_rule_of n S k h]
  walk_at "es"
def isN (k : Int) : Bool := decide (1 ≤ k) && decide (k ≤ 12)
def rulesOk (l : List Rule) : Prop := l.length ≤ 65536 ∧ ∀ c ∈ l, c.ok
def casB (k : Int) (l : List Rule) : Bool := (isN k && decide ((l.length : Int) ≤ 8)) && l.all (ruleB k)
theorem s_is_cascade (n : Nat) (S : Store) (k : Int) {l : List Rule} (h : rulesOk l) : C (n + 6) i_is_cascade [.tup [.int k, .tup (l.map eRule)]] S = .ok (.bl (casB k l)) S := by
  rw [cc rfl (n + 5) _ S rfl]
  walk_at "es"
  rw [s_is_tuple]
  walk_at "es"
  rw [s_is_letters]
  walk_at "es"
  rw [g15]
  walk_at "es"
  rw [s_is_tuple]
  walk_at "es"
  rw [List.length_map, lc_enc eRule (fun c => .bl (ruleB k c)) (s_le h.1) (fun c hc => ⟨_, rfl, by walk_at "es", by walk_at "es"; rw [s_is_rule_of n S k (h.2 c hc)]⟩)]
  walk_at "es"
  rw [all_map]
  walk_at "es"
  have h0 : (0 : Int) ≤ l.length := by omega
  unfold casB isN
  simp only [h0, decide_true, Bool.true_and]
  cases decide (1 ≤ k) <;> cases decide (k ≤ 12) <;> cases decide ((l.length : Int) ≤ 8) <;> rfl
/-! ### machines -/
theorem for_all {α : Type} {t : Tgt} {db : DenS} {S : Store} {u : PV} (e : α → PV) (g : α → Bool) (ρ : Sl → Tg.Env) : ∀ xs : List α, (∀ x ∈ xs, (∀ s, t.put (e x) (ρ s) = some (ρ (.val (e x)))) ∧ db (ρ (.val (e x))) S = if g x = true then .ok (.nx (ρ (.val (e x)))) S else .ok (.rt u) S) →
    ∀ s, ∃ s', forGo t db (xs.map e) (ρ s) S = if xs.all g = true then .ok (.nx (ρ s')) S else .ok (.rt u) S
  | [], _, s => ⟨s, rfl⟩
  | x :: xs, h, s => by
    obtain ⟨h1, h2⟩ := h x (List.mem_cons_self ..)
    obtain ⟨s', ih⟩ := for_all e g ρ xs (fun y hy => h y (List.mem_cons_of_mem _ hy)) (.val (e x))
    refine ⟨s', ?_⟩
    rw [List.map_cons]
    unfold forGo
    rw [h1 s]
    simp only
    rw [h2, List.all_cons]
    cases g x with
    | true => simp only [if_true, bnd_ok, whK, Bool.true_and]; exact ih
    | false => rfl
def eStep (s : Nat × Nat) : PV := .tup [.str [s.1], .int (s.2 : Int)]
def stB (k many : Int) (s : Nat × Nat) : Bool := decide (s.1 ∈ lets k) && decide ((s.2 : Int) ≤ many - 1)
def ePlace (p : Bool × List (Nat × Nat)) : PV := .tup [.bl p.1, .tup (p.2.map eStep)]
def plOk (p : Bool × List (Nat × Nat)) : Prop := p.2.length ≤ 65536
def plB (k many : Int) (p : Bool × List (Nat × Nat)) : Bool := p.2.all (stB k many) && risL (fun a b : Nat => decide (([a] : List Nat) < [b])) (p.2.map (·.1))
end K73
end
section
set_option Elab.async false
set_option linter.all false
set_option autoImplicit false
set_option maxRecDepth 100000
set_option maxHeartbeats 0
namespace K73
open PySem PySem.Spec PyProof.Rows L2 Tg
local macro_rules | `(tactic| walk_at "es") => `(tactic| try simp only [st0, st1, st2, st3, st4, evS, ev, evO, dSeqS, dSkip, dExpr, dRet, dRetN, dIfS, dAsg, dC, dNil, dCons, consV, dTup, dLst, dB1, dB2, dChain, dIte, dAnd, dOr, dNot, dCall,
  dCutL, dCutH, dCutB, dM1, dIx, dSeq, dSrc, dLc, dFor, dPar2, oCons, oNil, wipeE, opF, cmF, u1F, u2F, m1F, isiN, rngF, Tgt.put, List.set, List.headD_cons, List.tail_cons,
  bnd_ok, bnd_bad, bnd_exc, okv_s, onBl_b, onI_i, onS_s, onT_s, tst_b, tstS_b, okE_s, outF_rt, outF_nx, outF_exc, seqK_nx, seqK_rt, okL_s, asL_l, okN0, okN1, okN2, okN3, okN4, okN5, v0, v1, v2, v3, v4, v5, v6, v7, v8, v9, v10, v11,
  isi1, isi2, isi3, isi4, isi5, iss1, iss2, iss3, iss4, iss5, ist1, ist2, ist3, ist4, ist5, isn1, isn2, isn3, isb5, len_t, len_l, lt_i, le_i, gt_i, ge_i, eq_i, ne_i, eq_s, ne_s, lt_s, add_i, sub_i, neg_i, is_non, is_t, is_s, is_i, isn_non, isn_t, isn_s, isn_i,
  at_t0, at_t1, at_t2, at_t3, at_t4, ixt, ixl, ixs, sq_t, sq_l, sq_s, tup_l, in_c, nin_c, and_bl, or_bl, ite_ok, ret_ok, guard_ok, ib_and, ib_or, ib_f, nc0, nc1, nc2, nc3, nc4, nc5, nc6, Int.reduceLE, Int.reduceLT, Int.reduceEq, decide_true, decide_false, Int.le_refl, Int.lt_irrefl,
  List.length_cons, List.length_nil, List.replicate, List.cons_append, List.nil_append, Nat.add_zero, Nat.zero_add, Nat.reduceAdd, Nat.reduceSub, Option.getD_some, Option.getD_none, Bool.not_false, Bool.not_true, Bool.true_or, Bool.false_or, Bool.true_and, Bool.false_and, Bool.and_true, Bool.or_true, Bool.or_false, if_true, if_false, Bool.false_eq_true, ite_true, ite_false])
local macro_rules | `(tactic| walk_at "es2") => `(tactic| try simp -implicitDefEqProofs only [st0, st1, st2, st3, st4, evS, ev, evO, dSeqS, dSkip, dExpr, dRet, dRetN, dIfS, dAsg, dC, dNil, dCons, consV, dTup, dLst, dB1, dB2, dChain, dIte, dAnd, dOr, dNot, dCall,
  dCutL, dCutH, dCutB, dM1, dIx, dSeq, dSrc, dLc, dFor, dPar2, oCons, oNil, wipeE, opF, cmF, u1F, u2F, m1F, isiN, rngF, Tgt.put, List.set, List.headD_cons, List.tail_cons,
  bnd_ok, bnd_bad, bnd_exc, okv_s, onBl_b, onI_i, onS_s, onT_s, tst_b, tstS_b, okE_s, outF_rt, outF_nx, outF_exc, seqK_nx, seqK_rt, okL_s, asL_l, okN0, okN1, okN2, okN3, okN4, okN5, v0, v1, v2, v3, v4, v5, v6, v7, v8, v9, v10, v11,
  isi1, isi2, isi3, isi4, isi5, iss1, iss2, iss3, iss4, iss5, ist1, ist2, ist3, ist4, ist5, isn1, isn2, isn3, isb5, len_t, len_l, lt_i, le_i, gt_i, ge_i, eq_i, ne_i, eq_s, ne_s, lt_s, add_i, sub_i, neg_i, is_non, is_t, is_s, is_i, isn_non, isn_t, isn_s, isn_i,
  at_t0, at_t1, at_t2, at_t3, at_t4, ixt, ixl, ixs, sq_t, sq_l, sq_s, tup_l, in_c, nin_c, and_bl, or_bl, ite_ok, ret_ok, guard_ok, ib_and, ib_or, ib_f, nc0, nc1, nc2, nc3, nc4, nc5, nc6, Int.reduceLE, Int.reduceLT, Int.reduceEq, decide_true, decide_false, Int.le_refl, Int.lt_irrefl,
  List.length_cons, List.length_nil, List.replicate, List.cons_append, List.nil_append, Nat.add_zero, Nat.zero_add, Nat.reduceAdd, Nat.reduceSub, Option.getD_some, Option.getD_none, Bool.not_false, Bool.not_true, Bool.true_or, Bool.false_or, Bool.true_and, Bool.false_and, Bool.and_true, Bool.or_true, Bool.or_false, if_true, if_false, Bool.false_eq_true, ite_true, ite_false])
theorem zip_l {α β : Type} (f : α → PV) (g : β → PV) (a : List α) (b : List β) : zipV [.lst (a.map f), .lst (b.map g)] = some ((List.zip a b).map fun p => PV.tup [f p.1, g p.2]) := by
  show some _ = _
  rw [zip_map]
theorem zip_t {α β : Type} (f : α → PV) (g : β → PV) (a : List α) (b : List β) : zipV [.tup (a.map f), .tup (b.map g)] = some ((List.zip a b).map fun p => PV.tup [f p.1, g p.2]) := by
  show some _ = _
  rw [zip_map]
theorem tl_map {α β : Type} (f : α → β) (l : List α) : (l.map f).tail = l.tail.map f := by cases l <;> rfl
theorem s_is_place (n : Nat) (S : Store) (k many : Int) {p : Bool × List (Nat × Nat)} (h : plOk p) : C (n + 3) i_is_place [ePlace p, .int k, .int many] S = .ok (.bl (plB k many p)) S := by
  rw [cc rfl (n + 2) _ S rfl]
  walk_at "es"
  unfold ePlace
  rw [s_is_tuple]
  walk_at "es"
  obtain ⟨s', hs⟩ := for_all (S := S) (u := .bl false) (t := .name 3) (db := evS (Pn (n + 2)) (.seq (.iff (.or (.not (.tv (.call i_is_tuple (.cons (.var 3) (.cons (.c (.int 2)) (.cons (.c (.int 2)) (.nil))))))) (.or (.not (.tv (.isi 1 (.ix (.var 3) (.c (.int 0)))))) (.one (.cmp 5 (.u1 0 (.ix (.var 3) (.c (.int 0)))) (.c (.int 1)))))) (.seq (.ret (.c (.bl false))) (.skip)) (.skip)) (.seq (.iff (.or (.cmp 7 (.ix (.var 3) (.c (.int 0))) (.call i_letters_of (.cons (.var 1) (.nil)))) (.one (.not (.tv (.call i_is_between (.cons (.ix (.var 3) (.c (.int 1))) (.cons (.c (.int 0)) (.cons (.bin 1 (.var 2) (.c (.int 1))) (.nil))))))))) (.seq (.ret (.c (.bl false))) (.skip)) (.skip)) (.skip)))) eStep (stB k many)
    (fun s => [.val (.tup [.bl p.1, .tup (p.2.map eStep)]), .val (.int k), .val (.int many), s, .no, .no, .no]) p.2 (fun x hx => ⟨fun s => rfl, by
      walk_at "es"
      unfold eStep
      rw [s_is_tuple]
      walk_at "es"
      rw [len_s (s := [x.1]) (show 1 ≤ sizeLine by decide)]
      walk_at "es"
      rw [s_letters_of]
      walk_at "es"
      rw [s_between_i]
      walk_at "es"
      have h0 : (0 : Int) ≤ x.2 := by omega
      unfold stB
      simp only [h0, decide_true, Bool.true_and]
      cases decide (x.1 ∈ lets k) <;> cases decide ((x.2 : Int) ≤ many - 1) <;> rfl⟩) .no
  simp only [evS, ev, opF, cmF, u1F, isiN, Option.getD_some] at hs
  rw [hs]
  clear hs
  cases hb : p.2.all (stB k many) with
  | false => walk_at "es"; unfold plB; rw [hb]; rfl
  | true =>
    walk_at "es"
    rw [lc_enc eStep (fun s => .str [s.1]) (s_le h) (fun c hc => ⟨_, rfl, by walk_at "es", by walk_at "es"; rfl⟩)]
    walk_at "es"
    rw [cutL, tailP, tl_map]
    walk_at "es"
    rw [zip_l]
    walk_at "es"
    rw [lc_enc (fun q : (Nat × Nat) × (Nat × Nat) => PV.tup [.str [q.1.1], .str [q.2.1]]) (fun q => .bl (decide (([q.1.1] : List Nat) < [q.2.1]))) (Nat.le_trans (zip_le _ _) (s_le h)) (fun q _ => ⟨_, rfl, by walk_at "es", by walk_at "es"⟩)]
    walk_at "es"
    rw [all_map]
    walk_at "es"
    unfold plB risL
    rw [hb, Bool.true_and, tl_map, List.zip_map, List.all_map]
    rfl
def macOk (l : List (Bool × List (Nat × Nat))) : Prop := l.length ≤ 65536 ∧ ∀ c ∈ l, plOk c
def macB (k : Int) (l : List (Bool × List (Nat × Nat))) : Bool := isN k && l.all (plB k l.length)
theorem s_is_machine (n : Nat) (S : Store) (k : Int) {l : List (Bool × List (Nat × Nat))} (h : macOk l) : C (n + 4) i_is_machine [.tup [.int k, .tup (l.map ePlace)]] S = .ok (.bl (macB k l)) S := by
  rw [cc rfl (n + 3) _ S rfl]
  walk_at "es"
  rw [s_is_tuple]
  walk_at "es"
  rw [s_is_letters]
  walk_at "es"
  rw [lc_enc ePlace (fun c => .bl (plB k l.length c)) (s_le h.1) (fun c hc => ⟨_, rfl, by walk_at "es", by walk_at "es"; rw [List.length_map, s_is_place n S k _ (h.2 c hc)]⟩)]
  walk_at "es"
  rw [all_map]
  walk_at "es"
  unfold macB isN
  cases decide (1 ≤ k) <;> cases decide (k ≤ 12) <;> rfl
def eO {α : Type} (e : α → PV) : Option α → PV
  | none => .non
  | some x => e x
def eN : Option Nat → PV := eO fun i : Nat => .int (i : Int)
def oLe {α : Type} (o : Option (List α)) : Prop := ∀ l, o = some l → l.length ≤ 65536
theorem g8 : dG G0 j_MOST_DIGITS = dC (.int 30) := rfl
def digs : List Nat := [48, 49, 50, 51, 52, 53, 54, 55, 56, 57]
theorem g2 : dG G0 j_DIGITS = dC (.str digs) := rfl
def eL {α : Type} (e : α → PV) (l : List α) : PV := .tup (l.map e)
theorem for_st {α β γ : Type} {t : Tgt} {db : DenS} {S : Store} (e : α → PV) (step : β → α → β) (ρ : β → γ → Tg.Env) (I : List α → β → Prop) (h : ∀ x xs b g, I (x :: xs) b → I xs (step b x) ∧ ∃ ρ1 g', t.put (e x) (ρ b g) = some ρ1 ∧ db ρ1 S = .ok (.nx (ρ (step b x) g')) S) :
    ∀ xs b g, I xs b → ∃ g', forGo t db (xs.map e) (ρ b g) S = .ok (.nx (ρ (xs.foldl step b) g')) S
  | [], b, g, _ => ⟨g, rfl⟩
  | x :: xs, b, g, hI => by
    obtain ⟨h1, ρ1, g', h2, h3⟩ := h x xs b g hI
    obtain ⟨g2, ih⟩ := for_st e step ρ I h xs (step b x) g' h1
    refine ⟨g2, ?_⟩
    rw [List.map_cons]
    unfold forGo
    rw [h2]
    simp only
    rw [h3, bnd_ok]
    exact ih
theorem fold_inv {α β : Type} (step : β → α → β) (I : List α → β → Prop) (h : ∀ x xs b, I (x :: xs) b → I xs (step b x)) : ∀ xs b, I xs b → I [] (xs.foldl step b)
  | [], b, hI => hI
  | x :: xs, b, hI => fold_inv step I h xs _ (h x xs b hI)
/-! ### ranges -/
end K73
end
section
set_option Elab.async false
set_option linter.all false
set_option autoImplicit false
set_option maxRecDepth 100000
set_option maxHeartbeats 0
namespace K73
open PySem PySem.Spec PyProof.Rows L2 Tg
local macro_rules | `(tactic| walk_at "es") => `(tactic| try simp only [st0, st1, st2, st3, st4, evS, ev, evO, dSeqS, dSkip, dExpr, dRet, dRetN, dIfS, dAsg, dC, dNil, dCons, consV, dTup, dLst, dB1, dB2, dChain, dIte, dAnd, dOr, dNot, dCall,
  dCutL, dCutH, dCutB, dM1, dIx, dSeq, dSrc, dLc, dFor, dPar2, oCons, oNil, wipeE, opF, cmF, u1F, u2F, m1F, isiN, rngF, Tgt.put, List.set, List.headD_cons, List.tail_cons,
  bnd_ok, bnd_bad, bnd_exc, okv_s, onBl_b, onI_i, onS_s, onT_s, tst_b, tstS_b, okE_s, outF_rt, outF_nx, outF_exc, seqK_nx, seqK_rt, okL_s, asL_l, okN0, okN1, okN2, okN3, okN4, okN5, v0, v1, v2, v3, v4, v5, v6, v7, v8, v9, v10, v11,
  isi1, isi2, isi3, isi4, isi5, iss1, iss2, iss3, iss4, iss5, ist1, ist2, ist3, ist4, ist5, isn1, isn2, isn3, isb5, len_t, len_l, lt_i, le_i, gt_i, ge_i, eq_i, ne_i, eq_s, ne_s, lt_s, add_i, sub_i, neg_i, is_non, is_t, is_s, is_i, isn_non, isn_t, isn_s, isn_i,
  at_t0, at_t1, at_t2, at_t3, at_t4, ixt, ixl, ixs, sq_t, sq_l, sq_s, tup_l, in_c, nin_c, and_bl, or_bl, ite_ok, ret_ok, guard_ok, ib_and, ib_or, ib_f, nc0, nc1, nc2, nc3, nc4, nc5, nc6, Int.reduceLE, Int.reduceLT, Int.reduceEq, decide_true, decide_false, Int.le_refl, Int.lt_irrefl,
  List.length_cons, List.length_nil, List.replicate, List.cons_append, List.nil_append, Nat.add_zero, Nat.zero_add, Nat.reduceAdd, Nat.reduceSub, Option.getD_some, Option.getD_none, Bool.not_false, Bool.not_true, Bool.true_or, Bool.false_or, Bool.true_and, Bool.false_and, Bool.and_true, Bool.or_true, Bool.or_false, if_true, if_false, Bool.false_eq_true, ite_true, ite_false])
local macro_rules | `(tactic| walk_at "es2") => `(tactic| try simp -implicitDefEqProofs only [st0, st1, st2, st3, st4, evS, ev, evO, dSeqS, dSkip, dExpr, dRet, dRetN, dIfS, dAsg, dC, dNil, dCons, consV, dTup, dLst, dB1, dB2, dChain, dIte, dAnd, dOr, dNot, dCall,
  dCutL, dCutH, dCutB, dM1, dIx, dSeq, dSrc, dLc, dFor, dPar2, oCons, oNil, wipeE, opF, cmF, u1F, u2F, m1F, isiN, rngF, Tgt.put, List.set, List.headD_cons, List.tail_cons,
  bnd_ok, bnd_bad, bnd_exc, okv_s, onBl_b, onI_i, onS_s, onT_s, tst_b, tstS_b, okE_s, outF_rt, outF_nx, outF_exc, seqK_nx, seqK_rt, okL_s, asL_l, okN0, okN1, okN2, okN3, okN4, okN5, v0, v1, v2, v3, v4, v5, v6, v7, v8, v9, v10, v11,
  isi1, isi2, isi3, isi4, isi5, iss1, iss2, iss3, iss4, iss5, ist1, ist2, ist3, ist4, ist5, isn1, isn2, isn3, isb5, len_t, len_l, lt_i, le_i, gt_i, ge_i, eq_i, ne_i, eq_s, ne_s, lt_s, add_i, sub_i, neg_i, is_non, is_t, is_s, is_i, isn_non, isn_t, isn_s, isn_i,
  at_t0, at_t1, at_t2, at_t3, at_t4, ixt, ixl, ixs, sq_t, sq_l, sq_s, tup_l, in_c, nin_c, and_bl, or_bl, ite_ok, ret_ok, guard_ok, ib_and, ib_or, ib_f, nc0, nc1, nc2, nc3, nc4, nc5, nc6, Int.reduceLE, Int.reduceLT, Int.reduceEq, decide_true, decide_false, Int.le_refl, Int.lt_irrefl,
  List.length_cons, List.length_nil, List.replicate, List.cons_append, List.nil_append, Nat.add_zero, Nat.zero_add, Nat.reduceAdd, Nat.reduceSub, Option.getD_some, Option.getD_none, Bool.not_false, Bool.not_true, Bool.true_or, Bool.false_or, Bool.true_and, Bool.false_and, Bool.and_true, Bool.or_true, Bool.or_false, if_true, if_false, Bool.false_eq_true, ite_true, ite_false])
/-- a text of the law -/
def tx (s : List Nat) : Prop := s.length ≤ 500 ∧ ∀ c ∈ s, c < 128
theorem tx.g {s : List Nat} (h : tx s) : strG s := ⟨Nat.le_trans h.1 (by decide), h.2⟩
theorem tx.le {s : List Nat} (h : tx s) : s.length ≤ sizeLine := h.g.le
/-- a part of a text -/
def Sub (p a : List Nat) : Prop := p.length ≤ a.length ∧ ∀ c ∈ p, c ∈ a
theorem tx.sub {p a : List Nat} (h : tx a) (q : Sub p a) : tx p := ⟨Nat.le_trans q.1 h.1, fun c hc => h.2 c (q.2 c hc)⟩
theorem Sub.refl (a : List Nat) : Sub a a := ⟨Nat.le_refl _, fun _ h => h⟩
theorem sub_take (a : List Nat) (n : Nat) : Sub (a.take n) a := ⟨by rw [List.length_take]; exact Nat.min_le_right _ _, fun c h => List.take_subset _ _ h⟩
theorem sub_drop (a : List Nat) (n : Nat) : Sub (a.drop n) a := ⟨by rw [List.length_drop]; exact Nat.sub_le _ _, fun c h => List.drop_subset _ _ h⟩
theorem Sub.trans {a b c : List Nat} (h : Sub a b) (q : Sub b c) : Sub a c := ⟨Nat.le_trans h.1 q.1, fun x hx => q.2 x (h.2 x hx)⟩
theorem sub_cut (a : List Nat) (lo hi : Option Int) : Sub (cutP a lo hi) a := by
  unfold cutP
  exact (sub_take _ _).trans (sub_drop _ _)
/-! ### cut texts -/
theorem spl_sub (z : List Nat) : ∀ (l : List Nat) (k : Nat) (acc : List Nat), ∀ p ∈ TL.spl z k acc l, p.length ≤ acc.length + l.length ∧ ∀ c ∈ p, c ∈ acc ∨ c ∈ l
  | [], k, acc, p, h => by
    rw [TL.spl_nil] at h
    simp at h
    subst h
    exact ⟨by simp, fun c hc => .inl hc⟩
  | c :: r, 0, acc, p, h => by
    cases q : TL.pre z (c :: r) with
    | true =>
      rw [TL.spl_hit q] at h
      rcases List.mem_cons.mp h with rfl | h
      · exact ⟨by simp, fun c hc => .inl hc⟩
      · obtain ⟨h1, h2⟩ := spl_sub z r _ _ p h
        exact ⟨by simp at h1 ⊢; omega, fun d hd => (h2 d hd).elim (fun e => by cases e) fun e => .inr (List.mem_cons_of_mem _ e)⟩
    | false =>
      rw [TL.spl_miss q] at h
      obtain ⟨h1, h2⟩ := spl_sub z r _ _ p h
      refine ⟨by simp at h1 ⊢; omega, fun d hd => ?_⟩
      rcases h2 d hd with e | e
      · rcases List.mem_append.mp e with e | e
        · exact .inl e
        · simp at e; subst e; exact .inr (List.mem_cons_self ..)
      · exact .inr (List.mem_cons_of_mem _ e)
  | c :: r, k + 1, acc, p, h => by
    obtain ⟨h1, h2⟩ := spl_sub z r k acc p h
    exact ⟨by simp at h1 ⊢; omega, fun d hd => (h2 d hd).imp id fun e => List.mem_cons_of_mem _ e⟩
theorem spl_len (z : List Nat) : ∀ (l : List Nat) (k : Nat) (acc : List Nat), (TL.spl z k acc l).length ≤ l.length + 1
  | [], k, acc => by rw [TL.spl_nil]; simp
  | c :: r, 0, acc => by
    cases q : TL.pre z (c :: r) with
    | true => rw [TL.spl_hit q]; have := spl_len z r (z.length - 1) []; simp; omega
    | false => rw [TL.spl_miss q]; have := spl_len z r 0 (acc ++ [c]); simp; omega
  | c :: r, k + 1, acc => by have := spl_len z r k acc; show (TL.spl z k acc r).length ≤ _; simp; omega
theorem spl_ne (z : List Nat) : ∀ (l : List Nat) (k : Nat) (acc : List Nat), TL.spl z k acc l ≠ []
  | [], k, acc => by rw [TL.spl_nil]; simp
  | c :: r, 0, acc => by
    cases q : TL.pre z (c :: r) with
    | true => rw [TL.spl_hit q]; simp
    | false => rw [TL.spl_miss q]; exact spl_ne z r _ _
  | c :: r, k + 1, acc => spl_ne z r k acc
/-- the parts of a text -/
def splt (z a : List Nat) : List (List Nat) := TL.spl z 0 [] a
theorem splt_sub {z a p : List Nat} (h : p ∈ splt z a) : Sub p a := by
  obtain ⟨h1, h2⟩ := spl_sub z a 0 [] p h
  exact ⟨by simpa using h1, fun c hc => (h2 c hc).elim (fun e => by cases e) id⟩
theorem splt_len (z a : List Nat) : (splt z a).length ≤ a.length + 1 := spl_len z a 0 []
theorem splt_ne (z a : List Nat) : splt z a ≠ [] := spl_ne z a 0 []
theorem split_s {a z : List Nat} (hz : (!z.isEmpty && low z) = true) (ha : tx a) : mSplit (.str a) (.str z) = some (.lst ((splt z a).map .str)) := by
  show (if _ then _ else _) = _
  rw [if_pos]
  · rfl
  · rw [hz, Bool.true_and]
    have : sizeLine = 16777216 := by decide
    have := ha.1
    simp; omega
theorem split_l {a z : List Nat} (hz : (!z.isEmpty && low z) = true) (ha : a.length ≤ 1000000) : mSplit (.str a) (.str z) = some (.lst ((splt z a).map .str)) := by
  show (if _ then _ else _) = _
  rw [if_pos]
  · rfl
  · rw [hz, Bool.true_and]
    have : sizeLine = 16777216 := by decide
    simp; omega
theorem pre_eq {z l : List Nat} (h : TL.pre z l = true) : l = z ++ l.drop z.length := by
  unfold TL.pre at h
  have e : l.take z.length = z := by simpa using h
  conv => lhs; rw [← List.take_append_drop z.length l]
  rw [e]
theorem par_eq {z : List Nat} : ∀ {l acc p q : List Nat}, TL.par z acc l = some (p, q) → ∃ u, p = acc ++ u ∧ l = u ++ (z ++ q)
  | [], _, _, _, h => by cases h
  | c :: r, acc, p, q, h => by
    cases e : TL.pre z (c :: r) with
    | true =>
      rw [TL.par_hit e] at h
      cases h
      exact ⟨[], by simp, pre_eq e⟩
    | false =>
      rw [TL.par_miss e] at h
      obtain ⟨u, h1, h2⟩ := par_eq h
      exact ⟨c :: u, by rw [h1]; simp, by rw [h2]; rfl⟩
structure P3 where
  p : List Nat
  m : List Nat
  q : List Nat
def parP (z a : List Nat) : P3 := match TL.par z [] a with
  | some (p, q) => ⟨p, z, q⟩
  | none => ⟨a, [], []⟩
def eP (x : P3) : PV := .tup [.str x.p, .str x.m, .str x.q]
theorem part_s {a z : List Nat} (hz : (!z.isEmpty) = true) (ha : tx a) : mPart (.str a) (.str z) = some (.tup [.str (parP z a).p, .str (parP z a).m, .str (parP z a).q]) := by
  show (if _ then _ else _) = _
  rw [if_pos (by rw [hz, Bool.true_and]; exact decide_eq_true ha.le)]
  unfold parP
  cases TL.par z [] a with
  | none => rfl
  | some x => rfl
theorem parP_p (z a : List Nat) : Sub (parP z a).p a := by
  unfold parP
  cases e : TL.par z [] a with
  | none => exact Sub.refl a
  | some x =>
    obtain ⟨u, h1, h2⟩ := par_eq (p := x.1) (q := x.2) e
    simp only
    rw [h1, h2]
    exact ⟨by simp, fun c hc => by simp at hc ⊢; exact .inl hc⟩
theorem parP_q (z a : List Nat) : Sub (parP z a).q a := by
  unfold parP
  cases e : TL.par z [] a with
  | none => exact ⟨Nat.zero_le _, fun c hc => by cases hc⟩
  | some x =>
    obtain ⟨u, h1, h2⟩ := par_eq (p := x.1) (q := x.2) e
    simp only
    rw [h2]
    exact ⟨by simp; omega, fun c hc => by simp; exact .inr (.inr hc)⟩
theorem rpar_sub {c : Nat} : ∀ {a p q : List Nat}, rpar c a = some (p, q) → Sub p a ∧ Sub q a
  | [], _, _, h => by cases h
  | x :: xs, p, q, h => by
    unfold rpar at h
    cases e : rpar c xs with
    | some y =>
      obtain ⟨u, v⟩ := y
      rw [e] at h
      cases h
      obtain ⟨h1, h2⟩ := rpar_sub e
      exact ⟨⟨by have := h1.1; simp; omega, fun d hd => by
        rcases List.mem_cons.mp hd with rfl | hd
        · exact List.mem_cons_self ..
        · exact List.mem_cons_of_mem _ (h1.2 d hd)⟩, ⟨by have := h2.1; simp; omega, fun d hd => List.mem_cons_of_mem _ (h2.2 d hd)⟩⟩
    | none =>
      rw [e] at h
      simp only at h
      split at h
      · cases h; exact ⟨⟨Nat.zero_le _, fun d hd => by cases hd⟩, ⟨by simp, fun d hd => List.mem_cons_of_mem _ hd⟩⟩
      · cases h
def rparP (c : Nat) (a : List Nat) : P3 := match rpar c a with
  | some (p, q) => ⟨p, [c], q⟩
  | none => ⟨[], [], a⟩
theorem rpart_s {a : List Nat} {c : Nat} (ha : tx a) : mRpart (.str a) (.str [c]) = some (.tup [.str (rparP c a).p, .str (rparP c a).m, .str (rparP c a).q]) := by
  show (if _ then _ else _) = _
  rw [if_pos ha.le]
  unfold rparP
  cases rpar c a with
  | none => rfl
  | some x => rfl
theorem rparP_p (c : Nat) (a : List Nat) : Sub (rparP c a).p a := by
  unfold rparP
  cases e : rpar c a with
  | none => exact ⟨Nat.zero_le _, fun d hd => by cases hd⟩
  | some x => exact (rpar_sub (p := x.1) (q := x.2) e).1
theorem rparP_q (c : Nat) (a : List Nat) : Sub (rparP c a).q a := by
  unfold rparP
  cases e : rpar c a with
  | none => exact Sub.refl a
  | some x => exact (rpar_sub (p := x.1) (q := x.2) e).2
end K73
end
section
set_option Elab.async false
set_option linter.all false
set_option autoImplicit false
set_option maxRecDepth 100000
set_option maxHeartbeats 0
namespace K73
open PySem PySem.Spec PyProof.Rows L2 Tg
local macro_rules | `(tactic| walk_at "es") => `(tactic| try simp only [st0, st1, st2, st3, st4, evS, ev, evO, dSeqS, dSkip, dExpr, dRet, dRetN, dIfS, dAsg, dC, dNil, dCons, consV, dTup, dLst, dB1, dB2, dChain, dIte, dAnd, dOr, dNot, dCall,
  dCutL, dCutH, dCutB, dM1, dIx, dSeq, dSrc, dLc, dFor, dPar2, oCons, oNil, wipeE, opF, cmF, u1F, u2F, m1F, isiN, rngF, Tgt.put, List.set, List.headD_cons, List.tail_cons,
  bnd_ok, bnd_bad, bnd_exc, okv_s, onBl_b, onI_i, onS_s, onT_s, tst_b, tstS_b, okE_s, outF_rt, outF_nx, outF_exc, seqK_nx, seqK_rt, okL_s, asL_l, okN0, okN1, okN2, okN3, okN4, okN5, v0, v1, v2, v3, v4, v5, v6, v7, v8, v9, v10, v11,
  isi1, isi2, isi3, isi4, isi5, iss1, iss2, iss3, iss4, iss5, ist1, ist2, ist3, ist4, ist5, isn1, isn2, isn3, isb5, len_t, len_l, lt_i, le_i, gt_i, ge_i, eq_i, ne_i, eq_s, ne_s, lt_s, add_i, sub_i, neg_i, is_non, is_t, is_s, is_i, isn_non, isn_t, isn_s, isn_i,
  at_t0, at_t1, at_t2, at_t3, at_t4, ixt, ixl, ixs, sq_t, sq_l, sq_s, tup_l, in_c, nin_c, and_bl, or_bl, ite_ok, ret_ok, guard_ok, ib_and, ib_or, ib_f, nc0, nc1, nc2, nc3, nc4, nc5, nc6, Int.reduceLE, Int.reduceLT, Int.reduceEq, decide_true, decide_false, Int.le_refl, Int.lt_irrefl,
  List.length_cons, List.length_nil, List.replicate, List.cons_append, List.nil_append, Nat.add_zero, Nat.zero_add, Nat.reduceAdd, Nat.reduceSub, Option.getD_some, Option.getD_none, Bool.not_false, Bool.not_true, Bool.true_or, Bool.false_or, Bool.true_and, Bool.false_and, Bool.and_true, Bool.or_true, Bool.or_false, if_true, if_false, Bool.false_eq_true, ite_true, ite_false])
local macro_rules | `(tactic| walk_at "es2") => `(tactic| try simp -implicitDefEqProofs only [st0, st1, st2, st3, st4, evS, ev, evO, dSeqS, dSkip, dExpr, dRet, dRetN, dIfS, dAsg, dC, dNil, dCons, consV, dTup, dLst, dB1, dB2, dChain, dIte, dAnd, dOr, dNot, dCall,
  dCutL, dCutH, dCutB, dM1, dIx, dSeq, dSrc, dLc, dFor, dPar2, oCons, oNil, wipeE, opF, cmF, u1F, u2F, m1F, isiN, rngF, Tgt.put, List.set, List.headD_cons, List.tail_cons,
  bnd_ok, bnd_bad, bnd_exc, okv_s, onBl_b, onI_i, onS_s, onT_s, tst_b, tstS_b, okE_s, outF_rt, outF_nx, outF_exc, seqK_nx, seqK_rt, okL_s, asL_l, okN0, okN1, okN2, okN3, okN4, okN5, v0, v1, v2, v3, v4, v5, v6, v7, v8, v9, v10, v11,
  isi1, isi2, isi3, isi4, isi5, iss1, iss2, iss3, iss4, iss5, ist1, ist2, ist3, ist4, ist5, isn1, isn2, isn3, isb5, len_t, len_l, lt_i, le_i, gt_i, ge_i, eq_i, ne_i, eq_s, ne_s, lt_s, add_i, sub_i, neg_i, is_non, is_t, is_s, is_i, isn_non, isn_t, isn_s, isn_i,
  at_t0, at_t1, at_t2, at_t3, at_t4, ixt, ixl, ixs, sq_t, sq_l, sq_s, tup_l, in_c, nin_c, and_bl, or_bl, ite_ok, ret_ok, guard_ok, ib_and, ib_or, ib_f, nc0, nc1, nc2, nc3, nc4, nc5, nc6, Int.reduceLE, Int.reduceLT, Int.reduceEq, decide_true, decide_false, Int.le_refl, Int.lt_irrefl,
  List.length_cons, List.length_nil, List.replicate, List.cons_append, List.nil_append, Nat.add_zero, Nat.zero_add, Nat.reduceAdd, Nat.reduceSub, Option.getD_some, Option.getD_none, Bool.not_false, Bool.not_true, Bool.true_or, Bool.false_or, Bool.true_and, Bool.false_and, Bool.and_true, Bool.or_true, Bool.or_false, if_true, if_false, Bool.false_eq_true, ite_true, ite_false])
def isDig (s : List Nat) : Bool := s.all fun c => decide (c ∈ digs)
def intF (s : List Nat) (d : Nat) : Option Nat := if ((decide (0 < (s.length : Int)) && decide ((s.length : Int) ≤ (d : Int))) && isDig s) = true then (if (decide (s.take 1 = [48]) && !decide (s = [48])) = true then none else some (NumText.digitsVal s)) else none
theorem dig_digit {s : List Nat} (h : isDig s = true) : s.all digit = true := by
  unfold isDig at h
  rw [List.all_eq_true] at h ⊢
  intro c hc
  have := h c hc
  have : c ∈ digs := by simpa using this
  have k : ∀ c ∈ digs, digit c = true := by decide
  exact k c this
theorem int_ok (s : List Nat) (h : isDig s = true) (hne : s ≠ []) (hl : s.length ≤ 640) : uInt (.str s) = some (.int ((NumText.digitsVal s : Nat) : Int)) := by
  show (if _ then _ else _) = _
  rw [if_pos]
  rw [dig_digit h]
  cases s with
  | nil => exact (hne rfl).elim
  | cons a r => simpa using hl
theorem at_s0 {c : Nat} {r : List Nat} (h : (c :: r).length ≤ sizeLine) : vIdx (.str (c :: r)) (.int 0) = some (.str [c]) := by
  show (if _ then _ else _) = _
  rw [if_pos h]
  rfl
theorem s_integer_from (n : Nat) (S : Store) {s : List Nat} (hs : tx s) (d : Nat) (hd : d ≤ 600) : C (n + 1) i_integer_from [.str s, .int (d : Int)] S = .ok (eN (intF s d)) S := by
  rw [cc rfl n _ S rfl]
  walk_at "es"
  rw [len_s hs.le]
  walk_at "es"
  rw [Tg.signs, lc_enc (fun c : Nat => PV.str [c]) (fun c : Nat => PV.bl (decide (c ∈ digs))) hs.le (fun c _ => ⟨_, rfl, by walk_at "es", by walk_at "es"; rw [g2]; walk_at "es"⟩)]
  walk_at "es"
  rw [all_map]
  walk_at "es"
  unfold intF
  change _ = Rs.ok (eN (if ((decide (0 < (s.length : Int)) && decide ((s.length : Int) ≤ (d : Int))) && s.all fun c => decide (c ∈ digs)) = true then _ else _)) S
  cases hb : (decide (0 < (s.length : Int)) && decide ((s.length : Int) ≤ (d : Int))) with
  | false => rfl
  | true =>
    cases ha : s.all fun c => decide (c ∈ digs) with
    | false => rfl
    | true =>
      walk_at "es"
      cases s with
      | nil => cases hb
      | cons c r =>
        rw [at_s0 hs.le]
        walk_at "es"
        rw [int_ok _ ha (by simp) (by simp at hb ⊢; omega)]
        walk_at "es"
        rw [show List.take 1 (c :: r) = [c] from rfl]
        cases (decide ([c] = [48]) && !decide (c :: r = [48])) <;> rfl
theorem fold_lt : ∀ (s : List Nat), (∀ c ∈ s, c ≤ 57) → ∀ acc k : Nat, acc < 10 ^ k → s.foldl (fun acc c => acc * 10 + (c - 48)) acc < 10 ^ (k + s.length)
  | [], _, acc, k, h => h
  | c :: r, hc, acc, k, h => by
    rw [List.foldl_cons, List.length_cons, show k + (r.length + 1) = (k + 1) + r.length by omega]
    refine fold_lt r (fun d hd => hc d (List.mem_cons_of_mem _ hd)) _ _ ?_
    have := hc c (List.mem_cons_self ..)
    rw [Nat.pow_succ]
    omega
theorem intF_lt {s : List Nat} {d k : Nat} (h : intF s d = some k) : k < 10 ^ d := by
  unfold intF at h
  split at h
  · rename_i hb
    split at h
    · cases h
    · cases h
      rw [Bool.and_eq_true, Bool.and_eq_true] at hb
      obtain ⟨⟨_, h2⟩, h3⟩ := hb
      have h2 : s.length ≤ d := by simpa using h2
      unfold isDig at h3
      rw [List.all_eq_true] at h3
      have := fold_lt s (fun c hc => by
        have : c ∈ digs := by simpa using h3 c hc
        have k : ∀ c ∈ digs, c ≤ 57 := by decide
        exact k c this) 0 0 (by decide)
      rw [Nat.zero_add] at this
      exact Nat.lt_of_lt_of_le this (Nat.pow_le_pow_right (by decide) h2)
  · cases h
def numF (s : List Nat) : Option Nat := intF s 30
theorem s_number_from (n : Nat) (S : Store) {s : List Nat} (hs : tx s) : C (n + 2) i_number_from [.str s] S = .ok (eN (numF s)) S := by
  rw [cc rfl (n + 1) _ S rfl]
  walk_at "es"
  rw [g8]
  walk_at "es"
  rw [show (PV.int 30) = .int ((30 : Nat) : Int) from rfl, s_integer_from n S hs 30 (by decide)]
  walk_at "es"
  rfl
/-! ### all or none -/
def allO {α : Type} : List (Option α) → Option (List α)
  | [] => some []
  | none :: _ => none
  | some x :: r => match allO r with
    | some l => some (x :: l)
    | none => none
theorem allO_none {α : Type} : ∀ {l : List (Option α)}, none ∈ l → allO l = none
  | none :: _, _ => rfl
  | some x :: r, h => by
    have : none ∈ r := by simpa using h
    unfold allO
    rw [allO_none this]
theorem allO_some {α : Type} : ∀ {l : List (Option α)}, none ∉ l → ∃ m, allO l = some m ∧ l = m.map some
  | [], _ => ⟨[], rfl, rfl⟩
  | none :: _, h => by simp at h
  | some x :: r, h => by
    obtain ⟨m, h1, h2⟩ := allO_some (l := r) (by simpa using h)
    exact ⟨x :: m, by unfold allO; rw [h1], by rw [h2]; rfl⟩
theorem allO_mem {α : Type} {l : List (Option α)} {m : List α} (h : allO l = some m) : l = m.map some := by
  by_cases q : none ∈ l
  · rw [allO_none q] at h; cases h
  · obtain ⟨m', h1, h2⟩ := allO_some q
    rw [h1] at h; cases h; exact h2
theorem any_non {α : Type} (e : α → PV) (hn : ∀ x, isNonP (e x) = false) : ∀ l : List (Option α), (l.map (eO e)).any isNonP = true ↔ none ∈ l
  | [] => by simp
  | none :: r => by simp [eO, isNonP]
  | some x :: r => by
    rw [List.map_cons, List.any_cons, show eO e (some x) = e x from rfl, hn x, Bool.false_or, any_non e hn r]
    simp
theorem s_all_or_none {α : Type} (n : Nat) (S : Store) {k : Nat} (e : α → PV) {l : List (Option α)} (hn : ∀ x, isNonP (e x) = false) (hg : ∀ x, some x ∈ l → Gd k (e x)) (hk : k ≤ 63) : C (n + 1) i_all_or_none [.lst (l.map (eO e))] S = .ok (eO (eL e) (allO l)) S := by
  rw [cc rfl n _ S rfl]
  walk_at "es"
  unfold vIn
  rw [in_non (k := k) (by
    intro x hx
    obtain ⟨o, ho, rfl⟩ := List.mem_map.mp hx
    cases o with
    | none => exact gd_non
    | some x => exact hg x ho) hk]
  simp only [Option.map_some]
  walk_at "es"
  by_cases q : none ∈ l
  · rw [(any_non e hn l).mpr q, allO_none q]
    rfl
  · have h0 : (l.map (eO e)).any isNonP = false := by
      cases h : (l.map (eO e)).any isNonP with
      | false => rfl
      | true => exact (q ((any_non e hn l).mp h)).elim
    obtain ⟨m, h1, h2⟩ := allO_some q
    rw [h0, h1, h2, List.map_map]
    rfl
/-! ### text_from, items -/
def textF (s : List Nat) : List Nat := if s = [46] then [] else s
theorem s_text_from (n : Nat) (S : Store) (s : List Nat) : C (n + 1) i_text_from [.str s] S = .ok (.str (textF s)) S := by
  rw [cc rfl n _ S rfl]
  walk_at "es"
  unfold textF
  by_cases h : s = [46] <;> simp [h]
theorem textF_tx {s : List Nat} (h : tx s) : tx (textF s) := by
  unfold textF
  split
  · exact ⟨Nat.zero_le _, fun c hc => by cases hc⟩
  · exact h
theorem s_word_from (n : Nat) (S : Store) (k : Int) {s : List Nat} (hs : tx s) : C (n + 2) i_word_from [.int k, .str s] S = .ok (if (isW k (textF s) && !decide (s = [])) = true then .str (textF s) else .non) S := by
  rw [cc rfl (n + 1) _ S rfl]
  walk_at "es"
  rw [s_text_from]
  walk_at "es"
  rw [s_is_word n S k (textF_tx hs).le]
  walk_at "es"
theorem g5 : dG G0 j_KINDS_finding = dC (.kdc [(.s [63], .str [109, 97, 121, 98, 101]), (.s [42], .str [97, 110, 121])]) := rfl
def itemF (s : List Nat) : Item := if s = [35] then .edge else if s.drop (s.length - 1) = [63] then .may s.dropLast else if s.drop (s.length - 1) = [42] then .any s.dropLast else .one s
theorem cut_tail (s : List Nat) : cutP s (some (-1)) none = s.drop (s.length - 1) := by
  unfold cutP sPl
  simp only [if_pos (show (-1 : Int) < 0 by decide)]
  rw [List.take_of_length_le]
  · congr 1; omega
  · rw [List.length_drop]; omega
theorem s_item_from (n : Nat) (S : Store) {s : List Nat} (hs : tx s) : C (n + 1) i_item_from [.str s] S = .ok (eI (itemF s)) S := by
  rw [cc rfl n _ S rfl]
  walk_at "es"
  unfold itemF
  by_cases h0 : s = [35]
  · rw [if_pos h0, decide_eq_true h0]; walk_at "es"; rfl
  · rw [if_neg h0, decide_eq_false h0]
    walk_at "es"
    rw [g5]
    unfold dMD
    walk_at "es"
    rw [cutS hs.le, cut_tail]
    walk_at "es"
    rw [show ∀ (d : List (KP × PV)) (k : Rs PV), onD (.kdc d) k = k from fun _ _ => rfl]
    rw [show mGet (.kdc [(.s [63], .str [109, 97, 121, 98, 101]), (.s [42], .str [97, 110, 121])]) (.str (s.drop (s.length - 1))) = some (if s.drop (s.length - 1) = [63] then .str [109, 97, 121, 98, 101] else if s.drop (s.length - 1) = [42] then .str [97, 110, 121] else .non) from by
      show some ((dLook (.s (s.drop (s.length - 1))) _).getD .non) = _
      unfold dLook
      by_cases h : s.drop (s.length - 1) = [63]
      · rw [h]; rfl
      · have h' : ¬ KP.s [63] = KP.s (s.drop (s.length - 1)) := fun e => h (by injection e with e; exact e.symm)
        rw [if_neg h', if_neg h]
        unfold dLook
        by_cases q : s.drop (s.length - 1) = [42]
        · rw [q]; rfl
        · have q' : ¬ KP.s [42] = KP.s (s.drop (s.length - 1)) := fun e => q (by injection e with e; exact e.symm)
          rw [if_neg q', if_neg q]
          rfl]
    walk_at "es"
    by_cases h : s.drop (s.length - 1) = [63]
    · rw [if_pos h, if_pos h]
      walk_at "es"
      rw [cutS hs.le, cut_last]
      walk_at "es"
      rfl
    · rw [if_neg h, if_neg h]
      by_cases q : s.drop (s.length - 1) = [42]
      · rw [if_pos q, if_pos q]
        walk_at "es"
        rw [cutS hs.le, cut_last]
        walk_at "es"
        rfl
      · rw [if_neg q, if_neg q]
        walk_at "es"
        rfl
end K73
end
section
set_option Elab.async false
set_option linter.all false
set_option autoImplicit false
set_option maxRecDepth 100000
set_option maxHeartbeats 0
namespace K73
open PySem PySem.Spec PyProof.Rows L2 Tg
local macro_rules | `(tactic| walk_at "es") => `(tactic| try simp only [st0, st1, st2, st3, st4, evS, ev, evO, dSeqS, dSkip, dExpr, dRet, dRetN, dIfS, dAsg, dC, dNil, dCons, consV, dTup, dLst, dB1, dB2, dChain, dIte, dAnd, dOr, dNot, dCall,
  dCutL, dCutH, dCutB, dM1, dIx, dSeq, dSrc, dLc, dFor, dPar2, oCons, oNil, wipeE, opF, cmF, u1F, u2F, m1F, isiN, rngF, Tgt.put, List.set, List.headD_cons, List.tail_cons,
  bnd_ok, bnd_bad, bnd_exc, okv_s, onBl_b, onI_i, onS_s, onT_s, tst_b, tstS_b, okE_s, outF_rt, outF_nx, outF_exc, seqK_nx, seqK_rt, okL_s, asL_l, okN0, okN1, okN2, okN3, okN4, okN5, v0, v1, v2, v3, v4, v5, v6, v7, v8, v9, v10, v11,
  isi1, isi2, isi3, isi4, isi5, iss1, iss2, iss3, iss4, iss5, ist1, ist2, ist3, ist4, ist5, isn1, isn2, isn3, isb5, len_t, len_l, lt_i, le_i, gt_i, ge_i, eq_i, ne_i, eq_s, ne_s, lt_s, add_i, sub_i, neg_i, is_non, is_t, is_s, is_i, isn_non, isn_t, isn_s, isn_i,
  at_t0, at_t1, at_t2, at_t3, at_t4, ixt, ixl, ixs, sq_t, sq_l, sq_s, tup_l, in_c, nin_c, and_bl, or_bl, ite_ok, ret_ok, guard_ok, ib_and, ib_or, ib_f, nc0, nc1, nc2, nc3, nc4, nc5, nc6, Int.reduceLE, Int.reduceLT, Int.reduceEq, decide_true, decide_false, Int.le_refl, Int.lt_irrefl,
  List.length_cons, List.length_nil, List.replicate, List.cons_append, List.nil_append, Nat.add_zero, Nat.zero_add, Nat.reduceAdd, Nat.reduceSub, Option.getD_some, Option.getD_none, Bool.not_false, Bool.not_true, Bool.true_or, Bool.false_or, Bool.true_and, Bool.false_and, Bool.and_true, Bool.or_true, Bool.or_false, if_true, if_false, Bool.false_eq_true, ite_true, ite_false])
local macro_rules | `(tactic| walk_at "es2") => `(tactic| try simp -implicitDefEqProofs only [st0, st1, st2, st3, st4, evS, ev, evO, dSeqS, dSkip, dExpr, dRet, dRetN, dIfS, dAsg, dC, dNil, dCons, consV, dTup, dLst, dB1, dB2, dChain, dIte, dAnd, dOr, dNot, dCall,
  dCutL, dCutH, dCutB, dM1, dIx, dSeq, dSrc, dLc, dFor, dPar2, oCons, oNil, wipeE, opF, cmF, u1F, u2F, m1F, isiN, rngF, Tgt.put, List.set, List.headD_cons, List.tail_cons,
  bnd_ok, bnd_bad, bnd_exc, okv_s, onBl_b, onI_i, onS_s, onT_s, tst_b, tstS_b, okE_s, outF_rt, outF_nx, outF_exc, seqK_nx, seqK_rt, okL_s, asL_l, okN0, okN1, okN2, okN3, okN4, okN5, v0, v1, v2, v3, v4, v5, v6, v7, v8, v9, v10, v11,
  isi1, isi2, isi3, isi4, isi5, iss1, iss2, iss3, iss4, iss5, ist1, ist2, ist3, ist4, ist5, isn1, isn2, isn3, isb5, len_t, len_l, lt_i, le_i, gt_i, ge_i, eq_i, ne_i, eq_s, ne_s, lt_s, add_i, sub_i, neg_i, is_non, is_t, is_s, is_i, isn_non, isn_t, isn_s, isn_i,
  at_t0, at_t1, at_t2, at_t3, at_t4, ixt, ixl, ixs, sq_t, sq_l, sq_s, tup_l, in_c, nin_c, and_bl, or_bl, ite_ok, ret_ok, guard_ok, ib_and, ib_or, ib_f, nc0, nc1, nc2, nc3, nc4, nc5, nc6, Int.reduceLE, Int.reduceLT, Int.reduceEq, decide_true, decide_false, Int.le_refl, Int.lt_irrefl,
  List.length_cons, List.length_nil, List.replicate, List.cons_append, List.nil_append, Nat.add_zero, Nat.zero_add, Nat.reduceAdd, Nat.reduceSub, Option.getD_some, Option.getD_none, Bool.not_false, Bool.not_true, Bool.true_or, Bool.false_or, Bool.true_and, Bool.false_and, Bool.and_true, Bool.or_true, Bool.or_false, if_true, if_false, Bool.false_eq_true, ite_true, ite_false])
theorem itemF_ok {s : List Nat} (hs : tx s) : (itemF s).ok := by
  have h : tx s.dropLast := hs.sub ⟨by rw [List.length_dropLast]; exact Nat.sub_le _ _, fun c hc => List.dropLast_subset _ hc⟩
  unfold itemF
  split
  · trivial
  · split
    · exact h.g
    · split
      · exact h.g
      · exact hs.g
def rowF (s : List Nat) : List (List Nat) := if s = [46] then [] else splt [32] s
def patF (s : List Nat) : List (List Item) := (splt [32, 124, 32] s).map fun r => (rowF r).map itemF
theorem rowF_tx {s w : List Nat} (hs : tx s) (h : w ∈ rowF s) : tx w := by
  unfold rowF at h
  split at h
  · cases h
  · exact hs.sub (splt_sub h)
theorem rowF_len {s : List Nat} (hs : tx s) : (rowF s).length ≤ 501 := by
  unfold rowF
  split
  · exact Nat.zero_le _
  · exact Nat.le_trans (splt_len _ _) (by have := hs.1; omega)
theorem patF_ok {s : List Nat} (hs : tx s) : patOk (patF s) := by
  unfold patF
  refine ⟨by rw [List.length_map]; exact Nat.le_trans (splt_len _ _) (by have := hs.1; omega), fun r hr => ?_⟩
  obtain ⟨w, hw, rfl⟩ := List.mem_map.mp hr
  have ht := hs.sub (splt_sub hw)
  refine ⟨by rw [List.length_map]; exact Nat.le_trans (rowF_len ht) (by decide), fun i hi => ?_⟩
  obtain ⟨x, hx, rfl⟩ := List.mem_map.mp hi
  exact itemF_ok (rowF_tx ht hx)
theorem s_pattern_in (n : Nat) (S : Store) {s : List Nat} (hs : tx s) : C (n + 2) i_pattern_in [.str s] S = .ok (ePat (patF s)) S := by
  rw [cc rfl (n + 1) _ S rfl]
  walk_at "es"
  rw [split_s rfl hs]
  walk_at "es"
  have hl : (splt [32, 124, 32] s).length ≤ sizeLine := s_le (Nat.le_trans (splt_len _ _) (by have := hs.1; omega : _ ≤ 501))
  rw [lc_enc PV.str (fun r => PV.lst ((rowF r).map .str)) hl (fun r hr => ⟨_, rfl, by walk_at "es", by
    walk_at "es"
    have ht := hs.sub (splt_sub hr)
    unfold rowF
    by_cases h : r = [46]
    · rw [decide_eq_true h, if_pos h]
      walk_at "es"
      rfl
    · rw [decide_eq_false h, if_neg h]
      walk_at "es"
      rw [split_s rfl ht]
      walk_at "es"⟩)]
  walk_at "es"
  rw [lc_enc (fun r => PV.lst ((rowF r).map .str)) (fun r => PV.tup (((rowF r).map itemF).map eI)) hl (fun r hr => ⟨_, rfl, by walk_at "es", by
    walk_at "es"
    have ht := hs.sub (splt_sub hr)
    rw [lc_enc PV.str (fun w => eI (itemF w)) (s_le (k := 501) (rowF_len ht)) (fun w hw => ⟨_, rfl, by walk_at "es", by walk_at "es"; rw [s_item_from n S (rowF_tx ht hw)]⟩)]
    walk_at "es"
    rw [List.map_map]
    rfl⟩)]
  walk_at "es"
  unfold ePat patF eRow
  rw [List.map_map]
  rfl
def chF (s : List Nat) : List Nat × List Nat := ((parP [62] s).p, textF (parP [62] s).q)
theorem s_change_from (n : Nat) (S : Store) {s : List Nat} (hs : tx s) : C (n + 2) i_change_from [.str s] S = .ok (eCh (chF s)) S := by
  rw [cc rfl (n + 1) _ S rfl]
  walk_at "es"
  rw [part_s rfl hs]
  walk_at "es"
  rw [s_text_from]
  walk_at "es"
  rfl
theorem chF_ok {s : List Nat} (hs : tx s) : chOk (chF s) := ⟨(hs.sub (parP_p _ _)).g, (textF_tx (hs.sub (parP_q _ _))).g⟩
def ruleF (s : List Nat) : Option Rule := match splt [32, 47, 32] s with
  | [a, b, c] => some ⟨(splt [32] a).map chF, patF (parP [32, 95, 32] b).p, patF (parP [32, 95, 32] b).q, (rparP 32 c).p, (rparP 32 c).q⟩
  | _ => none
theorem ruleF_ok {s : List Nat} (hs : tx s) {r : Rule} (h : ruleF s = some r) : r.ok := by
  unfold ruleF at h
  split at h
  · rename_i a b c e
    cases h
    have ha : tx a := hs.sub (splt_sub (z := [32, 47, 32]) (by rw [e]; simp))
    have hb : tx b := hs.sub (splt_sub (z := [32, 47, 32]) (by rw [e]; simp))
    have hc : tx c := hs.sub (splt_sub (z := [32, 47, 32]) (by rw [e]; simp))
    refine ⟨⟨by rw [List.length_map]; exact Nat.le_trans (splt_len _ _) (by have := ha.1; omega), fun x hx => ?_⟩, patF_ok (hb.sub (parP_p _ _)), patF_ok (hb.sub (parP_q _ _)), (hc.sub (rparP_p _ _)).g, (hc.sub (rparP_q _ _)).g⟩
    obtain ⟨w, hw, rfl⟩ := List.mem_map.mp hx
    exact chF_ok (ha.sub (splt_sub hw))
  · cases h
theorem at_l0 {a : PV} {l : List PV} : vIdx (.lst (a :: l)) (.int 0) = some a := rfl
theorem at_l1 {a b : PV} {l : List PV} : vIdx (.lst (a :: b :: l)) (.int 1) = some b := rfl
theorem at_l2 {a b c : PV} {l : List PV} : vIdx (.lst (a :: b :: c :: l)) (.int 2) = some c := rfl
theorem at_l3 {a b c d : PV} {l : List PV} : vIdx (.lst (a :: b :: c :: d :: l)) (.int 3) = some d := rfl
theorem at_l4 {a b c d e : PV} {l : List PV} : vIdx (.lst (a :: b :: c :: d :: e :: l)) (.int 4) = some e := rfl
theorem len3 {α : Type} : ∀ {l : List α}, l.length = 3 → ∃ a b c, l = [a, b, c]
  | [a, b, c], _ => ⟨a, b, c, rfl⟩
theorem len4 {α : Type} : ∀ {l : List α}, l.length = 4 → ∃ a b c d, l = [a, b, c, d]
  | [a, b, c, d], _ => ⟨a, b, c, d, rfl⟩
theorem len5 {α : Type} : ∀ {l : List α}, l.length = 5 → ∃ a b c d e, l = [a, b, c, d, e]
  | [a, b, c, d, e], _ => ⟨a, b, c, d, e, rfl⟩
theorem ruleF_no {s : List Nat} (h : ¬ (splt [32, 47, 32] s).length = 3) : ruleF s = none := by
  unfold ruleF
  split
  · rename_i e; rw [e] at h; exact (h rfl).elim
  · rfl
theorem ruleF_3 {s a b c : List Nat} (e : splt [32, 47, 32] s = [a, b, c]) : ruleF s = some ⟨(splt [32] a).map chF, patF (parP [32, 95, 32] b).p, patF (parP [32, 95, 32] b).q, (rparP 32 c).p, (rparP 32 c).q⟩ := by
  unfold ruleF; rw [e]
theorem s_rule_in (n : Nat) (S : Store) {s : List Nat} (hs : tx s) : C (n + 3) i_rule_in [.str s] S = .ok (eO eRule (ruleF s)) S := by
  rw [cc rfl (n + 2) _ S rfl]
  walk_at "es"
  rw [split_s rfl hs]
  walk_at "es"
  rw [List.length_map]
  by_cases h3 : (splt [32, 47, 32] s).length = 3
  · obtain ⟨a, b, c, e⟩ := len3 h3
    rw [ruleF_3 e]
    have ha : tx a := hs.sub (splt_sub (z := [32, 47, 32]) (by rw [e]; simp))
    have hb : tx b := hs.sub (splt_sub (z := [32, 47, 32]) (by rw [e]; simp))
    have hc : tx c := hs.sub (splt_sub (z := [32, 47, 32]) (by rw [e]; simp))
    rw [e]
    simp only [List.map_cons, List.map_nil]
    walk_at "es"
    rw [at_l0]
    walk_at "es"
    rw [split_s rfl ha]
    walk_at "es"
    rw [lc_enc PV.str (fun w => eCh (chF w)) (s_le (Nat.le_trans (splt_len _ _) (by have := ha.1; omega : _ ≤ 501))) (fun w hw => ⟨_, rfl, by walk_at "es", by walk_at "es"; rw [s_change_from n S (ha.sub (splt_sub hw))]⟩)]
    walk_at "es"
    rw [at_l1]
    walk_at "es"
    rw [part_s rfl hb]
    walk_at "es"
    rw [at_l2]
    walk_at "es"
    rw [rpart_s hc]
    walk_at "es"
    rw [s_pattern_in n S (hb.sub (parP_p _ _))]
    walk_at "es"
    rw [s_pattern_in n S (hb.sub (parP_q _ _))]
    walk_at "es"
    show _ = Rs.ok (eRule _) S
    unfold eRule
    rw [List.map_map]
    rfl
  · have : ¬ ((splt [32, 47, 32] s).length : Int) = 3 := fun q => h3 (by omega)
    rw [decide_eq_false this, ruleF_no h3]
    walk_at "es"
    rfl
end K73
end
section
set_option Elab.async false
set_option linter.all false
set_option autoImplicit false
set_option maxRecDepth 100000
set_option maxHeartbeats 0
namespace K73
open PySem PySem.Spec PyProof.Rows L2 Tg
local macro_rules | `(tactic| walk_at "es") => `(tactic| try simp only [st0, st1, st2, st3, st4, evS, ev, evO, dSeqS, dSkip, dExpr, dRet, dRetN, dIfS, dAsg, dC, dNil, dCons, consV, dTup, dLst, dB1, dB2, dChain, dIte, dAnd, dOr, dNot, dCall,
  dCutL, dCutH, dCutB, dM1, dIx, dSeq, dSrc, dLc, dFor, dPar2, oCons, oNil, wipeE, opF, cmF, u1F, u2F, m1F, isiN, rngF, Tgt.put, List.set, List.headD_cons, List.tail_cons,
  bnd_ok, bnd_bad, bnd_exc, okv_s, onBl_b, onI_i, onS_s, onT_s, tst_b, tstS_b, okE_s, outF_rt, outF_nx, outF_exc, seqK_nx, seqK_rt, okL_s, asL_l, okN0, okN1, okN2, okN3, okN4, okN5, v0, v1, v2, v3, v4, v5, v6, v7, v8, v9, v10, v11,
  isi1, isi2, isi3, isi4, isi5, iss1, iss2, iss3, iss4, iss5, ist1, ist2, ist3, ist4, ist5, isn1, isn2, isn3, isb5, len_t, len_l, lt_i, le_i, gt_i, ge_i, eq_i, ne_i, eq_s, ne_s, lt_s, add_i, sub_i, neg_i, is_non, is_t, is_s, is_i, isn_non, isn_t, isn_s, isn_i,
  at_t0, at_t1, at_t2, at_t3, at_t4, ixt, ixl, ixs, sq_t, sq_l, sq_s, tup_l, in_c, nin_c, and_bl, or_bl, ite_ok, ret_ok, guard_ok, ib_and, ib_or, ib_f, nc0, nc1, nc2, nc3, nc4, nc5, nc6, Int.reduceLE, Int.reduceLT, Int.reduceEq, decide_true, decide_false, Int.le_refl, Int.lt_irrefl,
  List.length_cons, List.length_nil, List.replicate, List.cons_append, List.nil_append, Nat.add_zero, Nat.zero_add, Nat.reduceAdd, Nat.reduceSub, Option.getD_some, Option.getD_none, Bool.not_false, Bool.not_true, Bool.true_or, Bool.false_or, Bool.true_and, Bool.false_and, Bool.and_true, Bool.or_true, Bool.or_false, if_true, if_false, Bool.false_eq_true, ite_true, ite_false])
local macro_rules | `(tactic| walk_at "es2") => `(tactic| try simp -implicitDefEqProofs only [st0, st1, st2, st3, st4, evS, ev, evO, dSeqS, dSkip, dExpr, dRet, dRetN, dIfS, dAsg, dC, dNil, dCons, consV, dTup, dLst, dB1, dB2, dChain, dIte, dAnd, dOr, dNot, dCall,
  dCutL, dCutH, dCutB, dM1, dIx, dSeq, dSrc, dLc, dFor, dPar2, oCons, oNil, wipeE, opF, cmF, u1F, u2F, m1F, isiN, rngF, Tgt.put, List.set, List.headD_cons, List.tail_cons,
  bnd_ok, bnd_bad, bnd_exc, okv_s, onBl_b, onI_i, onS_s, onT_s, tst_b, tstS_b, okE_s, outF_rt, outF_nx, outF_exc, seqK_nx, seqK_rt, okL_s, asL_l, okN0, okN1, okN2, okN3, okN4, okN5, v0, v1, v2, v3, v4, v5, v6, v7, v8, v9, v10, v11,
  isi1, isi2, isi3, isi4, isi5, iss1, iss2, iss3, iss4, iss5, ist1, ist2, ist3, ist4, ist5, isn1, isn2, isn3, isb5, len_t, len_l, lt_i, le_i, gt_i, ge_i, eq_i, ne_i, eq_s, ne_s, lt_s, add_i, sub_i, neg_i, is_non, is_t, is_s, is_i, isn_non, isn_t, isn_s, isn_i,
  at_t0, at_t1, at_t2, at_t3, at_t4, ixt, ixl, ixs, sq_t, sq_l, sq_s, tup_l, in_c, nin_c, and_bl, or_bl, ite_ok, ret_ok, guard_ok, ib_and, ib_or, ib_f, nc0, nc1, nc2, nc3, nc4, nc5, nc6, Int.reduceLE, Int.reduceLT, Int.reduceEq, decide_true, decide_false, Int.le_refl, Int.lt_irrefl,
  List.length_cons, List.length_nil, List.replicate, List.cons_append, List.nil_append, Nat.add_zero, Nat.zero_add, Nat.reduceAdd, Nat.reduceSub, Option.getD_some, Option.getD_none, Bool.not_false, Bool.not_true, Bool.true_or, Bool.false_or, Bool.true_and, Bool.false_and, Bool.and_true, Bool.or_true, Bool.or_false, if_true, if_false, Bool.false_eq_true, ite_true, ite_false])
/-! ### joined texts -/
theorem join_len (a : List Nat) : ∀ ys : List (List Nat), (TL.joinL a ys).length ≤ (ys.map (·.length)).sum + ys.length * a.length
  | [] => by simp [TL.joinL]
  | [p] => by simp [TL.joinL]
  | p :: q :: r => by
    have ih := join_len a (q :: r)
    unfold TL.joinL
    simp only [List.length_append, List.map_cons, List.sum_cons, List.length_cons] at ih ⊢
    rw [show (r.length + 1 + 1) * a.length = (r.length + 1) * a.length + a.length from Nat.succ_mul _ _]
    omega
theorem sum_le {B : Nat} : ∀ {ys : List (List Nat)}, (∀ y ∈ ys, y.length ≤ B) → (ys.map (·.length)).sum ≤ ys.length * B
  | [], _ => by simp
  | y :: r, h => by
    have := sum_le fun z hz => h z (List.mem_cons_of_mem _ hz)
    have := h y (List.mem_cons_self ..)
    rw [List.map_cons, List.sum_cons, List.length_cons, Nat.succ_mul]
    omega
theorem jb_le {B K : Nat} {a : List Nat} {ys : List (List Nat)} (h : ∀ y ∈ ys, y.length ≤ B) (hn : ys.length ≤ K) : (ys.map (·.length)).sum + ys.length * a.length ≤ K * (B + a.length) := by
  have h1 := sum_le h
  have h2 : ys.length * (B + a.length) ≤ K * (B + a.length) := Nat.mul_le_mul_right _ hn
  rw [Nat.mul_add] at h2
  omega
theorem join_s {B K : Nat} {a : List Nat} {ys : List (List Nat)} (h : ∀ y ∈ ys, y.length ≤ B) (hn : ys.length ≤ K) (hb : K * (B + a.length) ≤ 16777216) : mJoin (.str a) (.lst (ys.map .str)) = some (.str (TL.joinL a ys)) := by
  unfold mJoin
  simp only [show asStrs (ys.map PV.str) = some (ys.map id) from asStrs_map id ys, List.map_id]
  rw [if_pos (Nat.le_trans (jb_le h hn) hb)]
theorem join_le {B K : Nat} {a : List Nat} {ys : List (List Nat)} (h : ∀ y ∈ ys, y.length ≤ B) (hn : ys.length ≤ K) : (TL.joinL a ys).length ≤ K * (B + a.length) := Nat.le_trans (join_len a ys) (jb_le h hn)
theorem join_t {B K : Nat} {a : List Nat} {ys : List (List Nat)} (h : ∀ y ∈ ys, y.length ≤ B) (hn : ys.length ≤ K) (hb : K * (B + a.length) ≤ 16777216) : mJoin (.str a) (.tup (ys.map .str)) = some (.str (TL.joinL a ys)) := by
  unfold mJoin
  simp only [show asStrs (ys.map PV.str) = some (ys.map id) from asStrs_map id ys, List.map_id]
  rw [if_pos (Nat.le_trans (jb_le h hn) hb)]
theorem js_ok {r : Den} {ρ : Tg.Env} {S : Store} {t : List Nat} (h : r ρ S = .ok (.str t) S) (hl : t.length ≤ sizeLine) : dJs r ρ S = .ok (.str t) S := by
  unfold dJs
  rw [h]
  simp only
  rw [if_pos hl]
theorem fm_s {s : List Nat} {S : Store} (h : s.length ≤ sizeLine) : fmtK (.str s) S = .ok (.str s) S := by
  unfold fmtK fText
  simp only
  rw [if_pos h]
theorem log_num {k : Nat} (h : k < 10 ^ 30) : k.log2 < 1920 := by
  by_cases hk : k = 0
  · subst hk; decide
  · rw [Nat.log2_lt hk]
    exact Nat.lt_of_lt_of_le h (Nat.le_trans (show 10 ^ 30 ≤ 2 ^ 100 by decide) (Nat.pow_le_pow_right (by decide) (by decide)))
theorem fm_n {k : Nat} {S : Store} (h : k < 10 ^ 30) : fmtK (.int (k : Int)) S = .ok (.str (TL.numL k)) S := by
  unfold fmtK fText
  show (match (if k.log2 < 1920 then some (TL.numL k) else none) with
    | some s => Rs.ok (PV.str s) S
    | none => .bad) = _
  rw [if_pos (log_num h)]
theorem str_n {k : Nat} (h : k < 10 ^ 30) : uStr (.int (k : Int)) = some (.str (TL.numL k)) := by
  show (if k.log2 < 1920 then _ else _) = _
  rw [if_pos (log_num h)]
theorem num_len {k : Nat} (h : k < 10 ^ 30) : (TL.numL k).length ≤ 30 := TL.numL_len (by decide) h
theorem add_s {a b : List Nat} (h : a.length + b.length ≤ 1000000) : vAdd (.str a) (.str b) = some (.str (a ++ b)) := by
  show isz _ _ = _
  unfold isz
  rw [if_pos]
  have : sizeLine = 16777216 := by decide
  omega
theorem add_l {a b : List PV} (h : a.length + b.length ≤ 1000000) : vAdd (.lst a) (.lst b) = some (.lst (a ++ b)) := by
  show isz _ _ = _
  unfold isz
  rw [if_pos]
  have : sizeLine = 16777216 := by decide
  omega
/-! ### words, patterns -/
def wordT (s : List Nat) : List Nat := if s = [] then [46] else s
theorem s_show_word (n : Nat) (S : Store) (s : List Nat) : C (n + 1) i_show_word [.str s] S = .ok (.str (wordT s)) S := by
  rw [cc rfl n _ S rfl]
  walk_at "es"
  unfold wordT
  by_cases h : s = [] <;> simp [h]
def itT : Item → List Nat
  | .edge => [35]
  | .one w => w ++ []
  | .may w => w ++ [63]
  | .any w => w ++ [42]
def itS (i : Item) : Prop := (itT i).length ≤ 501
theorem g7 : dG G0 j_MARKS = dC (.kdc [(.s [111, 110, 101], .str []), (.s [109, 97, 121, 98, 101], .str [63]), (.s [97, 110, 121], .str [42])]) := rfl
theorem s_item_text (n : Nat) (S : Store) {i : Item} (h : itS i) : C (n + 1) i_item_text [eI i] S = .ok (.str (itT i)) S := by
  rw [cc rfl n _ S rfl]
  cases i with
  | edge => walk_at "es"; simp only [eI]; walk_at "es"; rfl
  | one w =>
    simp only [eI]
    walk_at "es"
    rw [g7]
    walk_at "es"
    rw [show decide (([111, 110, 101] : List Nat) = [101, 100, 103, 101]) = false from rfl]
    walk_at "es"
    rw [show ∀ S : Store, ixS (.kdc [(.s [111, 110, 101], .str []), (.s [109, 97, 121, 98, 101], .str [63]), (.s [97, 110, 121], .str [42])]) (.str [111, 110, 101]) S = some (.str []) from fun _ => rfl]
    walk_at "es"
    rw [add_s (by unfold itS itT at h; simp at h ⊢; omega)]
    walk_at "es"
    rfl
  | may w =>
    simp only [eI]
    walk_at "es"
    rw [g7]
    walk_at "es"
    rw [show decide (([109, 97, 121, 98, 101] : List Nat) = [101, 100, 103, 101]) = false from rfl]
    walk_at "es"
    rw [show ∀ S : Store, ixS (.kdc [(.s [111, 110, 101], .str []), (.s [109, 97, 121, 98, 101], .str [63]), (.s [97, 110, 121], .str [42])]) (.str [109, 97, 121, 98, 101]) S = some (.str [63]) from fun _ => rfl]
    walk_at "es"
    rw [add_s (by unfold itS itT at h; simp at h ⊢; omega)]
    walk_at "es"
    rfl
  | any w =>
    simp only [eI]
    walk_at "es"
    rw [g7]
    walk_at "es"
    rw [show decide (([97, 110, 121] : List Nat) = [101, 100, 103, 101]) = false from rfl]
    walk_at "es"
    rw [show ∀ S : Store, ixS (.kdc [(.s [111, 110, 101], .str []), (.s [109, 97, 121, 98, 101], .str [63]), (.s [97, 110, 121], .str [42])]) (.str [97, 110, 121]) S = some (.str [42]) from fun _ => rfl]
    walk_at "es"
    rw [add_s (by unfold itS itT at h; simp at h ⊢; omega)]
    walk_at "es"
    rfl
def rowT (r : List Item) : List Nat := if r.isEmpty = true then [46] else TL.joinL [32] (r.map itT)
def rowS (r : List Item) : Prop := rowOk r ∧ r.length ≤ 6 ∧ ∀ i ∈ r, itS i
theorem itm_le {r : List Item} (h : rowS r) : ∀ y ∈ r.map itT, y.length ≤ 501 := fun y hy => by
  obtain ⟨i, hi, rfl⟩ := List.mem_map.mp hy
  exact h.2.2 i hi
theorem s_row_text (n : Nat) (S : Store) {r : List Item} (h : rowS r) : C (n + 2) i_row_text [eRow r] S = .ok (.str (rowT r)) S := by
  rw [cc rfl (n + 1) _ S rfl]
  walk_at "es"
  unfold eRow
  rw [ne_t0 (gd_row h.1), isEmpty_map]
  walk_at "es"
  unfold rowT
  cases r.isEmpty with
  | true => walk_at "es"
  | false =>
    walk_at "es"
    rw [lc_enc eI (fun i => PV.str (itT i)) (s_le h.1.1) (fun i hi => ⟨_, rfl, by walk_at "es", by walk_at "es"; rw [s_item_text n S (h.2.2 i hi)]⟩)]
    walk_at "es"
    rw [show r.map (fun i => PV.str (itT i)) = (r.map itT).map .str from by rw [List.map_map]; rfl, join_s (B := 501) (K := 6) (itm_le h) (by rw [List.length_map]; exact h.2.1) (by decide)]
    walk_at "es"
theorem rowT_le {r : List Item} (h : rowS r) : (rowT r).length ≤ 3012 := by
  unfold rowT
  split
  · decide
  · exact join_le (B := 501) (K := 6) (a := [32]) (itm_le h) (by rw [List.length_map]; exact h.2.1)
def patT (p : List (List Item)) : List Nat := TL.joinL [32, 124, 32] (p.map rowT)
def patS (p : List (List Item)) : Prop := p.length ≤ 8 ∧ ∀ r ∈ p, rowS r
theorem rows_le {p : List (List Item)} (h : patS p) : ∀ y ∈ p.map rowT, y.length ≤ 3012 := fun y hy => by
  obtain ⟨i, hi, rfl⟩ := List.mem_map.mp hy
  exact rowT_le (h.2 i hi)
theorem s_show_pattern (n : Nat) (S : Store) {p : List (List Item)} (h : patS p) : C (n + 3) i_show_pattern [ePat p] S = .ok (.str (patT p)) S := by
  rw [cc rfl (n + 2) _ S rfl]
  walk_at "es"
  unfold ePat
  walk_at "es"
  rw [lc_enc eRow (fun i => PV.str (rowT i)) (s_le h.1) (fun i hi => ⟨_, rfl, by walk_at "es", by walk_at "es"; rw [s_row_text n S (h.2 i hi)]⟩)]
  walk_at "es"
  rw [show p.map (fun i => PV.str (rowT i)) = (p.map rowT).map .str from by rw [List.map_map]; rfl, join_s (B := 3012) (K := 8) (rows_le h) (by rw [List.length_map]; exact h.1) (by decide)]
  walk_at "es"
  rfl
theorem patT_le {p : List (List Item)} (h : patS p) : (patT p).length ≤ 24120 := join_le (B := 3012) (K := 8) (a := [32, 124, 32]) (rows_le h) (by rw [List.length_map]; exact h.1)
/-! ### a pattern is shown as it was -/
theorem itemF_s {s : List Nat} (hs : tx s) : itS (itemF s) := by
  unfold itS itemF
  have := hs.1
  have hd := List.length_dropLast (xs := s)
  split
  · decide
  · split
    · unfold itT; rw [List.length_append, hd]; simp; omega
    · split
      · unfold itT; rw [List.length_append, hd]; simp; omega
      · unfold itT; rw [List.length_append]; simp; omega
theorem patF_s {k : Int} {side : Bool} {s : List Nat} (hs : tx s) (h : patB k side (patF s) = true) : patS (patF s) := by
  unfold patB at h
  simp only [Bool.and_eq_true, List.all_eq_true, decide_eq_true_eq] at h
  refine ⟨by omega, fun r hr => ?_⟩
  have h2 := h.2 r hr
  unfold rowB at h2
  simp only [Bool.and_eq_true, decide_eq_true_eq] at h2
  refine ⟨(patF_ok hs).2 r hr, by omega, fun i hi => ?_⟩
  unfold patF at hr
  obtain ⟨w, hw, rfl⟩ := List.mem_map.mp hr
  obtain ⟨x, hx, rfl⟩ := List.mem_map.mp hi
  exact itemF_s (rowF_tx (hs.sub (splt_sub hw)) hx)
def patternF (k : Int) (s : List Nat) : Option (List (List Item)) := if (patB k true (patF s) || patB k false (patF s)) = true then (if patT (patF s) = s then some (patF s) else none) else none
theorem s_pattern_from (n : Nat) (S : Store) {k : Int} (hk : isN k = true) {s : List Nat} (hs : tx s) : C (n + 6) i_pattern_from [.int k, .str s] S = .ok (eO ePat (patternF k s)) S := by
  rw [cc rfl (n + 5) _ S rfl]
  walk_at "es"
  rw [s_pattern_in (n + 3) S hs]
  walk_at "es"
  rw [show ([108, 101, 102, 116] : List Nat) = sideS true from rfl, s_is_pattern n S hk true (patF_ok hs)]
  walk_at "es"
  rw [show ([114, 105, 103, 104, 116] : List Nat) = sideS false from rfl, s_is_pattern n S hk false (patF_ok hs)]
  walk_at "es"
  unfold patternF
  have key : (patB k true (patF s) || patB k false (patF s)) = true → C (n + 5) i_show_pattern [ePat (patF s)] S = .ok (.str (patT (patF s))) S := fun h => by
    refine s_show_pattern (n + 2) S ?_
    rw [Bool.or_eq_true] at h
    rcases h with h | h
    · exact patF_s hs h
    · exact patF_s hs h
  cases hb : (patB k true (patF s) || patB k false (patF s)) with
  | false =>
    rw [Bool.or_eq_false_iff] at hb
    rw [hb.1, hb.2]
    rfl
  | true =>
    have : (!patB k true (patF s) && !patB k false (patF s)) = false := by rw [← Bool.not_or, hb]; rfl
    rw [this]
    walk_at "es"
    rw [key hb]
    walk_at "es"
    by_cases e : patT (patF s) = s
    · rw [decide_eq_true e, if_pos e]; rfl
    · rw [decide_eq_false e, if_neg e]; rfl
end K73
end
section
set_option Elab.async false
set_option linter.all false
set_option autoImplicit false
set_option maxRecDepth 100000
set_option maxHeartbeats 0
namespace K73
open PySem PySem.Spec PyProof.Rows L2 Tg
local macro_rules | `(tactic| walk_at "es") => `(tactic| try simp only [st0, st1, st2, st3, st4, evS, ev, evO, dSeqS, dSkip, dExpr, dRet, dRetN, dIfS, dAsg, dC, dNil, dCons, consV, dTup, dLst, dB1, dB2, dChain, dIte, dAnd, dOr, dNot, dCall,
  dCutL, dCutH, dCutB, dM1, dIx, dSeq, dSrc, dLc, dFor, dPar2, oCons, oNil, wipeE, opF, cmF, u1F, u2F, m1F, isiN, rngF, Tgt.put, List.set, List.headD_cons, List.tail_cons,
  bnd_ok, bnd_bad, bnd_exc, okv_s, onBl_b, onI_i, onS_s, onT_s, tst_b, tstS_b, okE_s, outF_rt, outF_nx, outF_exc, seqK_nx, seqK_rt, okL_s, asL_l, okN0, okN1, okN2, okN3, okN4, okN5, v0, v1, v2, v3, v4, v5, v6, v7, v8, v9, v10, v11,
  isi1, isi2, isi3, isi4, isi5, iss1, iss2, iss3, iss4, iss5, ist1, ist2, ist3, ist4, ist5, isn1, isn2, isn3, isb5, len_t, len_l, lt_i, le_i, gt_i, ge_i, eq_i, ne_i, eq_s, ne_s, lt_s, add_i, sub_i, neg_i, is_non, is_t, is_s, is_i, isn_non, isn_t, isn_s, isn_i,
  at_t0, at_t1, at_t2, at_t3, at_t4, ixt, ixl, ixs, sq_t, sq_l, sq_s, tup_l, in_c, nin_c, and_bl, or_bl, ite_ok, ret_ok, guard_ok, ib_and, ib_or, ib_f, nc0, nc1, nc2, nc3, nc4, nc5, nc6, Int.reduceLE, Int.reduceLT, Int.reduceEq, decide_true, decide_false, Int.le_refl, Int.lt_irrefl,
  List.length_cons, List.length_nil, List.replicate, List.cons_append, List.nil_append, Nat.add_zero, Nat.zero_add, Nat.reduceAdd, Nat.reduceSub, Option.getD_some, Option.getD_none, Bool.not_false, Bool.not_true, Bool.true_or, Bool.false_or, Bool.true_and, Bool.false_and, Bool.and_true, Bool.or_true, Bool.or_false, if_true, if_false, Bool.false_eq_true, ite_true, ite_false])
local macro_rules | `(tactic| walk_at "es2") => `(tactic| try simp -implicitDefEqProofs only [st0, st1, st2, st3, st4, evS, ev, evO, dSeqS, dSkip, dExpr, dRet, dRetN, dIfS, dAsg, dC, dNil, dCons, consV, dTup, dLst, dB1, dB2, dChain, dIte, dAnd, dOr, dNot, dCall,
  dCutL, dCutH, dCutB, dM1, dIx, dSeq, dSrc, dLc, dFor, dPar2, oCons, oNil, wipeE, opF, cmF, u1F, u2F, m1F, isiN, rngF, Tgt.put, List.set, List.headD_cons, List.tail_cons,
  bnd_ok, bnd_bad, bnd_exc, okv_s, onBl_b, onI_i, onS_s, onT_s, tst_b, tstS_b, okE_s, outF_rt, outF_nx, outF_exc, seqK_nx, seqK_rt, okL_s, asL_l, okN0, okN1, okN2, okN3, okN4, okN5, v0, v1, v2, v3, v4, v5, v6, v7, v8, v9, v10, v11,
  isi1, isi2, isi3, isi4, isi5, iss1, iss2, iss3, iss4, iss5, ist1, ist2, ist3, ist4, ist5, isn1, isn2, isn3, isb5, len_t, len_l, lt_i, le_i, gt_i, ge_i, eq_i, ne_i, eq_s, ne_s, lt_s, add_i, sub_i, neg_i, is_non, is_t, is_s, is_i, isn_non, isn_t, isn_s, isn_i,
  at_t0, at_t1, at_t2, at_t3, at_t4, ixt, ixl, ixs, sq_t, sq_l, sq_s, tup_l, in_c, nin_c, and_bl, or_bl, ite_ok, ret_ok, guard_ok, ib_and, ib_or, ib_f, nc0, nc1, nc2, nc3, nc4, nc5, nc6, Int.reduceLE, Int.reduceLT, Int.reduceEq, decide_true, decide_false, Int.le_refl, Int.lt_irrefl,
  List.length_cons, List.length_nil, List.replicate, List.cons_append, List.nil_append, Nat.add_zero, Nat.zero_add, Nat.reduceAdd, Nat.reduceSub, Option.getD_some, Option.getD_none, Bool.not_false, Bool.not_true, Bool.true_or, Bool.false_or, Bool.true_and, Bool.false_and, Bool.and_true, Bool.or_true, Bool.or_false, if_true, if_false, Bool.false_eq_true, ite_true, ite_false])
/-! ### rules as texts -/
theorem wordT_le (s : List Nat) : (wordT s).length ≤ s.length + 1 := by
  unfold wordT; split
  · simp
  · omega
def chT (c : List Nat × List Nat) : List Nat := (c.1 ++ [62]) ++ wordT c.2
def chS (c : List Nat × List Nat) : Prop := c.1.length ≤ 501 ∧ c.2.length ≤ 501
theorem chT_le {c : List Nat × List Nat} (h : chS c) : (chT c).length ≤ 1004 := by
  unfold chT
  have := wordT_le c.2
  have := h.1
  have := h.2
  simp
  omega
def ruT (r : Rule) : List Nat := TL.joinL [32] (r.ch.map chT) ++ ([32, 47, 32] ++ (patT r.left ++ ([32, 95, 32] ++ (patT r.right ++ ([32, 47, 32] ++ (r.way ++ ([32] ++ (r.force ++ []))))))))
structure Rule.sm (r : Rule) : Prop where
  ch : r.ch.length ≤ 501 ∧ ∀ c ∈ r.ch, chS c
  left : patS r.left
  right : patS r.right
  way : r.way.length ≤ 500
  force : r.force.length ≤ 500
theorem chs_le {r : Rule} (h : r.sm) : ∀ y ∈ r.ch.map chT, y.length ≤ 1004 := fun y hy => by
  obtain ⟨i, hi, rfl⟩ := List.mem_map.mp hy
  exact chT_le (h.ch.2 i hi)
theorem wds_le {r : Rule} (h : r.sm) : (TL.joinL [32] (r.ch.map chT)).length ≤ 503505 := join_le (B := 1004) (K := 501) (a := [32]) (chs_le h) (by rw [List.length_map]; exact h.ch.1)
theorem ruT_le {r : Rule} (h : r.sm) : (ruT r).length ≤ 560000 := by
  have := wds_le h
  have := patT_le h.left
  have := patT_le h.right
  have := h.way
  have := h.force
  unfold ruT
  simp only [List.length_append, List.length_cons, List.length_nil]
  omega
theorem sl_of {k : Nat} (h : k ≤ 1000000) : k ≤ sizeLine := by
  have : sizeLine = 16777216 := by decide
  omega
theorem s_show_rule (n : Nat) (S : Store) {r : Rule} (h : r.sm) : C (n + 4) i_show_rule [eRule r] S = .ok (.str (ruT r)) S := by
  rw [cc rfl (n + 3) _ S rfl]
  walk_at "es"
  unfold eRule
  walk_at "es"
  rw [lc_enc eCh (fun c => PV.str (chT c)) (s_le h.ch.1) (fun c hc => ⟨_, rfl, by walk_at "es", by
    obtain ⟨h1, h2⟩ := h.ch.2 c hc
    walk_at "es"
    rw [add_s (by simp; omega)]
    walk_at "es"
    rw [s_show_word]
    walk_at "es"
    rw [add_s (by have := wordT_le c.2; simp; omega)]
    walk_at "es"
    rfl⟩)]
  walk_at "es"
  rw [show r.ch.map (fun c => PV.str (chT c)) = (r.ch.map chT).map .str from by rw [List.map_map]; rfl, join_s (B := 1004) (K := 501) (chs_le h) (by rw [List.length_map]; exact h.ch.1) (by decide)]
  walk_at "es"
  rw [js_ok (t := ruT r) (by
    unfold jCons jNil dFmt
    walk_at "es"
    rw [fm_s (sl_of (Nat.le_trans (wds_le h) (by decide)))]
    walk_at "es"
    rw [s_show_pattern n S h.left]
    walk_at "es"
    rw [fm_s (sl_of (Nat.le_trans (patT_le h.left) (by decide)))]
    walk_at "es"
    rw [s_show_pattern n S h.right]
    walk_at "es"
    rw [fm_s (sl_of (Nat.le_trans (patT_le h.right) (by decide)))]
    walk_at "es"
    rw [fm_s (sl_of (Nat.le_trans h.way (by decide)))]
    walk_at "es"
    rw [fm_s (sl_of (Nat.le_trans h.force (by decide)))]
    walk_at "es"
    rfl) (sl_of (Nat.le_trans (ruT_le h) (by decide)))]
  walk_at "es"
theorem chF_s {s : List Nat} (hs : tx s) : chS (chF s) := by
  have h1 := (hs.sub (parP_p [62] s)).1
  have h2 := (textF_tx (hs.sub (parP_q [62] s))).1
  exact ⟨by show (parP [62] s).p.length ≤ 501; omega, by show (textF (parP [62] s).q).length ≤ 501; omega⟩
theorem ruleF_s {k : Int} {s : List Nat} (hs : tx s) {r : Rule} (h : ruleF s = some r) (hb : ruleB k r = true) : r.sm := by
  by_cases h3 : (splt [32, 47, 32] s).length = 3
  case neg => rw [ruleF_no h3] at h; cases h
  obtain ⟨a, b, c, e⟩ := len3 h3
  rw [ruleF_3 e] at h
  have ha : tx a := hs.sub (splt_sub (z := [32, 47, 32]) (by rw [e]; simp))
  have hb' : tx b := hs.sub (splt_sub (z := [32, 47, 32]) (by rw [e]; simp))
  have hc : tx c := hs.sub (splt_sub (z := [32, 47, 32]) (by rw [e]; simp))
  cases h
  unfold ruleB at hb
  simp only [Bool.and_eq_true] at hb
  refine ⟨⟨by rw [List.length_map]; exact Nat.le_trans (splt_len _ _) (by have := ha.1; omega), fun x hx => ?_⟩, patF_s (hb'.sub (parP_p _ _)) hb.2.1.1, patF_s (hb'.sub (parP_q _ _)) hb.2.1.2, (hc.sub (rparP_p _ _)).1, (hc.sub (rparP_q _ _)).1⟩
  obtain ⟨w, hw, rfl⟩ := List.mem_map.mp hx
  exact chF_s (ha.sub (splt_sub hw))
def ruleR (k : Int) (s : List Nat) : Option Rule := match ruleF s with
  | none => none
  | some r => if ruleB k r = true then (if ruT r = s then some r else none) else none
theorem isn_t' {r : Rule} : vIsN (eRule r) .non = some (.bl true) := rfl
theorem is_r {r : Rule} : vIs (eRule r) .non = some (.bl false) := rfl
theorem s_rule_from (n : Nat) (S : Store) {k : Int} (hk : isN k = true) {s : List Nat} (hs : tx s) : C (n + 7) i_rule_from [.int k, .str s] S = .ok (eO eRule (ruleR k s)) S := by
  rw [cc rfl (n + 6) _ S rfl]
  walk_at "es"
  rw [s_rule_in (n + 3) S hs]
  unfold ruleR
  cases hf : ruleF s with
  | none => simp only [eO]; walk_at "es"
  | some r =>
    simp only [eO]
    walk_at "es"
    rw [isn_t']
    walk_at "es"
    rw [s_is_rule n S hk (ruleF_ok hs hf)]
    walk_at "es"
    cases hb : ruleB k r with
    | false => walk_at "es"
    | true =>
      walk_at "es"
      rw [s_show_rule (n + 2) S (ruleF_s hs hf hb)]
      walk_at "es"
      by_cases e : ruT r = s
      · rw [decide_eq_true e, if_pos e]; rfl
      · rw [decide_eq_false e, if_neg e]; rfl
/-! ### cascades -/
def casT (k : Nat) (l : List Rule) : List Nat := TL.joinL [32, 59, 32] (TL.numL k :: l.map ruT)
theorem s_show_cascade (n : Nat) (S : Store) {k : Nat} (hk : k < 10 ^ 30) {l : List Rule} (h : ∀ r ∈ l, r.sm) (hl : l.length ≤ 8) : C (n + 5) i_show_cascade [.tup [.int (k : Int), .tup (l.map eRule)]] S = .ok (.str (casT k l)) S := by
  rw [cc rfl (n + 4) _ S rfl]
  walk_at "es"
  rw [str_n hk]
  walk_at "es"
  rw [lc_enc eRule (fun c => PV.str (ruT c)) (s_le hl) (fun c hc => ⟨_, rfl, by walk_at "es", by walk_at "es"; rw [s_show_rule n S (h c hc)]⟩)]
  walk_at "es"
  rw [add_l (by simp; omega)]
  walk_at "es"
  rw [show PV.str (TL.numL k) :: l.map (fun c => PV.str (ruT c)) = (TL.numL k :: l.map ruT).map .str from by rw [List.map_cons, List.map_map]; rfl, join_s (B := 560000) (K := 9) (fun y hy => by
    rcases List.mem_cons.mp hy with rfl | hy
    · exact Nat.le_trans (num_len hk) (by decide)
    · obtain ⟨r, hr, rfl⟩ := List.mem_map.mp hy
      exact ruT_le (h r hr)) (by simp; omega) (by decide)]
  walk_at "es"
  rfl
/-! ### data of depth -/
theorem gd_rule {r : Rule} (h : r.ok) : Gd 4 (eRule r) := by
  have gp : ∀ {p : List (List Item)}, patOk p → Gd 3 (ePat p) := fun hp => gd_tup (k := 2) (fun x hx => by
    obtain ⟨w, hw, rfl⟩ := List.mem_map.mp hx
    exact gd_tup (k := 1) (gd_row (hp.2 w hw)))
  unfold eRule
  refine gd_tup (k := 3) fun x hx => ?_
  simp only [List.mem_cons, List.not_mem_nil, or_false] at hx
  rcases hx with rfl | rfl | rfl | rfl | rfl
  · exact (gd_tup (k := 1) (gd_chs h.ch)).mono (by decide)
  · exact gp h.left
  · exact gp h.right
  · exact gd_str h.way
  · exact gd_str h.force
def casR (s : List Nat) : Option (Nat × List Rule) := match splt [32, 59, 32] s with
  | [] => none
  | a :: rest => match numF a, allO (rest.map ruleF) with
    | some k, some l => if casB k l = true then (if casT k l = s then some (k, l) else none) else none
    | _, _ => none
def eCas (c : Nat × List Rule) : PV := .tup [.int (c.1 : Int), .tup (c.2.map eRule)]
theorem s_cascade_from (n : Nat) (S : Store) {s : List Nat} (hs : s.length ≤ 1000000) (hm0 : ∀ w ∈ splt [32, 59, 32] s, tx w) (hn0 : (splt [32, 59, 32] s).length ≤ 501) : C (n + 7) i_cascade_from [.str s] S = .ok (eO eCas (casR s)) S := by
  rw [cc rfl (n + 6) _ S rfl]
  walk_at "es"
  rw [split_l rfl hs]
  walk_at "es"
  unfold casR
  cases e : splt [32, 59, 32] s with
  | nil => exact (splt_ne _ _ e).elim
  | cons a rest =>
    have hm : ∀ w ∈ a :: rest, tx w := fun w hw => hm0 w (by rw [e]; exact hw)
    have ha := hm a (List.mem_cons_self ..)
    have hlen : rest.length ≤ 501 := by have := hn0; rw [e] at this; simp at this; omega
    rw [List.map_cons, at_l0]
    walk_at "es"
    rw [s_number_from (n + 4) S ha]
    walk_at "es"
    rw [cutL, tailP, List.tail_cons]
    walk_at "es"
    rw [lc_enc PV.str (fun w => eO eRule (ruleF w)) (s_le hlen) (fun w hw => ⟨_, rfl, by walk_at "es", by walk_at "es"; rw [s_rule_in (n + 3) S (hm w (List.mem_cons_of_mem _ hw))]⟩)]
    walk_at "es"
    rw [show rest.map (fun w => eO eRule (ruleF w)) = (rest.map ruleF).map (eO eRule) from by rw [List.map_map]; rfl, s_all_or_none (n + 5) S (k := 4) eRule (fun _ => rfl) (fun x hx => by
      obtain ⟨w, hw, hf⟩ := List.mem_map.mp hx
      exact gd_rule (ruleF_ok (hm w (List.mem_cons_of_mem _ hw)) hf)) (by decide)]
    walk_at "es"
    cases hn : numF a with
    | none => simp only [eN, eO]; walk_at "es"
    | some k =>
      have hk : k < 10 ^ 30 := intF_lt hn
      cases hl : allO (rest.map ruleF) with
      | none => simp only [eN, eO]; walk_at "es"
      | some l =>
        have hmem := allO_mem hl
        have hr : ∀ r ∈ l, ∃ w ∈ rest, ruleF w = some r := fun r hr => by
          have : some r ∈ rest.map ruleF := by rw [hmem]; exact List.mem_map.mpr ⟨r, hr, rfl⟩
          exact List.mem_map.mp this
        have hll : l.length ≤ 501 := by
          have : l.length = rest.length := by have := congrArg List.length hmem; simpa using this.symm
          omega
        have hok : rulesOk l := ⟨Nat.le_trans hll (by decide), fun r hr' => by
          obtain ⟨w, hw, q⟩ := hr r hr'
          exact ruleF_ok (hm w (List.mem_cons_of_mem _ hw)) q⟩
        simp only [eN, eO, eL]
        walk_at "es"
        rw [s_is_cascade n S k hok]
        walk_at "es"
        cases hb : casB k l with
        | false => walk_at "es"; try rfl
        | true =>
          walk_at "es"
          have hb' := hb
          unfold casB at hb'
          simp only [Bool.and_eq_true, List.all_eq_true, decide_eq_true_eq] at hb'
          rw [s_show_cascade (n + 1) S hk (fun r hr' => by
            obtain ⟨w, hw, q⟩ := hr r hr'
            exact ruleF_s (hm w (List.mem_cons_of_mem _ hw)) q (hb'.2 r hr')) (by omega)]
          walk_at "es"
          by_cases q : casT k l = s
          · rw [decide_eq_true q, if_pos q]; rfl
          · rw [decide_eq_false q, if_neg q]; rfl
end K73
end
section
set_option Elab.async false
set_option linter.all false
set_option autoImplicit false
set_option maxRecDepth 100000
set_option maxHeartbeats 0
namespace K73
open PySem PySem.Spec PyProof.Rows L2 Tg
local macro_rules | `(tactic| walk_at "es") => `(tactic| try simp only [st0, st1, st2, st3, st4, evS, ev, evO, dSeqS, dSkip, dExpr, dRet, dRetN, dIfS, dAsg, dC, dNil, dCons, consV, dTup, dLst, dB1, dB2, dChain, dIte, dAnd, dOr, dNot, dCall,
  dCutL, dCutH, dCutB, dM1, dIx, dSeq, dSrc, dLc, dFor, dPar2, oCons, oNil, wipeE, opF, cmF, u1F, u2F, m1F, isiN, rngF, Tgt.put, List.set, List.headD_cons, List.tail_cons,
  bnd_ok, bnd_bad, bnd_exc, okv_s, onBl_b, onI_i, onS_s, onT_s, tst_b, tstS_b, okE_s, outF_rt, outF_nx, outF_exc, seqK_nx, seqK_rt, okL_s, asL_l, okN0, okN1, okN2, okN3, okN4, okN5, v0, v1, v2, v3, v4, v5, v6, v7, v8, v9, v10, v11,
  isi1, isi2, isi3, isi4, isi5, iss1, iss2, iss3, iss4, iss5, ist1, ist2, ist3, ist4, ist5, isn1, isn2, isn3, isb5, len_t, len_l, lt_i, le_i, gt_i, ge_i, eq_i, ne_i, eq_s, ne_s, lt_s, add_i, sub_i, neg_i, is_non, is_t, is_s, is_i, isn_non, isn_t, isn_s, isn_i,
  at_t0, at_t1, at_t2, at_t3, at_t4, ixt, ixl, ixs, sq_t, sq_l, sq_s, tup_l, in_c, nin_c, and_bl, or_bl, ite_ok, ret_ok, guard_ok, ib_and, ib_or, ib_f, nc0, nc1, nc2, nc3, nc4, nc5, nc6, Int.reduceLE, Int.reduceLT, Int.reduceEq, decide_true, decide_false, Int.le_refl, Int.lt_irrefl,
  List.length_cons, List.length_nil, List.replicate, List.cons_append, List.nil_append, Nat.add_zero, Nat.zero_add, Nat.reduceAdd, Nat.reduceSub, Option.getD_some, Option.getD_none, Bool.not_false, Bool.not_true, Bool.true_or, Bool.false_or, Bool.true_and, Bool.false_and, Bool.and_true, Bool.or_true, Bool.or_false, if_true, if_false, Bool.false_eq_true, ite_true, ite_false])
local macro_rules | `(tactic| walk_at "es2") => `(tactic| try simp -implicitDefEqProofs only [st0, st1, st2, st3, st4, evS, ev, evO, dSeqS, dSkip, dExpr, dRet, dRetN, dIfS, dAsg, dC, dNil, dCons, consV, dTup, dLst, dB1, dB2, dChain, dIte, dAnd, dOr, dNot, dCall,
  dCutL, dCutH, dCutB, dM1, dIx, dSeq, dSrc, dLc, dFor, dPar2, oCons, oNil, wipeE, opF, cmF, u1F, u2F, m1F, isiN, rngF, Tgt.put, List.set, List.headD_cons, List.tail_cons,
  bnd_ok, bnd_bad, bnd_exc, okv_s, onBl_b, onI_i, onS_s, onT_s, tst_b, tstS_b, okE_s, outF_rt, outF_nx, outF_exc, seqK_nx, seqK_rt, okL_s, asL_l, okN0, okN1, okN2, okN3, okN4, okN5, v0, v1, v2, v3, v4, v5, v6, v7, v8, v9, v10, v11,
  isi1, isi2, isi3, isi4, isi5, iss1, iss2, iss3, iss4, iss5, ist1, ist2, ist3, ist4, ist5, isn1, isn2, isn3, isb5, len_t, len_l, lt_i, le_i, gt_i, ge_i, eq_i, ne_i, eq_s, ne_s, lt_s, add_i, sub_i, neg_i, is_non, is_t, is_s, is_i, isn_non, isn_t, isn_s, isn_i,
  at_t0, at_t1, at_t2, at_t3, at_t4, ixt, ixl, ixs, sq_t, sq_l, sq_s, tup_l, in_c, nin_c, and_bl, or_bl, ite_ok, ret_ok, guard_ok, ib_and, ib_or, ib_f, nc0, nc1, nc2, nc3, nc4, nc5, nc6, Int.reduceLE, Int.reduceLT, Int.reduceEq, decide_true, decide_false, Int.le_refl, Int.lt_irrefl,
  List.length_cons, List.length_nil, List.replicate, List.cons_append, List.nil_append, Nat.add_zero, Nat.zero_add, Nat.reduceAdd, Nat.reduceSub, Option.getD_some, Option.getD_none, Bool.not_false, Bool.not_true, Bool.true_or, Bool.false_or, Bool.true_and, Bool.false_and, Bool.and_true, Bool.or_true, Bool.or_false, if_true, if_false, Bool.false_eq_true, ite_true, ite_false])
/-! ### machines -/
def stepF : List Nat → Option (Nat × Nat)
  | [] => none
  | c :: r => match numF r with
    | some k => some (c, k)
    | none => none
theorem stepF_c (c : Nat) (r : List Nat) : stepF (c :: r) = (match numF r with
    | some k => some (c, k)
    | none => none) := rfl
theorem numF_nil : numF [] = none := by decide
theorem s_step_from (n : Nat) (S : Store) {s : List Nat} (hs : tx s) : C (n + 3) i_step_from [.str s] S = .ok (eO eStep (stepF s)) S := by
  rw [cc rfl (n + 2) _ S rfl]
  walk_at "es"
  rw [cutS hs.le, tailP]
  walk_at "es"
  have ht : tx s.tail := hs.sub ⟨by rw [List.length_tail]; omega, fun c hc => List.mem_of_mem_tail hc⟩
  rw [s_number_from n S ht]
  walk_at "es"
  cases s with
  | nil => rw [List.tail_nil, numF_nil]; simp only [eN, eO]; walk_at "es"; try rfl
  | cons c r =>
    rw [List.tail_cons]
    rw [stepF_c]
    cases hn : numF r with
    | none => simp only [eN, eO]; walk_at "es"
    | some k =>
      simp only [eN, eO]
      walk_at "es"
      rw [at_s0 hs.le]
      walk_at "es"
      try rfl
theorem stepF_ok {s : List Nat} (hs : tx s) {x : Nat × Nat} (h : stepF s = some x) : x.1 < 128 ∧ x.2 < 10 ^ 30 := by
  cases s with
  | nil => cases h
  | cons c r =>
    rw [stepF_c] at h
    cases hn : numF r with
    | none => rw [hn] at h; cases h
    | some k =>
      rw [hn] at h
      cases h
      exact ⟨hs.2 c (List.mem_cons_self ..), intF_lt hn⟩
theorem gd_step {x : Nat × Nat} (h : x.1 < 128) : Gd 1 (eStep x) := gd_tup (k := 0) (by
  intro y hy
  simp at hy
  rcases hy with rfl | rfl
  · exact gd_str ⟨show 1 ≤ 65536 by decide, fun c hc => by simp at hc; subst hc; exact h⟩
  · exact gd_int _)
def bits : List PV := [.str [48], .str [49]]
def placeF (s : List Nat) : Option (Bool × List (Nat × Nat)) := match splt [32] s with
  | [] => none
  | w :: rest => match allO (rest.map stepF) with
    | none => none
    | some l => if inF (.str w) bits = true then some (decide (w = [49]), l) else none
theorem s_place_from (n : Nat) (S : Store) {s : List Nat} (hs : tx s) : C (n + 4) i_place_from [.str s] S = .ok (eO ePlace (placeF s)) S := by
  rw [cc rfl (n + 3) _ S rfl]
  walk_at "es"
  rw [split_s rfl hs]
  walk_at "es"
  unfold placeF
  cases e : splt [32] s with
  | nil => exact (splt_ne _ _ e).elim
  | cons a rest =>
    have hm : ∀ w ∈ a :: rest, tx w := fun w hw => hs.sub (splt_sub (z := [32]) (by rw [e]; exact hw))
    have hlen : rest.length ≤ 501 := by have := splt_len [32] s; rw [e] at this; have := hs.1; simp at *; omega
    rw [List.map_cons, cutL, tailP, List.tail_cons]
    walk_at "es"
    rw [lc_enc PV.str (fun w => eO eStep (stepF w)) (s_le hlen) (fun w hw => ⟨_, rfl, by walk_at "es", by walk_at "es"; rw [s_step_from n S (hm w (List.mem_cons_of_mem _ hw))]⟩)]
    walk_at "es"
    rw [show rest.map (fun w => eO eStep (stepF w)) = (rest.map stepF).map (eO eStep) from by rw [List.map_map]; rfl, s_all_or_none (n + 2) S (k := 1) eStep (fun _ => rfl) (fun x hx => by
      obtain ⟨w, hw, hf⟩ := List.mem_map.mp hx
      exact gd_step (stepF_ok (hm w (List.mem_cons_of_mem _ hw)) hf).1) (by decide)]
    walk_at "es"
    rw [at_l0]
    walk_at "es"
    cases allO (rest.map stepF) with
    | none => simp only [eO]; walk_at "es"
    | some l =>
      simp only [eO, eL]
      walk_at "es"
      rw [show [PV.str [48], PV.str [49]] = bits from rfl, in_t (flatS a rfl)]
      walk_at "es"
      cases inF (.str a) bits with
      | false => rfl
      | true => rfl
def plS (p : Bool × List (Nat × Nat)) : Prop := p.2.length ≤ 501 ∧ ∀ s ∈ p.2, s.1 < 128 ∧ s.2 < 10 ^ 30
theorem placeF_s {s : List Nat} (hs : tx s) {p : Bool × List (Nat × Nat)} (h : placeF s = some p) : plS p := by
  unfold placeF at h
  cases e : splt [32] s with
  | nil => rw [e] at h; cases h
  | cons a rest =>
    rw [e] at h
    simp only at h
    have hm : ∀ w ∈ a :: rest, tx w := fun w hw => hs.sub (splt_sub (z := [32]) (by rw [e]; exact hw))
    have hlen : rest.length ≤ 501 := by have := splt_len [32] s; rw [e] at this; have := hs.1; simp at *; omega
    cases hl : allO (rest.map stepF) with
    | none => rw [hl] at h; cases h
    | some l =>
      rw [hl] at h
      simp only at h
      split at h
      · cases h
        have hmem := allO_mem hl
        refine ⟨by have := congrArg List.length hmem; simp at this; show l.length ≤ 501; omega, fun x hx => ?_⟩
        have : some x ∈ rest.map stepF := by rw [hmem]; exact List.mem_map.mpr ⟨x, hx, rfl⟩
        obtain ⟨w, hw, q⟩ := List.mem_map.mp this
        exact stepF_ok (hm w (List.mem_cons_of_mem _ hw)) q
      · cases h
def stT (s : Nat × Nat) : List Nat := [s.1] ++ (TL.numL s.2 ++ [])
def placeT (p : Bool × List (Nat × Nat)) : List Nat := TL.joinL [32] ((if p.1 = true then [49] else [48]) :: p.2.map stT)
theorem stT_le {s : Nat × Nat} (h : s.2 < 10 ^ 30) : (stT s).length ≤ 31 := by
  unfold stT
  have := num_len h
  simp
  omega
theorem pl_le {p : Bool × List (Nat × Nat)} (h : plS p) : ∀ y ∈ (if p.1 = true then [49] else [48]) :: p.2.map stT, y.length ≤ 31 := fun y hy => by
  rcases List.mem_cons.mp hy with rfl | hy
  · split <;> decide
  · obtain ⟨r, hr, rfl⟩ := List.mem_map.mp hy
    exact stT_le (h.2 r hr).2
theorem s_place_text (n : Nat) (S : Store) {p : Bool × List (Nat × Nat)} (h : plS p) : C (n + 1) i_place_text [ePlace p] S = .ok (.str (placeT p)) S := by
  rw [cc rfl n _ S rfl]
  walk_at "es"
  unfold ePlace
  walk_at "es"
  rw [lc_enc eStep (fun c => PV.str (stT c)) (s_le h.1) (fun c hc => ⟨_, rfl, by walk_at "es", by
    walk_at "es"
    rw [js_ok (t := stT c) (by
      unfold jCons jNil dFmt
      walk_at "es"
      rw [fm_s (s := [c.1]) (show 1 ≤ sizeLine by decide)]
      walk_at "es"
      rw [fm_n (h.2 c hc).2]
      walk_at "es"
      rfl) (sl_of (Nat.le_trans (stT_le (h.2 c hc).2) (by decide)))]⟩)]
  walk_at "es"
  rw [add_l (by have := h.1; simp; omega)]
  walk_at "es"
  rw [show (if p.1 = true then PV.str [49] else PV.str [48]) :: p.2.map (fun c => PV.str (stT c)) = ((if p.1 = true then [49] else [48]) :: p.2.map stT).map .str from by rw [List.map_cons, List.map_map]; cases p.1 <;> rfl, join_s (B := 31) (K := 502) (pl_le h) (by have := h.1; simp; omega) (by decide)]
  walk_at "es"
  rfl
theorem placeT_le {p : Bool × List (Nat × Nat)} (h : plS p) : (placeT p).length ≤ 16064 := join_le (B := 31) (K := 502) (a := [32]) (pl_le h) (by have := h.1; simp; omega)
def macT (k : Nat) (l : List (Bool × List (Nat × Nat))) : List Nat := TL.joinL [32, 59, 32] (TL.numL k :: l.map placeT)
def eMac (c : Nat × List (Bool × List (Nat × Nat))) : PV := .tup [.int (c.1 : Int), .tup (c.2.map ePlace)]
theorem s_show_machine (n : Nat) (S : Store) {k : Nat} (hk : k < 10 ^ 30) {l : List (Bool × List (Nat × Nat))} (h : ∀ r ∈ l, plS r) (hl : l.length ≤ 501) : C (n + 2) i_show_machine [.tup [.int (k : Int), .tup (l.map ePlace)]] S = .ok (.str (macT k l)) S := by
  rw [cc rfl (n + 1) _ S rfl]
  walk_at "es"
  rw [str_n hk]
  walk_at "es"
  rw [lc_enc ePlace (fun c => PV.str (placeT c)) (s_le hl) (fun c hc => ⟨_, rfl, by walk_at "es", by walk_at "es"; rw [s_place_text n S (h c hc)]⟩)]
  walk_at "es"
  rw [add_l (by simp; omega)]
  walk_at "es"
  rw [show PV.str (TL.numL k) :: l.map (fun c => PV.str (placeT c)) = (TL.numL k :: l.map placeT).map .str from by rw [List.map_cons, List.map_map]; rfl, join_s (B := 16064) (K := 502) (fun y hy => by
    rcases List.mem_cons.mp hy with rfl | hy
    · exact Nat.le_trans (num_len hk) (by decide)
    · obtain ⟨r, hr, rfl⟩ := List.mem_map.mp hy
      exact placeT_le (h r hr)) (by simp; omega) (by decide)]
  walk_at "es"
  rfl
theorem gd_place {p : Bool × List (Nat × Nat)} (h : plS p) : Gd 3 (ePlace p) := gd_tup (k := 2) (by
  intro y hy
  simp at hy
  rcases hy with rfl | rfl
  · exact gd_bl _
  · exact gd_tup (k := 1) (fun x hx => by
      obtain ⟨s, hs, rfl⟩ := List.mem_map.mp hx
      exact gd_step (h.2 s hs).1))
def macR (s : List Nat) : Option (Nat × List (Bool × List (Nat × Nat))) := match splt [32, 59, 32] s with
  | [] => none
  | a :: rest => match numF a, allO (rest.map placeF) with
    | some k, some l => if macB k l = true then (if macT k l = s then some (k, l) else none) else none
    | _, _ => none
theorem s_machine_from (n : Nat) (S : Store) {s : List Nat} (hs : s.length ≤ 1000000) (hm0 : ∀ w ∈ splt [32, 59, 32] s, tx w) (hn0 : (splt [32, 59, 32] s).length ≤ 501) : C (n + 5) i_machine_from [.str s] S = .ok (eO eMac (macR s)) S := by
  rw [cc rfl (n + 4) _ S rfl]
  walk_at "es"
  rw [split_l rfl hs]
  walk_at "es"
  unfold macR
  cases e : splt [32, 59, 32] s with
  | nil => exact (splt_ne _ _ e).elim
  | cons a rest =>
    have hm : ∀ w ∈ a :: rest, tx w := fun w hw => hm0 w (by rw [e]; exact hw)
    have ha := hm a (List.mem_cons_self ..)
    have hlen : rest.length ≤ 501 := by have := hn0; rw [e] at this; simp at this; omega
    rw [List.map_cons, at_l0]
    walk_at "es"
    rw [s_number_from (n + 2) S ha]
    walk_at "es"
    rw [cutL, tailP, List.tail_cons]
    walk_at "es"
    rw [lc_enc PV.str (fun w => eO ePlace (placeF w)) (s_le hlen) (fun w hw => ⟨_, rfl, by walk_at "es", by walk_at "es"; rw [s_place_from n S (hm w (List.mem_cons_of_mem _ hw))]⟩)]
    walk_at "es"
    rw [show rest.map (fun w => eO ePlace (placeF w)) = (rest.map placeF).map (eO ePlace) from by rw [List.map_map]; rfl, s_all_or_none (n + 3) S (k := 3) ePlace (fun _ => rfl) (fun x hx => by
      obtain ⟨w, hw, hf⟩ := List.mem_map.mp hx
      exact gd_place (placeF_s (hm w (List.mem_cons_of_mem _ hw)) hf)) (by decide)]
    walk_at "es"
    cases hn : numF a with
    | none => simp only [eN, eO]; walk_at "es"
    | some k =>
      have hk : k < 10 ^ 30 := intF_lt hn
      cases hl : allO (rest.map placeF) with
      | none => simp only [eN, eO]; walk_at "es"
      | some l =>
        have hmem := allO_mem hl
        have hr : ∀ r ∈ l, plS r := fun r hr => by
          have : some r ∈ rest.map placeF := by rw [hmem]; exact List.mem_map.mpr ⟨r, hr, rfl⟩
          obtain ⟨w, hw, q⟩ := List.mem_map.mp this
          exact placeF_s (hm w (List.mem_cons_of_mem _ hw)) q
        have hll : l.length ≤ 501 := by
          have : l.length = rest.length := by have := congrArg List.length hmem; simpa using this.symm
          omega
        have hok : macOk l := ⟨Nat.le_trans hll (by decide), fun r hr' => Nat.le_trans (hr r hr').1 (by decide)⟩
        simp only [eN, eO, eL]
        walk_at "es"
        rw [s_is_machine n S k hok]
        walk_at "es"
        cases hb : macB k l with
        | false => walk_at "es"; try rfl
        | true =>
          walk_at "es"
          rw [s_show_machine (n + 2) S hk hr hll]
          walk_at "es"
          by_cases q : macT k l = s
          · rw [decide_eq_true q, if_pos q]; rfl
          · rw [decide_eq_false q, if_neg q]; rfl
end K73
end
section
set_option Elab.async false
set_option linter.all false
set_option autoImplicit false
set_option maxRecDepth 100000
set_option maxHeartbeats 0
namespace K73
open PySem PySem.Spec PyProof.Rows L2 Tg
local macro_rules | `(tactic| walk_at "es") => `(tactic| try simp only [st0, st1, st2, st3, st4, evS, ev, evO, dSeqS, dSkip, dExpr, dRet, dRetN, dIfS, dAsg, dC, dNil, dCons, consV, dTup, dLst, dB1, dB2, dChain, dIte, dAnd, dOr, dNot, dCall,
  dCutL, dCutH, dCutB, dM1, dIx, dSeq, dSrc, dLc, dFor, dPar2, oCons, oNil, wipeE, opF, cmF, u1F, u2F, m1F, isiN, rngF, Tgt.put, List.set, List.headD_cons, List.tail_cons,
  bnd_ok, bnd_bad, bnd_exc, okv_s, onBl_b, onI_i, onS_s, onT_s, tst_b, tstS_b, okE_s, outF_rt, outF_nx, outF_exc, seqK_nx, seqK_rt, okL_s, asL_l, okN0, okN1, okN2, okN3, okN4, okN5, v0, v1, v2, v3, v4, v5, v6, v7, v8, v9, v10, v11,
  isi1, isi2, isi3, isi4, isi5, iss1, iss2, iss3, iss4, iss5, ist1, ist2, ist3, ist4, ist5, isn1, isn2, isn3, isb5, len_t, len_l, lt_i, le_i, gt_i, ge_i, eq_i, ne_i, eq_s, ne_s, lt_s, add_i, sub_i, neg_i, is_non, is_t, is_s, is_i, isn_non, isn_t, isn_s, isn_i,
  at_t0, at_t1, at_t2, at_t3, at_t4, ixt, ixl, ixs, sq_t, sq_l, sq_s, tup_l, in_c, nin_c, and_bl, or_bl, ite_ok, ret_ok, guard_ok, ib_and, ib_or, ib_f, nc0, nc1, nc2, nc3, nc4, nc5, nc6, Int.reduceLE, Int.reduceLT, Int.reduceEq, decide_true, decide_false, Int.le_refl, Int.lt_irrefl,
  List.length_cons, List.length_nil, List.replicate, List.cons_append, List.nil_append, Nat.add_zero, Nat.zero_add, Nat.reduceAdd, Nat.reduceSub, Option.getD_some, Option.getD_none, Bool.not_false, Bool.not_true, Bool.true_or, Bool.false_or, Bool.true_and, Bool.false_and, Bool.and_true, Bool.or_true, Bool.or_false, if_true, if_false, Bool.false_eq_true, ite_true, ite_false])
local macro_rules | `(tactic| walk_at "es2") => `(tactic| try simp -implicitDefEqProofs only [st0, st1, st2, st3, st4, evS, ev, evO, dSeqS, dSkip, dExpr, dRet, dRetN, dIfS, dAsg, dC, dNil, dCons, consV, dTup, dLst, dB1, dB2, dChain, dIte, dAnd, dOr, dNot, dCall,
  dCutL, dCutH, dCutB, dM1, dIx, dSeq, dSrc, dLc, dFor, dPar2, oCons, oNil, wipeE, opF, cmF, u1F, u2F, m1F, isiN, rngF, Tgt.put, List.set, List.headD_cons, List.tail_cons,
  bnd_ok, bnd_bad, bnd_exc, okv_s, onBl_b, onI_i, onS_s, onT_s, tst_b, tstS_b, okE_s, outF_rt, outF_nx, outF_exc, seqK_nx, seqK_rt, okL_s, asL_l, okN0, okN1, okN2, okN3, okN4, okN5, v0, v1, v2, v3, v4, v5, v6, v7, v8, v9, v10, v11,
  isi1, isi2, isi3, isi4, isi5, iss1, iss2, iss3, iss4, iss5, ist1, ist2, ist3, ist4, ist5, isn1, isn2, isn3, isb5, len_t, len_l, lt_i, le_i, gt_i, ge_i, eq_i, ne_i, eq_s, ne_s, lt_s, add_i, sub_i, neg_i, is_non, is_t, is_s, is_i, isn_non, isn_t, isn_s, isn_i,
  at_t0, at_t1, at_t2, at_t3, at_t4, ixt, ixl, ixs, sq_t, sq_l, sq_s, tup_l, in_c, nin_c, and_bl, or_bl, ite_ok, ret_ok, guard_ok, ib_and, ib_or, ib_f, nc0, nc1, nc2, nc3, nc4, nc5, nc6, Int.reduceLE, Int.reduceLT, Int.reduceEq, decide_true, decide_false, Int.le_refl, Int.lt_irrefl,
  List.length_cons, List.length_nil, List.replicate, List.cons_append, List.nil_append, Nat.add_zero, Nat.zero_add, Nat.reduceAdd, Nat.reduceSub, Option.getD_some, Option.getD_none, Bool.not_false, Bool.not_true, Bool.true_or, Bool.false_or, Bool.true_and, Bool.false_and, Bool.and_true, Bool.or_true, Bool.or_false, if_true, if_false, Bool.false_eq_true, ite_true, ite_false])
/-! ### draws -/
def Wat (S : Store) (c : Nat) (m : Nat) : Prop := ∃ a b st : Int, S[c]? = some [.int a, .int b, .int st] ∧ (0 ≤ b ∧ b < 10 ^ 30) ∧ (0 ≤ st ∧ st ≤ (m : Int))
theorem mul_r {i j : Int} (h : -1000000000000 < j) (h2 : j < 1000000000000) : vMul (.int i) (.int j) = some (.int (i * j)) := by
  show (if mulOk i j = true then _ else _) = _
  rw [if_pos]
  unfold mulOk
  have : small j = true := by
    unfold small
    rw [Bool.and_eq_true, decide_eq_true_eq, decide_eq_true_eq]
    omega
  rw [this]
  simp
theorem log_b {i : Int} (h0 : 0 ≤ i) (h : i < 10 ^ 34) : i.natAbs.log2 < 500 := by
  by_cases hk : i.natAbs = 0
  · rw [hk]; decide
  · rw [Nat.log2_lt hk]
    have : i.natAbs < 10 ^ 34 := by omega
    exact Nat.lt_of_lt_of_le this (Nat.le_trans (show 10 ^ 34 ≤ 2 ^ 120 by decide) (Nat.pow_le_pow_right (by decide) (by decide)))
theorem mul_b {i j : Int} (h0 : 0 ≤ i) (h : i < 10 ^ 34) (h1 : 0 ≤ j) (h2 : j < 10 ^ 34) : vMul (.int i) (.int j) = some (.int (i * j)) := by
  show (if mulOk i j = true then _ else _) = _
  rw [if_pos]
  unfold mulOk
  have := log_b h0 h
  have := log_b h1 h2
  rw [decide_eq_true (show i.natAbs.log2 + j.natAbs.log2 < 1000000 by omega)]
  simp
theorem pow_10 {k : Nat} (h : k ≤ 1000000) : vPow (.int 10) (.int (k : Int)) = some (.int (10 ^ k)) := by
  show (if _ then _ else _) = _
  rw [if_pos]
  · rfl
  · exact ⟨by omega, by omega, by decide⟩
theorem mod_i {i j : Int} (h : 0 < j) : vMod (.int i) (.int j) = some (.int (i % j)) := if_pos h
theorem div_i {i j : Int} (h : 0 < j) (h2 : j < 10 ^ 34) : vDiv (.int i) (.int j) = some (.int (i / j)) := if_pos ⟨h, Nat.lt_trans (log_b (by omega) h2) (by decide)⟩
theorem int_i {i : Int} : uInt (.int i) = some (.int i) := rfl
theorem ix_cell {c : Nat} {i : Int} {S : Store} {l : List PV} (h : S[c]? = some l) : ixS (.cell c) (.int i) S = atP l i := by
  show (match S[c]? with
    | some l => atP l i
    | none => none) = _
  rw [h]
theorem put0 {dv dk : Den} {c : Nat} {r : Tg.Env} {S : Store} {v : PV} {j : Int} {k : Nat} {l : List PV} (h1 : dv (.val (.cell c) :: r) S = .ok v S) (h2 : dk (.val (.cell c) :: r) S = .ok (.int j) S) (h : S[c]? = some l) (hk : ixN l.length j = some k) :
    dPut 0 dv dk (.val (.cell c) :: r) S = .ok (.nx (.val (.cell c) :: r)) (S.set c (l.set k v)) := by
  unfold dPut
  rw [h1, bnd_ok]
  rw [show isSet (look (.val (.cell c) :: r) 0) = true from rfl, if_pos rfl, h2, bnd_ok]
  unfold putK2
  show setP 0 (putV (.val (.cell c)) S (.int j) v) _ = _
  unfold putV
  simp only
  rw [h]
  simp only
  rw [hk]
  rfl
theorem wat_lt {S : Store} {c m : Nat} (h : Wat S c m) : c < S.length := by
  obtain ⟨a, b, st, h, _⟩ := h
  exact (List.getElem?_eq_some_iff.mp h).1
theorem s_draw (n : Nat) {S : Store} {c m : Nat} (h : Wat S c m) (hm : m ≤ 100000) {many : Int} (h1 : 0 < many) (h2 : many < 1000000) :
    ∃ (i : Int) (S' : Store), C (n + 1) i_law_draw [.cell c, .int many] S = .ok (.int i) S' ∧ (0 ≤ i ∧ i < many) ∧ Wat S' c (m + 1) ∧ S'.length = S.length := by
  have hlt := wat_lt h
  obtain ⟨a, b, st, hS, ⟨b0, b1⟩, s0, s1⟩ := h
  by_cases ha : 0 < a
  · refine ⟨a % many, S.set c [.int (a / many), .int b, .int st], ?_, ⟨Int.emod_nonneg _ (by omega), Int.emod_lt_of_pos _ h1⟩, ⟨a / many, b, st, by rw [List.getElem?_set_self hlt], ⟨b0, b1⟩, s0, by omega⟩, by rw [List.length_set]⟩
    rw [cc rfl n _ S rfl]
    walk_at "es"
    rw [ix_cell hS, show atP [.int a, .int b, .int st] 0 = some (.int a) from rfl]
    walk_at "es"
    rw [decide_eq_true ha]
    walk_at "es"
    rw [ix_cell hS, show atP [.int a, .int b, .int st] 0 = some (.int a) from rfl]
    walk_at "es"
    rw [int_i]
    walk_at "es"
    rw [mod_i h1]
    walk_at "es"
    rw [put0 (v := .int (a / many)) (j := 0) (k := 0) (l := [.int a, .int b, .int st]) (by
      walk_at "es"
      rw [ix_cell hS, show atP [.int a, .int b, .int st] 0 = some (.int a) from rfl]
      walk_at "es"
      rw [div_i h1 (by omega)]
      walk_at "es") (by walk_at "es") hS rfl]
    walk_at "es"
  · have hS' : (S.set c [.int a, .int b, .int (st + 1)])[c]? = some [.int a, .int b, .int (st + 1)] := by rw [List.getElem?_set_self hlt]
    have M : ∀ (x k : Int), 0 < k → k ≤ 10 ^ 34 → 0 ≤ x % k ∧ x % k < 10 ^ 34 := fun x k hk h2 => by
      have e := Int.emod_lt_of_pos x hk
      have e0 := Int.emod_nonneg x (show k ≠ 0 by omega)
      exact ⟨e0, by omega⟩
    suffices key : ∃ i : Int, C (n + 1) i_law_draw [.cell c, .int many] S = .ok (.int i) (S.set c [.int a, .int b, .int (st + 1)]) ∧ (0 ≤ i ∧ i < many) by
      obtain ⟨i, k1, k2⟩ := key
      exact ⟨i, _, k1, k2, ⟨a, b, st + 1, hS', ⟨b0, b1⟩, by omega, by omega⟩, by rw [List.length_set]⟩
    rw [cc rfl n _ S rfl]
    walk_at "es"
    rw [ix_cell hS, show atP [.int a, .int b, .int st] 0 = some (.int a) from rfl]
    walk_at "es"
    rw [decide_eq_false ha]
    walk_at "es"
    rw [put0 (v := .int (st + 1)) (j := 2) (k := 2) (l := [.int a, .int b, .int st]) (by
      walk_at "es"
      rw [ix_cell hS, show atP [.int a, .int b, .int st] 2 = some (.int st) from rfl]
      walk_at "es") (by walk_at "es") hS rfl]
    walk_at "es"
    rw [ix_cell hS', show atP [.int a, .int b, .int (st + 1)] 2 = some (.int (st + 1)) from rfl]
    walk_at "es"
    rw [ix_cell hS', show atP [.int a, .int b, .int (st + 1)] 1 = some (.int b) from rfl]
    walk_at "es"
    rw [mul_r (i := b + 31) (by omega) (by omega)]
    walk_at "es"
    rw [mul_r (by decide) (by decide)]
    walk_at "es"
    rw [mul_r (i := st + 1) (j := st + 1) (by omega) (by omega)]
    walk_at "es"
    rw [mul_r (j := st + 1) (by omega) (by omega)]
    walk_at "es"
    rw [mul_r (by decide) (by decide)]
    walk_at "es"
    rw [int_i]
    walk_at "es"
    rw [show vPow (.int 10) (.int 29) = some (.int (10 ^ 29)) from pow_10 (k := 29) (by decide)]
    walk_at "es"
    rw [mod_i (by decide)]
    walk_at "es"
    generalize ((b + 31) * (st + 1 + 5) * 998244353 + (st + 1) * (st + 1) * (st + 1) * 424242427 + 77) = X
    have hx := M X (10 ^ 29 + 319) (by decide) (by decide)
    generalize X % (10 ^ 29 + 319) = Y at hx
    rw [mul_b hx.1 hx.2 hx.1 hx.2]
    walk_at "es"
    rw [ix_cell hS', show atP [.int a, .int b, .int (st + 1)] 1 = some (.int b) from rfl]
    walk_at "es"
    rw [mul_r (i := b) (by decide) (by decide)]
    walk_at "es"
    rw [int_i]
    walk_at "es"
    rw [show vPow (.int 10) (.int 31) = some (.int (10 ^ 31)) from pow_10 (k := 31) (by decide)]
    walk_at "es"
    rw [mod_i (by decide)]
    walk_at "es"
    generalize (Y * Y + b * 7 + (st + 1)) = Z
    have hz := M Z (10 ^ 31 + 33) (by decide) (by decide)
    generalize Z % (10 ^ 31 + 33) = U at hz
    rw [mul_b hz.1 hz.2 hz.1 hz.2]
    walk_at "es"
    rw [mul_r (by decide) (by decide)]
    walk_at "es"
    rw [mul_r (by decide) (by decide)]
    walk_at "es"
    rw [int_i]
    walk_at "es"
    rw [show vPow (.int 10) (.int 33) = some (.int (10 ^ 33)) from pow_10 (k := 33) (by decide)]
    walk_at "es"
    rw [mod_i (by decide)]
    walk_at "es"
    rw [div_i (by decide) (by decide)]
    walk_at "es"
    rw [int_i]
    walk_at "es"
    rw [mod_i h1]
    walk_at "es"
    exact ⟨_, rfl, Int.emod_nonneg _ (by omega), Int.emod_lt_of_pos _ h1⟩
theorem int_b {b : Bool} : uInt (.bl b) = some (.int (if b then 1 else 0)) := rfl
theorem mul_l {i j : Int} (h : -1000000000000 < i) (h2 : i < 1000000000000) : vMul (.int i) (.int j) = some (.int (i * j)) := by
  show (if mulOk i j = true then _ else _) = _
  rw [if_pos]
  unfold mulOk
  have : small i = true := by
    unfold small
    rw [Bool.and_eq_true, decide_eq_true_eq, decide_eq_true_eq]
    omega
  rw [this]
  rfl
theorem abs_i {i : Int} : uAbs (.int i) = some (.int (if i < 0 then -i else i)) := rfl
theorem max_i {i j : Int} : vMax (.int i) (.int j) = some (.int (if j > i then j else i)) := rfl
theorem min_i {i j : Int} : vMin (.int i) (.int j) = some (.int (if j < i then j else i)) := rfl
theorem s_well (n : Nat) (S : Store) (ns : List Int) (hl : ns.length ≤ 1000) (k : Nat) (hk : k ≤ 1000) : ∃ a b : Int, C (n + 1) i_law_well [.lst (ns.map PV.int), .int (k : Int)] S = .ok (.cell S.length) (S ++ [[.int a, .int b, .int 0]]) ∧ (0 ≤ b ∧ b < 10 ^ 30) := by
  rw [cc rfl n _ S rfl]
  walk_at "es"
  rw [List.length_map]
  -- the first value
  have hc : ∃ cell : Int, (if decide ((k : Int) < (ns.length : Int)) = true then
      ((okv (vIdx (.lst (ns.map PV.int)) (.int (k : Int))) S).bnd fun v S1 => okv (uInt v) S1)
      else ((okv (vMul (.int 71) (.int (k : Int))) S).bnd fun v S1 => okv (vAdd v (.int 37)) S1)) = .ok (.int cell) S := by
    by_cases h : (k : Int) < (ns.length : Int)
    · have hk : k < ns.length := by omega
      refine ⟨ns[k], ?_⟩
      rw [decide_eq_true h]
      walk_at "es"
      rw [show vIdx (.lst (ns.map PV.int)) (.int (k : Int)) = (ns.map PV.int)[k]? from at_nat, List.getElem?_map, List.getElem?_eq_getElem hk]
      simp only [Option.map_some]
      walk_at "es"
      rw [int_i]
      walk_at "es"
    · refine ⟨71 * (k : Int) + 37, ?_⟩
      rw [decide_eq_false h]
      walk_at "es"
      rw [mul_l (by decide) (by decide)]
      walk_at "es"
  obtain ⟨cell, hc⟩ := hc
  rw [hc]
  walk_at "es"
  -- the loop
  obtain ⟨g', hg⟩ := for_st (t := .name 4) (S := S) (db := evS (Pn n) (.seq (.asg (.name 3) (.bin 4 (.u1 9 (.bin 0 (.bin 2 (.var 3) (.c (.int 5323))) (.bin 4 (.u1 9 (.var 4)) (.bin 0 (.bin 5 (.c (.int 10)) (.c (.int 19))) (.c (.int 51)))))) (.bin 0 (.bin 5 (.c (.int 10)) (.c (.int 25))) (.c (.int 13))))) (.skip))) PV.int (fun w p => (w * 5323 + p % (10 ^ 19 + 51)) % (10 ^ 25 + 13))
    (fun (w : Int) (g : Sl) => [.val (.lst (ns.map PV.int)), .val (.int (k : Int)), .val (.int cell), .val (.int w), g, .no]) (fun _ _ => True) (fun x xs w g _ => ⟨trivial, _, .val (.int x), rfl, by
      walk_at "es"
      rw [mul_r (by decide) (by decide)]
      walk_at "es"
      rw [int_i]
      walk_at "es"
      rw [show vPow (.int 10) (.int 19) = some (.int (10 ^ 19)) from pow_10 (k := 19) (by decide)]
      walk_at "es"
      rw [mod_i (by decide)]
      walk_at "es"
      rw [int_i]
      walk_at "es"
      rw [show vPow (.int 10) (.int 25) = some (.int (10 ^ 25)) from pow_10 (k := 25) (by decide)]
      walk_at "es"
      rw [mod_i (by decide)]
      walk_at "es"⟩) ns (29 + (ns.length : Int)) .no trivial
  simp only [evS, ev, opF, cmF, u1F] at hg
  rw [List.length_map, hg]
  walk_at "es"
  generalize ns.foldl (fun (w : Int) p => (w * 5323 + p % (10 ^ 19 + 51)) % (10 ^ 25 + 13)) (29 + (ns.length : Int)) = W
  rw [abs_i]
  walk_at "es"
  rw [mul_r (by decide) (by decide)]
  walk_at "es"
  rw [mul_r (by decide) (by decide)]
  walk_at "es"
  rw [int_b]
  walk_at "es"
  rw [mul_l (by decide) (by decide)]
  walk_at "es"
  rw [mul_l (by decide) (by decide)]
  walk_at "es"
  rw [int_i]
  walk_at "es"
  rw [show vPow (.int 10) (.int 28) = some (.int (10 ^ 28)) from pow_10 (k := 28) (by decide)]
  walk_at "es"
  rw [mod_i (by decide)]
  walk_at "es"
  unfold dLstC
  walk_at "es"
  rw [abs_i]
  walk_at "es"
  rw [show vPow (.int 10) (.int 18) = some (.int (10 ^ 18)) from pow_10 (k := 18) (by decide)]
  walk_at "es"
  rw [max_i]
  walk_at "es"
  generalize ((if cell < 0 then -cell else cell) * 7129 + W * 41 + 3 * (if decide (cell < 0) = true then 1 else 0) + 61 * (k : Int)) = X
  have e := Int.emod_lt_of_pos X (show (0 : Int) < 10 ^ 28 + 331 by decide)
  have e0 := Int.emod_nonneg X (show (10 : Int) ^ 28 + 331 ≠ 0 by decide)
  refine ⟨_, _, rfl, e0, ?_⟩
  omega
theorem rngL0 (n : Nat) : rngL 0 n = (List.range n).map fun k : Nat => PV.int (k : Int) := by
  unfold rngL
  apply List.map_congr_left
  intro k _
  rw [Int.zero_add]
theorem rng_n (n : Nat) (h : n ≤ 1000000) : rng1 [.int (n : Int)] = some ((List.range n).map fun k : Nat => PV.int (k : Int)) := by
  rw [rng1_ok (by omega) (by omega), ← rngL0]
  rfl
theorem wat_mono {S : Store} {c m k : Nat} (h : Wat S c m) (hk : m ≤ k) : Wat S c k := by
  obtain ⟨a, b, st, h1, h2, h3, h4⟩ := h
  exact ⟨a, b, st, h1, h2, h3, by omega⟩
theorem for_g {α γ : Type} {t : Tgt} {db : DenS} (e : α → PV) (ρ : γ → Tg.Env) (I : List α → γ → Store → Prop) (h : ∀ x xs g S, I (x :: xs) g S → ∃ ρ1 g' S', t.put (e x) (ρ g) = some ρ1 ∧ db ρ1 S = .ok (.nx (ρ g')) S' ∧ I xs g' S') :
    ∀ xs g S, I xs g S → ∃ g' S', forGo t db (xs.map e) (ρ g) S = .ok (.nx (ρ g')) S' ∧ I [] g' S'
  | [], g, S, hI => ⟨g, S, rfl, hI⟩
  | x :: xs, g, S, hI => by
    obtain ⟨ρ1, g', S', h1, h2, h3⟩ := h x xs g S hI
    obtain ⟨g2, S2, q1, q2⟩ := for_g e ρ I h xs g' S' h3
    refine ⟨g2, S2, ?_, q2⟩
    rw [List.map_cons]
    unfold forGo
    rw [h1]
    simp only
    rw [h2, bnd_ok]
    exact q1
/-- a comprehension that draws: what passes, with what it gives -/
theorem lc_x {α β : Type} {t : Tgt} {tt te : Den} {ρ : Tg.Env} (e : α → PV) (f : α → β → PV) (Q : α → β → Prop) (I : List α → Store → Prop)
    (h : ∀ x xs S, I (x :: xs) S → ∃ ρ1 b S1, t.put (e x) ρ = some ρ1 ∧ tt ρ1 S = .ok (.bl b) S1 ∧ (b = true → ∃ y S2, te ρ1 S1 = .ok (f x y) S2 ∧ Q x y ∧ I xs S2) ∧ (b = false → I xs S1)) :
    ∀ xs S, I xs S → ∃ (zs : List (α × β)) (S' : Store), lcGo t tt te ρ (xs.map e) S = .ok (zs.map fun z => f z.1 z.2) S' ∧ (zs.map (·.1)).Sublist xs ∧ (∀ z ∈ zs, Q z.1 z.2) ∧ I [] S'
  | [], S, hI => ⟨[], S, rfl, List.Sublist.refl _, (fun _ h => by cases h), hI⟩
  | x :: xs, S, hI => by
    obtain ⟨ρ1, b, S1, h1, h2, h3, h4⟩ := h x xs S hI
    cases b with
    | true =>
      obtain ⟨y, S2, q1, q2, q3⟩ := h3 rfl
      obtain ⟨zs, S', r1, r2, r3, r4⟩ := lc_x e f Q I h xs S2 q3
      refine ⟨(x, y) :: zs, S', ?_, r2.cons_cons x, ?_, r4⟩
      · rw [List.map_cons]
        unfold lcGo
        rw [h1]; simp only
        rw [h2]; simp only [truth]
        rw [q1]; simp only
        rw [r1]; rfl
      · intro z hz
        rcases List.mem_cons.mp hz with rfl | hz
        · exact q2
        · exact r3 z hz
    | false =>
      obtain ⟨zs, S', r1, r2, r3, r4⟩ := lc_x e f Q I h xs S1 (h4 rfl)
      refine ⟨zs, S', ?_, r2.cons x, r3, r4⟩
      rw [List.map_cons]
      unfold lcGo
      rw [h1]; simp only
      rw [h2]; simp only [truth]
      exact r1
/-- .. with no test -/
theorem lc_y {α β : Type} {t : Tgt} {tt te : Den} {ρ : Tg.Env} (e : α → PV) (f : α → β → PV) (Q : α → β → Prop) (I : List α → Store → Prop)
    (h : ∀ x xs S, I (x :: xs) S → ∃ ρ1 y S2, t.put (e x) ρ = some ρ1 ∧ tt ρ1 S = .ok (.bl true) S ∧ te ρ1 S = .ok (f x y) S2 ∧ Q x y ∧ I xs S2) :
    ∀ xs S, I xs S → ∃ (zs : List (α × β)) (S' : Store), lcGo t tt te ρ (xs.map e) S = .ok (zs.map fun z => f z.1 z.2) S' ∧ zs.map (·.1) = xs ∧ (∀ z ∈ zs, Q z.1 z.2) ∧ I [] S'
  | [], S, hI => ⟨[], S, rfl, rfl, (fun _ h => by cases h), hI⟩
  | x :: xs, S, hI => by
    obtain ⟨ρ1, y, S2, h1, h2, q1, q2, q3⟩ := h x xs S hI
    obtain ⟨zs, S', r1, r2, r3, r4⟩ := lc_y e f Q I h xs S2 q3
    refine ⟨(x, y) :: zs, S', ?_, by rw [List.map_cons, r2], ?_, r4⟩
    · rw [List.map_cons]
      unfold lcGo
      rw [h1]; simp only
      rw [h2]; simp only [truth]
      rw [q1]; simp only
      rw [r1]; rfl
    · intro z hz
      rcases List.mem_cons.mp hz with rfl | hz
      · exact q2
      · exact r3 z hz
theorem lcK_of {vs : List Nat} {t : Tgt} {tt te : Den} {ρ : Tg.Env} {l r : List PV} {S S' : Store} (hl : l.length ≤ sizeLine) (h : lcGo t tt te (wipeE ρ vs) l S = .ok r S') : lcK vs t tt te ρ (.lst l) S = .ok (.lst r) S' := by
  unfold lcK
  show (if l.length ≤ sizeLine then _ else _) = _
  rw [if_pos hl, show asL (PV.lst l) = l from rfl, h]
  rfl
end K73
end
section
set_option Elab.async false
set_option linter.all false
set_option autoImplicit false
set_option maxRecDepth 100000
set_option maxHeartbeats 0
namespace K73
open PySem PySem.Spec PyProof.Rows L2 Tg
local macro_rules | `(tactic| walk_at "es") => `(tactic| try simp only [st0, st1, st2, st3, st4, evS, ev, evO, dSeqS, dSkip, dExpr, dRet, dRetN, dIfS, dAsg, dC, dNil, dCons, consV, dTup, dLst, dB1, dB2, dChain, dIte, dAnd, dOr, dNot, dCall,
  dCutL, dCutH, dCutB, dM1, dIx, dSeq, dSrc, dLc, dFor, dPar2, oCons, oNil, wipeE, opF, cmF, u1F, u2F, m1F, isiN, rngF, Tgt.put, List.set, List.headD_cons, List.tail_cons,
  bnd_ok, bnd_bad, bnd_exc, okv_s, onBl_b, onI_i, onS_s, onT_s, tst_b, tstS_b, okE_s, outF_rt, outF_nx, outF_exc, seqK_nx, seqK_rt, okL_s, asL_l, okN0, okN1, okN2, okN3, okN4, okN5, v0, v1, v2, v3, v4, v5, v6, v7, v8, v9, v10, v11,
  isi1, isi2, isi3, isi4, isi5, iss1, iss2, iss3, iss4, iss5, ist1, ist2, ist3, ist4, ist5, isn1, isn2, isn3, isb5, len_t, len_l, lt_i, le_i, gt_i, ge_i, eq_i, ne_i, eq_s, ne_s, lt_s, add_i, sub_i, neg_i, is_non, is_t, is_s, is_i, isn_non, isn_t, isn_s, isn_i,
  at_t0, at_t1, at_t2, at_t3, at_t4, ixt, ixl, ixs, sq_t, sq_l, sq_s, tup_l, in_c, nin_c, and_bl, or_bl, ite_ok, ret_ok, guard_ok, ib_and, ib_or, ib_f, nc0, nc1, nc2, nc3, nc4, nc5, nc6, Int.reduceLE, Int.reduceLT, Int.reduceEq, decide_true, decide_false, Int.le_refl, Int.lt_irrefl,
  List.length_cons, List.length_nil, List.replicate, List.cons_append, List.nil_append, Nat.add_zero, Nat.zero_add, Nat.reduceAdd, Nat.reduceSub, Option.getD_some, Option.getD_none, Bool.not_false, Bool.not_true, Bool.true_or, Bool.false_or, Bool.true_and, Bool.false_and, Bool.and_true, Bool.or_true, Bool.or_false, if_true, if_false, Bool.false_eq_true, ite_true, ite_false])
local macro_rules | `(tactic| walk_at "es2") => `(tactic| try simp -implicitDefEqProofs only [st0, st1, st2, st3, st4, evS, ev, evO, dSeqS, dSkip, dExpr, dRet, dRetN, dIfS, dAsg, dC, dNil, dCons, consV, dTup, dLst, dB1, dB2, dChain, dIte, dAnd, dOr, dNot, dCall,
  dCutL, dCutH, dCutB, dM1, dIx, dSeq, dSrc, dLc, dFor, dPar2, oCons, oNil, wipeE, opF, cmF, u1F, u2F, m1F, isiN, rngF, Tgt.put, List.set, List.headD_cons, List.tail_cons,
  bnd_ok, bnd_bad, bnd_exc, okv_s, onBl_b, onI_i, onS_s, onT_s, tst_b, tstS_b, okE_s, outF_rt, outF_nx, outF_exc, seqK_nx, seqK_rt, okL_s, asL_l, okN0, okN1, okN2, okN3, okN4, okN5, v0, v1, v2, v3, v4, v5, v6, v7, v8, v9, v10, v11,
  isi1, isi2, isi3, isi4, isi5, iss1, iss2, iss3, iss4, iss5, ist1, ist2, ist3, ist4, ist5, isn1, isn2, isn3, isb5, len_t, len_l, lt_i, le_i, gt_i, ge_i, eq_i, ne_i, eq_s, ne_s, lt_s, add_i, sub_i, neg_i, is_non, is_t, is_s, is_i, isn_non, isn_t, isn_s, isn_i,
  at_t0, at_t1, at_t2, at_t3, at_t4, ixt, ixl, ixs, sq_t, sq_l, sq_s, tup_l, in_c, nin_c, and_bl, or_bl, ite_ok, ret_ok, guard_ok, ib_and, ib_or, ib_f, nc0, nc1, nc2, nc3, nc4, nc5, nc6, Int.reduceLE, Int.reduceLT, Int.reduceEq, decide_true, decide_false, Int.le_refl, Int.lt_irrefl,
  List.length_cons, List.length_nil, List.replicate, List.cons_append, List.nil_append, Nat.add_zero, Nat.zero_add, Nat.reduceAdd, Nat.reduceSub, Option.getD_some, Option.getD_none, Bool.not_false, Bool.not_true, Bool.true_or, Bool.false_or, Bool.true_and, Bool.false_and, Bool.and_true, Bool.or_true, Bool.or_false, if_true, if_false, Bool.false_eq_true, ite_true, ite_false])
/-! ### repr of plain data, as a row of signs -/
def okc (c : Nat) : Bool := decide (32 ≤ c) && (decide (c < 127) && (decide (c ≠ 39) && decide (c ≠ 92)))
mutual
def rp : PV → List Nat
  | .bl b => if b = true then [84, 114, 117, 101] else [70, 97, 108, 115, 101]
  | .int i => TL.numL i.toNat
  | .str s => 39 :: (s ++ [39])
  | .tup xs => 40 :: (rpT xs)
  | .lst xs => 91 :: (rpL xs)
  | _ => []
/-- what follows the bracket of a tuple -/
def rpT : List PV → List Nat
  | [] => [41]
  | x :: xs => rp x ++ (if xs.isEmpty = true then [44, 41] else rpR 41 xs)
def rpL : List PV → List Nat
  | [] => [93]
  | x :: xs => rp x ++ rpR 93 xs
def rpR (z : Nat) : List PV → List Nat
  | [] => [z]
  | x :: xs => 44 :: 32 :: (rp x ++ rpR z xs)
end
mutual
def smp : PV → Bool
  | .bl _ => true
  | .int i => decide (0 ≤ i) && decide (i < 10 ^ 30)
  | .str s => s.all okc
  | .tup xs => smps xs
  | .lst xs => smps xs
  | _ => false
def smps : List PV → Bool
  | [] => true
  | x :: xs => smp x && smps xs
end
theorem smps_of : ∀ {xs : List PV}, (∀ x ∈ xs, smp x = true) → smps xs = true
  | [], _ => rfl
  | x :: xs, h => by
    show (smp x && smps xs) = true
    rw [h x (List.mem_cons_self ..), smps_of fun y hy => h y (List.mem_cons_of_mem _ hy)]; rfl
/-! ### read back -/
/-- what may follow a thing -/
def stp : List Nat → Prop
  | [] => True
  | c :: _ => c = 44 ∨ c = 41 ∨ c = 93
theorem dig_cut : ∀ {a b x y : List Nat}, (∀ c ∈ a, 48 ≤ c ∧ c ≤ 57) → (∀ c ∈ b, 48 ≤ c ∧ c ≤ 57) → stp x → stp y → a ++ x = b ++ y → a = b ∧ x = y
  | [], [], _, _, _, _, _, _, h => ⟨rfl, h⟩
  | [], c :: b, x, y, _, hb, hx, _, h => by
    rw [List.nil_append] at h
    subst h
    have := hb c (List.mem_cons_self ..)
    simp only [List.cons_append, stp] at hx
    omega
  | c :: a, [], x, y, ha, _, _, hy, h => by
    rw [List.nil_append] at h
    subst h
    have := ha c (List.mem_cons_self ..)
    simp only [List.cons_append, stp] at hy
    omega
  | c :: a, d :: b, x, y, ha, hb, hx, hy, h => by
    rw [List.cons_append, List.cons_append] at h
    injection h with h1 h2
    obtain ⟨e1, e2⟩ := dig_cut (fun z hz => ha z (List.mem_cons_of_mem _ hz)) (fun z hz => hb z (List.mem_cons_of_mem _ hz)) hx hy h2
    exact ⟨by rw [h1, e1], e2⟩
theorem quo_cut : ∀ {a b x y : List Nat}, 39 ∉ a → 39 ∉ b → a ++ 39 :: x = b ++ 39 :: y → a = b ∧ x = y
  | [], [], _, _, _, _, h => ⟨rfl, by injection h⟩
  | [], c :: b, x, y, _, hb, h => by
    rw [List.nil_append, List.cons_append] at h
    injection h with h1 _
    exact absurd (List.mem_cons_self ..) (h1 ▸ hb)
  | c :: a, [], x, y, ha, _, h => by
    rw [List.nil_append, List.cons_append] at h
    injection h with h1 _
    exact absurd (List.mem_cons_self ..) (h1 ▸ ha)
  | c :: a, d :: b, x, y, ha, hb, h => by
    rw [List.cons_append, List.cons_append] at h
    injection h with h1 h2
    obtain ⟨e1, e2⟩ := quo_cut (fun z => ha (List.mem_cons_of_mem _ z)) (fun z => hb (List.mem_cons_of_mem _ z)) h2
    exact ⟨by rw [h1, e1], e2⟩
theorem okc_q {s : List Nat} (h : s.all okc = true) : 39 ∉ s := fun hm => by
  have := List.all_eq_true.mp h 39 hm
  revert this; decide
theorem num_ne (k : Nat) : ∃ c r, TL.numL k = c :: r ∧ 48 ≤ c ∧ c ≤ 57 := by
  have h := TL.numL_digits k
  have hne := TL.numL_ne k
  cases e : TL.numL k with
  | nil => exact absurd e hne
  | cons c r =>
    have := h c (by rw [e]; exact List.mem_cons_self ..)
    exact ⟨c, r, rfl, this⟩
theorem num_dig (k : Nat) : ∀ c ∈ TL.numL k, 48 ≤ c ∧ c ≤ 57 := fun c hc => TL.numL_digits k c hc
theorem rp_hd {v : PV} (h : smp v = true) : ∃ c r, rp v = c :: r ∧ c ≠ 41 ∧ c ≠ 93 ∧ c ≠ 44 := by
  cases v with
  | bl a => cases a <;> exact ⟨_, _, rfl, by decide, by decide, by decide⟩
  | int b =>
    obtain ⟨c, r, e1, h1, h2⟩ := num_ne b.toNat
    exact ⟨c, r, e1, by omega, by omega, by omega⟩
  | str s => exact ⟨_, _, rfl, by decide, by decide, by decide⟩
  | tup s => exact ⟨_, _, rfl, by decide, by decide, by decide⟩
  | lst s => exact ⟨_, _, rfl, by decide, by decide, by decide⟩
  | _ => cases h
theorem no_close {v : PV} (h : smp v = true) {z : Nat} (hz : z = 41 ∨ z = 93) {x y : List Nat} (e : z :: x = rp v ++ y) : False := by
  obtain ⟨c, r, q, h1, h2, h3⟩ := rp_hd h
  rw [q] at e
  injection e with e1 _
  omega
theorem stp_T (xs : List PV) (x : List Nat) : stp ((if xs.isEmpty = true then [44, 41] else rpR 41 xs) ++ x) := by
  cases xs with
  | nil => exact .inl rfl
  | cons _ _ => exact .inl rfl
theorem stp_R {z : Nat} (hz : z = 41 ∨ z = 93) (xs : List PV) (x : List Nat) : stp (rpR z xs ++ x) := by
  cases xs with
  | nil =>
    show z = 44 ∨ z = 41 ∨ z = 93
    omega
  | cons _ _ => exact .inl rfl
theorem smps_c {x : PV} {xs : List PV} (h : smps (x :: xs) = true) : smp x = true ∧ smps xs = true := by
  have h' : (smp x && smps xs) = true := h
  simpa using h'
mutual
theorem rp_inj : ∀ (v w : PV), smp v = true → smp w = true → ∀ x y, stp x → stp y → rp v ++ x = rp w ++ y → v = w ∧ x = y
  | .bl a, .bl b, _, _, x, y, _, _, h => by
    cases a <;> cases b <;> simp [rp] at h
    · exact ⟨rfl, h⟩
    · exact ⟨rfl, h⟩
  | .int a, .int b, ha, hb, x, y, hx, hy, h => by
    obtain ⟨e1, e2⟩ := dig_cut (num_dig _) (num_dig _) hx hy h
    have := TL.numL_inj e1
    simp [smp] at ha hb
    exact ⟨by congr 1; omega, e2⟩
  | .str a, .str b, ha, hb, x, y, _, _, h => by
    have h' : a ++ 39 :: x = b ++ 39 :: y := by simpa [rp] using h
    obtain ⟨e1, e2⟩ := quo_cut (okc_q ha) (okc_q hb) h'
    exact ⟨by rw [e1], e2⟩
  | .tup xs, .tup ys, ha, hb, x, y, hx, hy, h => by
    have h' : rpT xs ++ x = rpT ys ++ y := by simpa [rp] using h
    obtain ⟨e1, e2⟩ := rpT_inj xs ys ha hb x y hx hy h'
    exact ⟨by rw [e1], e2⟩
  | .lst xs, .lst ys, ha, hb, x, y, hx, hy, h => by
    have h' : rpL xs ++ x = rpL ys ++ y := by simpa [rp] using h
    obtain ⟨e1, e2⟩ := rpL_inj xs ys ha hb x y hx hy h'
    exact ⟨by rw [e1], e2⟩
  | .bl a, .int b, _, _, x, y, _, _, h => by
    obtain ⟨c, r, e, h1, h2⟩ := num_ne b.toNat
    simp only [rp, e] at h
    cases a <;> simp at h <;> omega
  | .int b, .bl a, _, _, x, y, _, _, h => by
    obtain ⟨c, r, e, h1, h2⟩ := num_ne b.toNat
    simp only [rp, e] at h
    cases a <;> simp at h <;> omega
  | .bl a, .str b, _, _, x, y, _, _, h => by cases a <;> simp [rp] at h
  | .str b, .bl a, _, _, x, y, _, _, h => by cases a <;> simp [rp] at h
  | .bl a, .tup b, _, _, x, y, _, _, h => by cases a <;> simp [rp] at h
  | .tup b, .bl a, _, _, x, y, _, _, h => by cases a <;> simp [rp] at h
  | .bl a, .lst b, _, _, x, y, _, _, h => by cases a <;> simp [rp] at h
  | .lst b, .bl a, _, _, x, y, _, _, h => by cases a <;> simp [rp] at h
  | .int b, .str a, _, _, x, y, _, _, h => by
    obtain ⟨c, r, e, h1, h2⟩ := num_ne b.toNat
    simp only [rp, e] at h
    simp at h
    omega
  | .str a, .int b, _, _, x, y, _, _, h => by
    obtain ⟨c, r, e, h1, h2⟩ := num_ne b.toNat
    simp only [rp, e] at h
    simp at h
    omega
  | .int b, .tup a, _, _, x, y, _, _, h => by
    obtain ⟨c, r, e, h1, h2⟩ := num_ne b.toNat
    simp only [rp, e] at h
    simp at h
    omega
  | .tup a, .int b, _, _, x, y, _, _, h => by
    obtain ⟨c, r, e, h1, h2⟩ := num_ne b.toNat
    simp only [rp, e] at h
    simp at h
    omega
  | .int b, .lst a, _, _, x, y, _, _, h => by
    obtain ⟨c, r, e, h1, h2⟩ := num_ne b.toNat
    simp only [rp, e] at h
    simp at h
    omega
  | .lst a, .int b, _, _, x, y, _, _, h => by
    obtain ⟨c, r, e, h1, h2⟩ := num_ne b.toNat
    simp only [rp, e] at h
    simp at h
    omega
  | .str a, .tup b, _, _, x, y, _, _, h => by simp [rp] at h
  | .tup b, .str a, _, _, x, y, _, _, h => by simp [rp] at h
  | .str a, .lst b, _, _, x, y, _, _, h => by simp [rp] at h
  | .lst b, .str a, _, _, x, y, _, _, h => by simp [rp] at h
  | .tup a, .lst b, _, _, x, y, _, _, h => by simp [rp] at h
  | .lst b, .tup a, _, _, x, y, _, _, h => by simp [rp] at h
  | .non, _, h, _, _, _, _, _, _ => by cases h
  | .dct _, _, h, _, _, _, _, _, _ => by cases h
  | .kdc _, _, h, _, _, _, _, _, _ => by cases h
  | .fn _, _, h, _, _, _, _, _, _ => by cases h
  | .cell _, _, h, _, _, _, _, _, _ => by cases h
  | _, .non, _, h, _, _, _, _, _ => by cases h
  | _, .dct _, _, h, _, _, _, _, _ => by cases h
  | _, .kdc _, _, h, _, _, _, _, _ => by cases h
  | _, .fn _, _, h, _, _, _, _, _ => by cases h
  | _, .cell _, _, h, _, _, _, _, _ => by cases h
theorem rpT_inj : ∀ (xs ys : List PV), smps xs = true → smps ys = true → ∀ x y, stp x → stp y → rpT xs ++ x = rpT ys ++ y → xs = ys ∧ x = y
  | [], [], _, _, x, y, _, _, h => ⟨rfl, by simpa [rpT] using h⟩
  | [], b :: ys, _, hb, x, y, _, _, h => by
    simp only [rpT, List.append_assoc] at h
    exact (no_close (smps_c hb).1 (.inl rfl) h).elim
  | a :: xs, [], ha, _, x, y, _, _, h => by
    simp only [rpT, List.append_assoc] at h
    exact (no_close (smps_c ha).1 (.inl rfl) h.symm).elim
  | a :: xs, b :: ys, ha, hb, x, y, hx, hy, h => by
    simp only [rpT, List.append_assoc] at h
    obtain ⟨rfl, e2⟩ := rp_inj a b (smps_c ha).1 (smps_c hb).1 _ _ (stp_T xs x) (stp_T ys y) h
    cases xs with
    | nil =>
      cases ys with
      | nil => exact ⟨rfl, by simpa using e2⟩
      | cons _ _ => simp [rpR] at e2
    | cons x1 xs =>
      cases ys with
      | nil => simp [rpR] at e2
      | cons y1 ys =>
        obtain ⟨e3, e4⟩ := rpR_inj 41 (.inl rfl) (x1 :: xs) (y1 :: ys) (smps_c ha).2 (smps_c hb).2 x y hx hy (by simpa using e2)
        exact ⟨by rw [e3], e4⟩
theorem rpL_inj : ∀ (xs ys : List PV), smps xs = true → smps ys = true → ∀ x y, stp x → stp y → rpL xs ++ x = rpL ys ++ y → xs = ys ∧ x = y
  | [], [], _, _, x, y, _, _, h => ⟨rfl, by simpa [rpL] using h⟩
  | [], b :: ys, _, hb, x, y, _, _, h => by
    simp only [rpL, List.append_assoc] at h
    exact (no_close (smps_c hb).1 (.inr rfl) h).elim
  | a :: xs, [], ha, _, x, y, _, _, h => by
    simp only [rpL, List.append_assoc] at h
    exact (no_close (smps_c ha).1 (.inr rfl) h.symm).elim
  | a :: xs, b :: ys, ha, hb, x, y, hx, hy, h => by
    simp only [rpL, List.append_assoc] at h
    obtain ⟨rfl, e2⟩ := rp_inj a b (smps_c ha).1 (smps_c hb).1 _ _ (stp_R (.inr rfl) xs x) (stp_R (.inr rfl) ys y) h
    obtain ⟨e3, e4⟩ := rpR_inj 93 (.inr rfl) xs ys (smps_c ha).2 (smps_c hb).2 x y hx hy e2
    exact ⟨by rw [e3], e4⟩
theorem rpR_inj (z : Nat) (hz : z = 41 ∨ z = 93) : ∀ (xs ys : List PV), smps xs = true → smps ys = true → ∀ x y, stp x → stp y → rpR z xs ++ x = rpR z ys ++ y → xs = ys ∧ x = y
  | [], [], _, _, x, y, _, _, h => ⟨rfl, by simpa [rpR] using h⟩
  | [], b :: ys, _, hb, x, y, _, _, h => by
    simp [rpR] at h
    omega
  | a :: xs, [], ha, _, x, y, _, _, h => by
    simp [rpR] at h
    omega
  | a :: xs, b :: ys, ha, hb, x, y, hx, hy, h => by
    have h' : rp a ++ (rpR z xs ++ x) = rp b ++ (rpR z ys ++ y) := by simpa [rpR] using h
    obtain ⟨rfl, e2⟩ := rp_inj a b (smps_c ha).1 (smps_c hb).1 _ _ (stp_R hz xs x) (stp_R hz ys y) h'
    obtain ⟨e3, e4⟩ := rpR_inj z hz xs ys (smps_c ha).2 (smps_c hb).2 x y hx hy e2
    exact ⟨by rw [e3], e4⟩
end
theorem rp_eq {v w : PV} (hv : smp v = true) (hw : smp w = true) (h : rp v = rp w) : v = w := (rp_inj v w hv hw [] [] trivial trivial (by rw [h])).1
/-! ### it is what the model shows -/
theorem tlA (a b : Str) : (a ++ b).cps.toList = a.cps.toList ++ b.cps.toList := TL.tl_append a b
theorem quote_39 {s : List Nat} (h : s.all okc = true) : reprQuote ⟨s.toArray⟩ = 39 := by
  unfold reprQuote
  rw [if_neg]
  intro q
  rw [Bool.and_eq_true] at q
  have := q.1
  simp at this
  exact okc_q h this
theorem char_1 {c : Nat} (h : okc c = true) : PySem.Builtin.Str.reprChar 39 c = [c] := by
  have key : ∀ c < 127, okc c = true → PySem.Builtin.Str.reprChar 39 c = [c] := by decide +kernel
  refine key c ?_ h
  unfold okc at h
  simp at h
  omega
theorem fold_1 : ∀ (l : List Nat) (acc : Array Nat), l.all okc = true → (l.foldl (fun out c => out ++ (PySem.Builtin.Str.reprChar 39 c).toArray) acc).toList = acc.toList ++ l
  | [], acc, _ => by simp
  | c :: r, acc, h => by
    rw [List.all_cons, Bool.and_eq_true] at h
    rw [List.foldl_cons, fold_1 r _ h.2, char_1 h.1]
    simp
theorem text_1 {s : List Nat} (h : s.all okc = true) : (reprText ⟨s.toArray⟩).cps.toList = 39 :: (s ++ [39]) := by
  unfold reprText
  rw [quote_39 h]
  have := fold_1 s #[39] h
  simp only [Array.toList_push, ← Array.foldl_toList]
  rw [this]
  simp
/-- the rest of a row -/
def jR (l : List (List Nat)) : List Nat := l.flatMap fun t => 44 :: 32 :: t
theorem joinL_jR : ∀ (p : List Nat) (r : List (List Nat)), TL.joinL [44, 32] (p :: r) = p ++ jR r
  | p, [] => by show p = p ++ []; simp
  | p, q :: r => by
    show p ++ ([44, 32] ++ TL.joinL [44, 32] (q :: r)) = p ++ jR (q :: r)
    rw [joinL_jR q r]; simp [jR]
theorem sepS : (Str.ofString ", ").cps.toList = [44, 32] := by decide +kernel
theorem from_jR : ∀ (ts : List Str) (k : Nat) (acc : Str), (textFrom (k + 1) acc ts).cps.toList = acc.cps.toList ++ jR (ts.map fun t => t.cps.toList)
  | [], k, acc => by show acc.cps.toList = _; simp [jR]
  | t :: ts, k, acc => by
    show (textFrom (k + 1 + 1) (acc ++ (if k + 1 > 0 then ", " else "" : String) ++ t) ts).cps.toList = _
    rw [from_jR ts (k + 1), tlA, tlA, if_pos (Nat.succ_pos k)]
    rw [show (((", " : String) : Str)).cps.toList = [44, 32] from sepS]
    simp [jR]
theorem list_T (ts : List Str) : (listText ts).cps.toList = 91 :: (match ts with
    | [] => [93]
    | t :: r => t.cps.toList ++ (jR (r.map fun t => t.cps.toList) ++ [93])) := by
  unfold listText
  cases ts with
  | nil => decide +kernel
  | cons t r =>
    rw [tlA]
    show (textFrom (0 + 1) ("[" ++ (if 0 > 0 then ", " else "" : String) ++ t) r).cps.toList ++ _ = _
    rw [from_jR r 0, tlA, tlA]
    rw [show ((("[" : String) : Str)).cps.toList = [91] from by decide +kernel, show ((("]" : String) : Str)).cps.toList = [93] from by decide +kernel, show (((if 0 > 0 then ", " else "" : String) : Str)).cps.toList = [] from by decide +kernel]
    simp
theorem tuple_T (ts : List Str) : (tupleText ts).cps.toList = 40 :: (match ts with
    | [] => [41]
    | t :: r => t.cps.toList ++ (if r.isEmpty = true then [44, 41] else jR (r.map fun t => t.cps.toList) ++ [41])) := by
  unfold tupleText
  rw [tlA, tlA, show ((("(" : String) : Str)).cps.toList = [40] from by decide +kernel]
  have hj := TL.tl_join (Str.ofString ", ") ts
  rw [show (Str.join ", " ts).cps.toList = TL.joinL [44, 32] (ts.map TL.tl) from hj]
  cases ts with
  | nil => decide +kernel
  | cons t r =>
    rw [List.map_cons, joinL_jR]
    cases r with
    | nil => simp [jR]; decide +kernel
    | cons u r =>
      rw [show (((if (t :: u :: r).length == 1 then ",)" else ")" : String) : Str)).cps.toList = [41] from by
        rw [if_neg (by simp)]; decide +kernel]
      simp
theorem int_T {i : Int} (h : 0 ≤ i) : ((toString i : String) : Str).cps.toList = TL.numL i.toNat := by
  obtain ⟨k, rfl⟩ := Int.eq_ofNat_of_zero_le h
  have := SX.num_S k
  rw [show ((toString ((k : Nat) : Int) : String) : Str) = SX.S (TL.numL k) from this]
  rfl
theorem rpR_jR (z : Nat) : ∀ xs : List PV, rpR z xs = jR (xs.map rp) ++ [z]
  | [] => rfl
  | x :: xs => by
    show 44 :: 32 :: (rp x ++ rpR z xs) = _
    rw [rpR_jR z xs]; simp [jR]
mutual
theorem shown_rp : ∀ (v : PV), smp v = true → ∃ d, toD v = some d ∧ d.shown.cps.toList = rp v ∧ d.showable = true ∧ d.hasDict = false
  | .bl b, _ => ⟨_, rfl, by cases b <;> (simp only [PyData.shown]; decide +kernel), by simp only [PyData.showable], by simp only [PyData.hasDict]⟩
  | .int i, h => by
    have h' : (decide (0 ≤ i) && decide (i < 10 ^ 30)) = true := h
    rw [Bool.and_eq_true, decide_eq_true_eq, decide_eq_true_eq] at h'
    refine ⟨_, rfl, by simp only [PyData.shown]; exact int_T h'.1, ?_, by simp only [PyData.hasDict]⟩
    simp only [PyData.showable]
    refine decide_eq_true (Nat.lt_trans (log_b h'.1 (by omega)) (by decide))
  | .str s, h => ⟨_, rfl, by simp only [PyData.shown]; exact text_1 h, by simp only [PyData.showable], by simp only [PyData.hasDict]⟩
  | .tup xs, h => by
    obtain ⟨ds, e1, e2, e3, e4⟩ := shown_rps xs h
    refine ⟨.tuple ds, by unfold toD; rw [e1], ?_, by simp only [PyData.showable]; exact e3, by simp only [PyData.hasDict]; exact e4⟩
    simp only [PyData.shown]
    rw [tuple_T]
    show _ = 40 :: rpT xs
    congr 1
    cases xs with
    | nil =>
      cases e1
      rfl
    | cons x xs =>
      cases hd : PyData.shownAll ds with
      | nil => rw [hd] at e2; cases e2
      | cons t r =>
        rw [hd] at e2
        rw [List.map_cons, List.map_cons] at e2
        injection e2 with q1 q2
        simp only [rpT, q1, rpR_jR, q2]
        congr 1
        cases xs with
        | nil => simp at q2; subst q2; rfl
        | cons _ _ =>
          cases r with
          | nil => simp at q2
          | cons _ _ => rfl
  | .lst xs, h => by
    obtain ⟨ds, e1, e2, e3, e4⟩ := shown_rps xs h
    refine ⟨.list ds, by unfold toD; rw [e1], ?_, by simp only [PyData.showable]; exact e3, by simp only [PyData.hasDict]; exact e4⟩
    simp only [PyData.shown]
    rw [list_T]
    show _ = 91 :: rpL xs
    congr 1
    cases xs with
    | nil =>
      cases e1
      rfl
    | cons x xs =>
      cases hd : PyData.shownAll ds with
      | nil => rw [hd] at e2; cases e2
      | cons t r =>
        rw [hd] at e2
        rw [List.map_cons, List.map_cons] at e2
        injection e2 with q1 q2
        simp only [rpL, q1, rpR_jR, q2]
  | .non, h => by cases h
  | .dct _, h => by cases h
  | .kdc _, h => by cases h
  | .fn _, h => by cases h
  | .cell _, h => by cases h
theorem shown_rps : ∀ (xs : List PV), smps xs = true → ∃ ds, toDs xs = some ds ∧ (PyData.shownAll ds).map (fun t => t.cps.toList) = xs.map rp ∧ PyData.showableAll ds = true ∧ PyData.hasDictAll ds = false
  | [], _ => ⟨[], rfl, by simp only [PyData.shownAll]; rfl, by simp only [PyData.showableAll], by simp only [PyData.hasDictAll]⟩
  | x :: xs, h => by
    obtain ⟨h1, h2⟩ := smps_c h
    obtain ⟨d, e1, e2, e3, e4⟩ := shown_rp x h1
    obtain ⟨ds, q1, q2, q3, q4⟩ := shown_rps xs h2
    refine ⟨d :: ds, by unfold toDs; rw [e1, q1], ?_, ?_, ?_⟩
    · simp only [PyData.shownAll, List.map_cons, e2, q2]
    · simp only [PyData.showableAll, e3, q3]; rfl
    · simp only [PyData.hasDictAll, e4, q4]; rfl
end
/-! ### how deep, how long -/
/-- at most so deep and so long -/
structure Sz (k B : Nat) (v : PV) : Prop where
  s : smp v = true
  l : (rp v).length ≤ B
  d : ∀ d, toD v = some d → d.depth ≤ k
theorem repr_sz {k B : Nat} {v : PV} (h : Sz k B v) (hk : k < 60) (hB : B ≤ 16000000) : uRepr v = some (.str (rp v)) := by
  obtain ⟨d, e1, e2, e3, e4⟩ := shown_rp v h.s
  unfold uRepr
  rw [e1]
  simp only
  have hl : d.shown.length = (rp v).length := by rw [← e2]; simp [Str.length]
  rw [if_pos, e2]
  unfold showOk
  rw [e3, e4, decide_eq_true (Nat.lt_of_le_of_lt (h.d d e1) hk), hl, decide_eq_true (Nat.le_trans h.l (Nat.le_trans hB (by decide)))]
  rfl
theorem sz_str {s : List Nat} {B : Nat} (h : s.all okc = true) (hl : s.length + 2 ≤ B) : Sz 0 B (.str s) where
  s := h
  l := by show (39 :: (s ++ [39])).length ≤ B; simp; omega
  d := fun d e => by cases e; simp only [PyData.depth]; exact Nat.le_refl _
theorem sz_bl (b : Bool) : Sz 0 5 (.bl b) where
  s := rfl
  l := by cases b <;> decide
  d := fun d e => by cases e; simp only [PyData.depth]; exact Nat.le_refl _
theorem sz_int {i : Nat} (h : i < 10 ^ 30) : Sz 0 30 (.int (i : Int)) where
  s := by
    simp only [smp, Bool.and_eq_true, decide_eq_true_eq]
    refine ⟨Int.natCast_nonneg i, ?_⟩
    have := Int.ofNat_lt.mpr h
    simpa using this
  l := by show (TL.numL (Int.toNat (i : Int))).length ≤ 30; exact TL.numL_len (by decide) h
  d := fun d e => by cases e; simp only [PyData.depth]; exact Nat.le_refl _
theorem rpR_le {B z : Nat} : ∀ {xs : List PV}, (∀ x ∈ xs, (rp x).length ≤ B) → (rpR z xs).length ≤ xs.length * (B + 2) + 1
  | [], _ => by simp [rpR]
  | x :: xs, h => by
    have h1 := h x (List.mem_cons_self ..)
    have h2 := rpR_le (B := B) (z := z) fun y hy => h y (List.mem_cons_of_mem x hy)
    simp only [rpR, List.length_cons, List.length_append]
    rw [Nat.add_mul]
    omega
theorem depthAll_le {k : Nat} : ∀ {xs : List PV} {ds : List PyData}, (∀ x ∈ xs, ∀ d, toD x = some d → d.depth ≤ k) → toDs xs = some ds → PyData.depthAll ds ≤ k
  | [], ds, _, e => by cases e; simp only [PyData.depthAll]; exact Nat.zero_le _
  | x :: xs, ds, h, e => by
    unfold toDs at e
    cases q : toD x with
    | none => rw [q] at e; cases e
    | some d =>
      rw [q] at e
      simp only at e
      cases q2 : toDs xs with
      | none => rw [q2] at e; cases e
      | some r =>
        rw [q2] at e
        cases e
        have h1 := h x (List.mem_cons_self ..) d q
        have h2 := depthAll_le (fun y hy => h y (List.mem_cons_of_mem _ hy)) q2
        simp only [PyData.depthAll]
        omega
theorem sz_tup {k B K : Nat} {xs : List PV} (h : ∀ x ∈ xs, Sz k B x) (hn : xs.length ≤ K) : Sz (k + 1) (K * (B + 2) + 4) (.tup xs) where
  s := smps_of fun x hx => (h x hx).s
  l := by
    have hm : xs.length * (B + 2) ≤ K * (B + 2) := Nat.mul_le_mul_right _ hn
    show (40 :: rpT xs).length ≤ _
    cases xs with
    | nil => simp [rpT]
    | cons x xs =>
      have h1 := (h x (List.mem_cons_self ..)).l
      have h2 := rpR_le (z := 41) fun y hy => (h y (List.mem_cons_of_mem x hy)).l
      rw [List.length_cons, Nat.add_mul] at hm
      simp only [rpT, List.length_cons, List.length_append]
      split
      · simp; omega
      · omega
  d := fun d e => by
    unfold toD at e
    cases q : toDs xs with
    | none => rw [q] at e; cases e
    | some ds =>
      rw [q] at e
      cases e
      have := depthAll_le (fun x hx => (h x hx).d) q
      simp only [PyData.depth]
      omega
theorem sz_lst {k B K : Nat} {xs : List PV} (h : ∀ x ∈ xs, Sz k B x) (hn : xs.length ≤ K) : Sz (k + 1) (K * (B + 2) + 4) (.lst xs) where
  s := smps_of fun x hx => (h x hx).s
  l := by
    have hm : xs.length * (B + 2) ≤ K * (B + 2) := Nat.mul_le_mul_right _ hn
    show (91 :: rpL xs).length ≤ _
    cases xs with
    | nil => simp [rpL]
    | cons x xs =>
      have h1 := (h x (List.mem_cons_self ..)).l
      have h2 := rpR_le (z := 93) fun y hy => (h y (List.mem_cons_of_mem x hy)).l
      rw [List.length_cons, Nat.add_mul] at hm
      simp only [rpL, List.length_cons, List.length_append]
      omega
  d := fun d e => by
    unfold toD at e
    cases q : toDs xs with
    | none => rw [q] at e; cases e
    | some ds =>
      rw [q] at e
      cases e
      have := depthAll_le (fun x hx => (h x hx).d) q
      simp only [PyData.depth]
      omega
theorem Sz.mono {k B k' B' : Nat} {v : PV} (h : Sz k B v) (hk : k ≤ k') (hB : B ≤ B') : Sz k' B' v := ⟨h.s, Nat.le_trans h.l hB, fun d e => Nat.le_trans (h.d d e) hk⟩
theorem sz_map {α : Type} {k B K : Nat} {e : α → PV} {l : List α} (h : ∀ x ∈ l, Sz k B (e x)) (hn : l.length ≤ K) : Sz (k + 1) (K * (B + 2) + 4) (.tup (l.map e)) :=
  sz_tup (fun x hx => by
    obtain ⟨y, hy, rfl⟩ := List.mem_map.mp hx
    exact h y hy) (by rw [List.length_map]; exact hn)
/-- two of one kind, beside each other -/
theorem repr_two {k B : Nat} {v : PV} (h : Sz k B v) (hk : k < 59) (hB : B ≤ 1000000) : uRepr (.lst [v, v]) = some (.str (rp (.lst [v, v]))) := by
  refine repr_sz (k := k + 1) (B := 2 * (B + 2) + 4) (sz_lst (K := 2) (fun x hx => ?_) (by simp)) (by omega) (by omega)
  simp at hx
  rw [hx]
  exact h
end K73
end
section
set_option Elab.async false
set_option linter.all false
set_option autoImplicit false
set_option maxRecDepth 100000
set_option maxHeartbeats 0
namespace K73
open PySem PySem.Spec PyProof.Rows L2 Tg
local macro_rules | `(tactic| walk_at "es") => `(tactic| try simp only [st0, st1, st2, st3, st4, evS, ev, evO, dSeqS, dSkip, dExpr, dRet, dRetN, dIfS, dAsg, dC, dNil, dCons, consV, dTup, dLst, dB1, dB2, dChain, dIte, dAnd, dOr, dNot, dCall,
  dCutL, dCutH, dCutB, dM1, dIx, dSeq, dSrc, dLc, dFor, dPar2, oCons, oNil, wipeE, opF, cmF, u1F, u2F, m1F, isiN, rngF, Tgt.put, List.set, List.headD_cons, List.tail_cons,
  bnd_ok, bnd_bad, bnd_exc, okv_s, onBl_b, onI_i, onS_s, onT_s, tst_b, tstS_b, okE_s, outF_rt, outF_nx, outF_exc, seqK_nx, seqK_rt, okL_s, asL_l, okN0, okN1, okN2, okN3, okN4, okN5, v0, v1, v2, v3, v4, v5, v6, v7, v8, v9, v10, v11,
  isi1, isi2, isi3, isi4, isi5, iss1, iss2, iss3, iss4, iss5, ist1, ist2, ist3, ist4, ist5, isn1, isn2, isn3, isb5, len_t, len_l, lt_i, le_i, gt_i, ge_i, eq_i, ne_i, eq_s, ne_s, lt_s, add_i, sub_i, neg_i, is_non, is_t, is_s, is_i, isn_non, isn_t, isn_s, isn_i,
  at_t0, at_t1, at_t2, at_t3, at_t4, ixt, ixl, ixs, sq_t, sq_l, sq_s, tup_l, in_c, nin_c, and_bl, or_bl, ite_ok, ret_ok, guard_ok, ib_and, ib_or, ib_f, nc0, nc1, nc2, nc3, nc4, nc5, nc6, Int.reduceLE, Int.reduceLT, Int.reduceEq, decide_true, decide_false, Int.le_refl, Int.lt_irrefl,
  List.length_cons, List.length_nil, List.replicate, List.cons_append, List.nil_append, Nat.add_zero, Nat.zero_add, Nat.reduceAdd, Nat.reduceSub, Option.getD_some, Option.getD_none, Bool.not_false, Bool.not_true, Bool.true_or, Bool.false_or, Bool.true_and, Bool.false_and, Bool.and_true, Bool.or_true, Bool.or_false, if_true, if_false, Bool.false_eq_true, ite_true, ite_false])
local macro_rules | `(tactic| walk_at "es2") => `(tactic| try simp -implicitDefEqProofs only [st0, st1, st2, st3, st4, evS, ev, evO, dSeqS, dSkip, dExpr, dRet, dRetN, dIfS, dAsg, dC, dNil, dCons, consV, dTup, dLst, dB1, dB2, dChain, dIte, dAnd, dOr, dNot, dCall,
  dCutL, dCutH, dCutB, dM1, dIx, dSeq, dSrc, dLc, dFor, dPar2, oCons, oNil, wipeE, opF, cmF, u1F, u2F, m1F, isiN, rngF, Tgt.put, List.set, List.headD_cons, List.tail_cons,
  bnd_ok, bnd_bad, bnd_exc, okv_s, onBl_b, onI_i, onS_s, onT_s, tst_b, tstS_b, okE_s, outF_rt, outF_nx, outF_exc, seqK_nx, seqK_rt, okL_s, asL_l, okN0, okN1, okN2, okN3, okN4, okN5, v0, v1, v2, v3, v4, v5, v6, v7, v8, v9, v10, v11,
  isi1, isi2, isi3, isi4, isi5, iss1, iss2, iss3, iss4, iss5, ist1, ist2, ist3, ist4, ist5, isn1, isn2, isn3, isb5, len_t, len_l, lt_i, le_i, gt_i, ge_i, eq_i, ne_i, eq_s, ne_s, lt_s, add_i, sub_i, neg_i, is_non, is_t, is_s, is_i, isn_non, isn_t, isn_s, isn_i,
  at_t0, at_t1, at_t2, at_t3, at_t4, ixt, ixl, ixs, sq_t, sq_l, sq_s, tup_l, in_c, nin_c, and_bl, or_bl, ite_ok, ret_ok, guard_ok, ib_and, ib_or, ib_f, nc0, nc1, nc2, nc3, nc4, nc5, nc6, Int.reduceLE, Int.reduceLT, Int.reduceEq, decide_true, decide_false, Int.le_refl, Int.lt_irrefl,
  List.length_cons, List.length_nil, List.replicate, List.cons_append, List.nil_append, Nat.add_zero, Nat.zero_add, Nat.reduceAdd, Nat.reduceSub, Option.getD_some, Option.getD_none, Bool.not_false, Bool.not_true, Bool.true_or, Bool.false_or, Bool.true_and, Bool.false_and, Bool.and_true, Bool.or_true, Bool.or_false, if_true, if_false, Bool.false_eq_true, ite_true, ite_false])
/-! ### what is shown is read back -/
def abc (c : Nat) : Prop := 97 ≤ c ∧ c ≤ 108
def wOk (w : List Nat) : Prop := ∀ c ∈ w, abc c
def iOk : Item → Prop
  | .edge => True
  | .one w => w ≠ [] ∧ wOk w ∧ w.length ≤ 12
  | .may w => w ≠ [] ∧ wOk w ∧ w.length ≤ 12
  | .any w => w ≠ [] ∧ wOk w ∧ w.length ≤ 12
def rOk (r : List Item) : Prop := r.length ≤ 6 ∧ ∀ i ∈ r, iOk i
def pOk (p : List (List Item)) : Prop := (1 ≤ p.length ∧ p.length ≤ 4) ∧ ∀ r ∈ p, rOk r
theorem last_drop {α : Type} (w : List α) (c : α) : (w ++ [c]).drop ((w ++ [c]).length - 1) = [c] := by simp
theorem item_back {i : Item} (h : iOk i) : itemF (itT i) = i := by
  cases i with
  | edge => rfl
  | may w =>
    show itemF (w ++ [63]) = _
    unfold itemF
    rw [last_drop, if_neg, if_pos rfl]
    · simp
    · intro e
      cases w with
      | nil => exact h.1 rfl
      | cons a r => simp at e
  | any w =>
    show itemF (w ++ [42]) = _
    unfold itemF
    rw [last_drop, if_neg, if_neg (by decide), if_pos rfl]
    · simp
    · intro e
      cases w with
      | nil => exact h.1 rfl
      | cons a r => simp at e
  | one w =>
    show itemF (w ++ []) = _
    rw [List.append_nil]
    obtain ⟨v, c, rfl⟩ : ∃ v c, w = v ++ [c] := ⟨w.dropLast, w.getLast h.1, (List.dropLast_concat_getLast h.1).symm⟩
    have hc := h.2.1 c (by simp)
    unfold abc at hc
    unfold itemF
    rw [last_drop, if_neg, if_neg, if_neg]
    · intro e; injection e with e; omega
    · intro e; injection e with e; omega
    · intro e
      cases v with
      | nil => simp at e; omega
      | cons a r => simp at e
/-- the signs of an item's text -/
def isg (c : Nat) : Prop := abc c ∨ c = 35 ∨ c = 63 ∨ c = 42
theorem itT_c {i : Item} (h : iOk i) : ∀ c ∈ itT i, isg c := by
  intro c hc
  cases i with
  | edge => simp [itT] at hc; exact .inr (.inl hc)
  | one w => simp [itT] at hc; exact .inl (h.2.1 c hc)
  | may w => simp [itT] at hc; rcases hc with hc | hc; exact .inl (h.2.1 c hc); exact .inr (.inr (.inl hc))
  | any w => simp [itT] at hc; rcases hc with hc | hc; exact .inl (h.2.1 c hc); exact .inr (.inr (.inr hc))
theorem itT_ne {i : Item} (h : iOk i) : itT i ≠ [] := by
  cases i with
  | edge => simp [itT]
  | one w => simp [itT]; exact h.1
  | may w => simp [itT]
  | any w => simp [itT]
theorem itT_le {i : Item} (h : iOk i) : (itT i).length ≤ 13 := by
  cases i with
  | edge => simp [itT]
  | one w => have := h.2.2; simp [itT]; omega
  | may w => have := h.2.2; simp [itT]; omega
  | any w => have := h.2.2; simp [itT]; omega
theorem joinL_c {z : List Nat} : ∀ {ys : List (List Nat)}, ∀ c ∈ TL.joinL z ys, c ∈ z ∨ ∃ y ∈ ys, c ∈ y
  | [], c, h => by cases h
  | [y], c, h => .inr ⟨y, by simp, h⟩
  | y :: x :: r, c, h => by
    have h' : c ∈ y ++ (z ++ TL.joinL z (x :: r)) := h
    rw [List.mem_append, List.mem_append] at h'
    rcases h' with h' | h' | h'
    · exact .inr ⟨y, by simp, h'⟩
    · exact .inl h'
    · rcases joinL_c (ys := x :: r) c h' with q | ⟨w, q1, q2⟩
      · exact .inl q
      · exact .inr ⟨w, List.mem_cons_of_mem _ q1, q2⟩
theorem splt_one {z : Nat} {ys : List (List Nat)} (hne : ys ≠ []) (h : ∀ y ∈ ys, z ∉ y) : splt [z] (TL.joinL [z] ys) = ys := TL.spl_join hne h
/-- a sign with blanks around it -/
theorem free3 {x : Nat} (hx : x ≠ 32) : ∀ {p : List Nat}, x ∉ p → SX.free [32, x, 32] p = true
  | [], _ => rfl
  | c :: r, h => by
    show (!(TL.pre [32, x, 32] (c :: (r ++ [32, x, 32]))) && SX.free [32, x, 32] r) = true
    rw [free3 hx fun q => h (List.mem_cons_of_mem _ q), Bool.and_true, Bool.not_eq_true']
    cases q : TL.pre [32, x, 32] (c :: (r ++ [32, x, 32])) with
    | false => rfl
    | true =>
      exfalso
      have e := pre_eq q
      cases r with
      | nil => simp at e; exact hx e.2.1.symm
      | cons d r =>
        simp at e
        exact h (by rw [e.2.1]; simp)
theorem spl3_last {x : Nat} {p : List Nat} (h : x ∉ p) : TL.spl [32, x, 32] 0 [] p = [p] := by
  have := TL.spl_last (S := [32, x, 32]) (p := p) (acc := []) fun i hi => by
    cases q : TL.pre [32, x, 32] (p.drop i) with
    | false => rfl
    | true =>
      exfalso
      have e := pre_eq q
      exact h (List.drop_subset i p (by rw [e]; simp))
  simpa using this
theorem splt_3 {x : Nat} (hx : x ≠ 32) : ∀ {ys : List (List Nat)}, ys ≠ [] → (∀ y ∈ ys, x ∉ y) → splt [32, x, 32] (TL.joinL [32, x, 32] ys) = ys
  | [], h, _ => absurd rfl h
  | [p], _, hp => spl3_last (hp p (by simp))
  | p :: q :: r, _, hp => by
    show TL.spl [32, x, 32] 0 [] (p ++ ([32, x, 32] ++ TL.joinL [32, x, 32] (q :: r))) = _
    rw [SX.spl_free _ (by simp) (free3 hx (hp p (by simp)))]
    exact congrArg (p :: ·) (splt_3 hx (by simp) fun y hy => hp y (List.mem_cons_of_mem _ hy))
theorem par_3 {x : Nat} (hx : x ≠ 32) {p q : List Nat} (h : x ∉ p) : parP [32, x, 32] (p ++ ([32, x, 32] ++ q)) = ⟨p, [32, x, 32], q⟩ := by
  unfold parP
  rw [SX.par_free q (by simp) (free3 hx h)]
theorem par_1 {x : Nat} {p q : List Nat} (h : x ∉ p) : parP [x] (p ++ ([x] ++ q)) = ⟨p, [x], q⟩ := by
  unfold parP
  rw [SX.par_free q (by simp) (SX.free_head h)]
theorem rpar_1 {x : Nat} : ∀ {p q : List Nat}, x ∉ q → rpar x (p ++ x :: q) = some (p, q)
  | [], q, h => by
    show rpar x (x :: q) = _
    unfold rpar
    rw [show rpar x q = none from rpar_none h]
    simp
  | c :: p, q, h => by
    show rpar x (c :: (p ++ x :: q)) = _
    unfold rpar
    rw [rpar_1 h]
where rpar_none : ∀ {q : List Nat}, x ∉ q → rpar x q = none
  | [], _ => rfl
  | c :: q, h => by
    unfold rpar
    rw [rpar_none fun z => h (List.mem_cons_of_mem _ z)]
    simp only
    rw [if_neg]
    intro e
    exact h (by rw [e]; simp)
/-! rows, patterns -/
def rsg (c : Nat) : Prop := isg c ∨ c = 32 ∨ c = 46
theorem rowT_c {r : List Item} (h : ∀ i ∈ r, iOk i) : ∀ c ∈ rowT r, rsg c := by
  intro c hc
  unfold rowT at hc
  split at hc
  · simp at hc; exact .inr (.inr hc)
  · rcases joinL_c c hc with q | ⟨y, hy, q⟩
    · simp at q; exact .inr (.inl q)
    · obtain ⟨i, hi, rfl⟩ := List.mem_map.mp hy
      exact .inl (itT_c (h i hi) c q)
theorem joinL_ne {z : List Nat} : ∀ {ys : List (List Nat)} {c : Nat} {t : List Nat}, ys.head? = some (c :: t) → ∃ r, TL.joinL z ys = c :: r
  | [y], c, t, h => by
    simp at h; subst h
    exact ⟨t, rfl⟩
  | y :: x :: r, c, t, h => by
    simp at h; subst h
    exact ⟨_, rfl⟩
theorem row_back {r : List Item} (h : ∀ i ∈ r, iOk i) : (rowF (rowT r)).map itemF = r := by
  cases r with
  | nil => rfl
  | cons a r =>
    have ne : itT a ≠ [] := itT_ne (h a (List.mem_cons_self ..))
    obtain ⟨c, t, e⟩ : ∃ c t, itT a = c :: t := by
      cases q : itT a with
      | nil => exact absurd q ne
      | cons c t => exact ⟨c, t, rfl⟩
    have hc := itT_c (h a (List.mem_cons_self ..)) c (by rw [e]; simp)
    have hn : rowT (a :: r) ≠ [46] := by
      unfold rowT
      rw [if_neg (by simp)]
      obtain ⟨u, hu⟩ := joinL_ne (z := [32]) (ys := (a :: r).map itT) (c := c) (t := t) (by simp [e])
      rw [hu]
      intro z
      injection z with z
      unfold isg abc at hc
      omega
    unfold rowF
    rw [if_neg hn]
    unfold rowT
    rw [if_neg (by simp), splt_one (by simp) (fun y hy => by
      obtain ⟨i, hi, rfl⟩ := List.mem_map.mp hy
      intro hm
      have := itT_c (h i hi) 32 hm
      unfold isg abc at this
      omega), List.map_map]
    conv => rhs; rw [← List.map_id (a :: r)]
    exact List.map_congr_left fun i hi => item_back (h i hi)
theorem patT_c {p : List (List Item)} (h : pOk p) : ∀ c ∈ patT p, rsg c ∨ c = 124 := by
  intro c hc
  unfold patT at hc
  rcases joinL_c c hc with q | ⟨y, hy, q⟩
  · simp at q; rcases q with rfl | rfl | rfl
    · exact .inl (.inr (.inl rfl))
    · exact .inr rfl
    · exact .inl (.inr (.inl rfl))
  · obtain ⟨r, hr, rfl⟩ := List.mem_map.mp hy
    exact .inl (rowT_c (h.2 r hr).2 c q)
theorem pat_back {p : List (List Item)} (h : pOk p) : patF (patT p) = p := by
  unfold patF patT
  have hne : p ≠ [] := fun z => by have := h.1.1; rw [z] at this; simp at this
  rw [splt_3 (by decide) (fun z => hne (List.map_eq_nil_iff.mp z)) (fun y hy => by
    obtain ⟨r, hr, rfl⟩ := List.mem_map.mp hy
    intro hm
    have := rowT_c (h.2 r hr).2 124 hm
    unfold rsg isg abc at this
    omega), List.map_map]
  conv => rhs; rw [← List.map_id p]
  exact List.map_congr_left fun r hr => row_back (h.2 r hr).2
theorem join_le2 {B : Nat} {a : List Nat} {ys : List (List Nat)} (h : ∀ y ∈ ys, y.length ≤ B) (K : Nat) (hn : ys.length ≤ K) : (TL.joinL a ys).length ≤ K * (B + a.length) := join_le h hn
theorem rowT_len {r : List Item} (h : rOk r) : (rowT r).length ≤ 84 := by
  unfold rowT
  split
  · decide
  · refine Nat.le_trans (join_le2 (B := 13) (fun y hy => ?_) 6 (by rw [List.length_map]; exact h.1)) (by decide)
    obtain ⟨i, hi, rfl⟩ := List.mem_map.mp hy
    exact itT_le (h.2 i hi)
theorem patT_len {p : List (List Item)} (h : pOk p) (K : Nat) (hK : p.length ≤ K) : (patT p).length ≤ K * 87 := by
  unfold patT
  refine Nat.le_trans (join_le2 (B := 84) (fun y hy => ?_) K (by rw [List.length_map]; exact hK)) (by simp)
  obtain ⟨r, hr, rfl⟩ := List.mem_map.mp hy
  exact rowT_len (h.2 r hr)
theorem rsg_lt {c : Nat} (h : rsg c ∨ c = 124) : c < 128 := by unfold rsg isg abc at h; omega
theorem patT_tx {p : List (List Item)} (h : pOk p) : tx (patT p) := ⟨Nat.le_trans (patT_len h 4 h.1.2) (by decide), fun c hc => rsg_lt (patT_c h c hc)⟩
/-! rules -/
def chOk' (c : List Nat × List Nat) : Prop := (c.1.length ≤ 1 ∧ wOk c.1) ∧ (c.2.length ≤ 2 ∧ wOk c.2)
structure Rule.gd (r : Rule) : Prop where
  ch : (1 ≤ r.ch.length ∧ r.ch.length ≤ 4) ∧ ∀ c ∈ r.ch, chOk' c
  left : pOk r.left ∧ r.left.length ≤ 3 ∧ ∀ w ∈ r.left, w.length ≤ 4
  right : pOk r.right ∧ r.right.length ≤ 3 ∧ ∀ w ∈ r.right, w.length ≤ 4
  way : inF (.str r.way) ways = true
  force : inF (.str r.force) forces = true
theorem way_of {w : List Nat} (h : inF (.str w) ways = true) : w = [97, 116, 32, 111, 110, 99, 101] ∨ w = [98, 97, 99, 107, 119, 97, 114, 100] ∨ w = [111, 110, 119, 97, 114, 100] := by
  unfold inF ways at h
  simp only [List.any_cons, List.any_nil, eqP, Bool.or_false, Bool.or_eq_true, decide_eq_true_eq] at h
  rcases h with h | h | h
  · exact .inl h.symm
  · exact .inr (.inl h.symm)
  · exact .inr (.inr h.symm)
theorem force_of {w : List Nat} (h : inF (.str w) forces = true) : w = [109, 97, 121] ∨ w = [109, 117, 115, 116] := by
  unfold inF forces at h
  simp only [List.any_cons, List.any_nil, eqP, Bool.or_false, Bool.or_eq_true, decide_eq_true_eq] at h
  rcases h with h | h
  · exact .inl h.symm
  · exact .inr h.symm
theorem wordT_c {w : List Nat} (h : wOk w) : ∀ c ∈ wordT w, abc c ∨ c = 46 := by
  intro c hc
  unfold wordT at hc
  split at hc
  · simp at hc; exact .inr hc
  · exact .inl (h c hc)
theorem word_back {w : List Nat} (h : wOk w) : textF (wordT w) = w := by
  unfold wordT
  split
  · rename_i e; rw [e]; rfl
  · unfold textF
    rw [if_neg]
    intro e
    have := h 46 (by rw [e]; simp)
    unfold abc at this
    omega
theorem ch_back {c : List Nat × List Nat} (h : chOk' c) : chF (chT c) = c := by
  unfold chF chT
  rw [List.append_assoc, par_1 (fun hm => by
    have := h.1.2 62 hm
    unfold abc at this
    omega)]
  show (c.1, textF (wordT c.2)) = c
  rw [word_back h.2.2]
theorem chT_c {c : List Nat × List Nat} (h : chOk' c) : ∀ x ∈ chT c, abc x ∨ x = 62 ∨ x = 46 := by
  intro x hx
  unfold chT at hx
  rw [List.mem_append, List.mem_append] at hx
  rcases hx with (hx | hx) | hx
  · exact .inl (h.1.2 x hx)
  · simp at hx; exact .inr (.inl hx)
  · rcases wordT_c h.2.2 x hx with q | q
    · exact .inl q
    · exact .inr (.inr q)
theorem chT_len {c : List Nat × List Nat} (h : chOk' c) : (chT c).length ≤ 4 := by
  have h1 := h.1.1
  have h2 := h.2.1
  unfold chT wordT
  split <;> simp <;> omega
def chsT (l : List (List Nat × List Nat)) : List Nat := TL.joinL [32] (l.map chT)
theorem chsT_c {l : List (List Nat × List Nat)} (h : ∀ c ∈ l, chOk' c) : ∀ x ∈ chsT l, abc x ∨ x = 62 ∨ x = 46 ∨ x = 32 := by
  intro x hx
  rcases joinL_c x hx with q | ⟨y, hy, q⟩
  · simp at q; exact .inr (.inr (.inr q))
  · obtain ⟨c, hc, rfl⟩ := List.mem_map.mp hy
    rcases chT_c (h c hc) x q with q | q | q
    · exact .inl q
    · exact .inr (.inl q)
    · exact .inr (.inr (.inl q))
theorem ruT_eq (r : Rule) : ruT r = TL.joinL [32, 47, 32] [chsT r.ch, patT r.left ++ ([32, 95, 32] ++ patT r.right), r.way ++ 32 :: r.force] := by
  unfold ruT
  show _ = chsT r.ch ++ ([32, 47, 32] ++ ((patT r.left ++ ([32, 95, 32] ++ patT r.right)) ++ ([32, 47, 32] ++ (r.way ++ 32 :: r.force))))
  unfold chsT
  simp
/-- signs of a rule's text: no ; nor / -/
theorem rule_back {r : Rule} (h : r.gd) : ruleF (ruT r) = some r := by
  have n1 : 47 ∉ chsT r.ch := fun hm => by
    have := chsT_c h.ch.2 47 hm
    unfold abc at this
    omega
  have np : ∀ p, pOk p → ∀ x, x = 47 ∨ x = 95 ∨ x = 59 → x ∉ patT p := fun p hp x hx hm => by
    have := patT_c hp x hm
    unfold rsg isg abc at this
    omega
  have n2 : 47 ∉ patT r.left ++ ([32, 95, 32] ++ patT r.right) := fun hm => by
    rw [List.mem_append, List.mem_append] at hm
    rcases hm with hm | hm | hm
    · exact np _ h.left.1 47 (.inl rfl) hm
    · revert hm; decide
    · exact np _ h.right.1 47 (.inl rfl) hm
  have n3 : 47 ∉ r.way ++ 32 :: r.force := fun hm => by
    rcases way_of h.way with e | e | e <;> rcases force_of h.force with q | q <;> rw [e, q] at hm <;> revert hm <;> decide
  have n4 : 32 ∉ r.force := fun hm => by
    rcases force_of h.force with q | q <;> rw [q] at hm <;> revert hm <;> decide
  have e : splt [32, 47, 32] (ruT r) = [chsT r.ch, patT r.left ++ ([32, 95, 32] ++ patT r.right), r.way ++ 32 :: r.force] := by
    rw [ruT_eq]
    refine splt_3 (by decide) (by simp) fun y hy => ?_
    simp only [List.mem_cons, List.not_mem_nil, or_false] at hy
    rcases hy with rfl | rfl | rfl
    · exact n1
    · exact n2
    · exact n3
  rw [ruleF_3 e, par_3 (by decide) (np _ h.left.1 95 (.inr (.inl rfl)))]
  have e2 : splt [32] (chsT r.ch) = r.ch.map chT := splt_one (fun z => by
    have := h.ch.1.1
    rw [List.map_eq_nil_iff.mp z] at this
    simp at this) fun y hy => by
      obtain ⟨c, hc, rfl⟩ := List.mem_map.mp hy
      intro hm
      have := chT_c (h.ch.2 c hc) 32 hm
      unfold abc at this
      omega
  have e3 : rparP 32 (r.way ++ 32 :: r.force) = ⟨r.way, [32], r.force⟩ := by
    unfold rparP
    rw [rpar_1 n4]
  rw [e2, e3, List.map_map]
  simp only
  rw [pat_back h.left.1, pat_back h.right.1]
  have e4 : r.ch.map (chF ∘ chT) = r.ch := by
    conv => rhs; rw [← List.map_id r.ch]
    exact List.map_congr_left fun c hc => ch_back (h.ch.2 c hc)
  rw [e4]
theorem ruT_c {r : Rule} (h : r.gd) : ∀ c ∈ ruT r, c < 128 ∧ c ≠ 59 := by
  intro c hc
  have np : ∀ p, pOk p → ∀ c ∈ patT p, c < 128 ∧ c ≠ 59 := fun p hp c hc => by
    have := patT_c hp c hc
    unfold rsg isg abc at this
    omega
  rw [ruT_eq] at hc
  rcases joinL_c c hc with q | ⟨y, hy, q⟩
  · clear hc; revert c; decide
  · simp only [List.mem_cons, List.not_mem_nil, or_false] at hy
    rcases hy with rfl | rfl | rfl
    · have := chsT_c h.ch.2 c q
      unfold abc at this
      omega
    · rw [List.mem_append, List.mem_append] at q
      rcases q with q | q | q
      · exact np _ h.left.1 c q
      · clear hc; revert c; decide
      · exact np _ h.right.1 c q
    · rcases way_of h.way with e | e | e <;> rcases force_of h.force with e2 | e2 <;> rw [e, e2] at q <;> clear hc <;> revert c <;> decide
theorem row4 {r : List Item} (h : rOk r) (hl : r.length ≤ 4) : (rowT r).length ≤ 56 := by
  unfold rowT
  split
  · decide
  · refine Nat.le_trans (join_le2 (B := 13) (fun y hy => ?_) 4 (by rw [List.length_map]; exact hl)) (by decide)
    obtain ⟨i, hi, rfl⟩ := List.mem_map.mp hy
    exact itT_le (h.2 i hi)
theorem pat3 {p : List (List Item)} (h : pOk p ∧ p.length ≤ 3 ∧ ∀ w ∈ p, w.length ≤ 4) : (patT p).length ≤ 177 := by
  unfold patT
  refine Nat.le_trans (join_le2 (B := 56) (fun y hy => ?_) 3 (by rw [List.length_map]; exact h.2.1)) (by simp)
  obtain ⟨r, hr, rfl⟩ := List.mem_map.mp hy
  exact row4 (h.1.2 r hr) (h.2.2 r hr)
theorem ruT_len {r : Rule} (h : r.gd) : (ruT r).length ≤ 420 := by
  have h1 : (chsT r.ch).length ≤ 20 := by
    refine Nat.le_trans (join_le2 (B := 4) (fun y hy => ?_) 4 (by rw [List.length_map]; exact h.ch.1.2)) (by simp)
    obtain ⟨c, hc, rfl⟩ := List.mem_map.mp hy
    exact chT_len (h.ch.2 c hc)
  have h2 := pat3 h.left
  have h3 := pat3 h.right
  have h4 : r.way.length ≤ 8 := by rcases way_of h.way with e | e | e <;> rw [e] <;> decide
  have h5 : r.force.length ≤ 4 := by rcases force_of h.force with e | e <;> rw [e] <;> decide
  unfold ruT
  unfold chsT at h1
  simp only [List.length_append, List.length_cons, List.length_nil]
  omega
theorem ruT_tx {r : Rule} (h : r.gd) : tx (ruT r) := ⟨Nat.le_trans (ruT_len h) (by decide), fun c hc => (ruT_c h c hc).1⟩
/-! cascades -/
theorem num13 {k : Nat} (h : k ≤ 12) : numF (TL.numL k) = some k := by
  have key : ∀ k < 13, numF (TL.numL k) = some k := by decide +kernel
  exact key k (by omega)
theorem allO_back {α : Type} {f : List Nat → Option α} {g : α → List Nat} : ∀ {l : List α}, (∀ x ∈ l, f (g x) = some x) → allO ((l.map g).map f) = some l
  | [], _ => rfl
  | x :: l, h => by
    rw [List.map_cons, List.map_cons, h x (List.mem_cons_self ..)]
    unfold allO
    rw [allO_back fun y hy => h y (List.mem_cons_of_mem _ hy)]
theorem num_c {k : Nat} : ∀ c ∈ TL.numL k, 48 ≤ c ∧ c ≤ 57 := num_dig k
theorem cas_parts {k : Nat} {l : List Rule} (h : ∀ r ∈ l, r.gd) : splt [32, 59, 32] (casT k l) = TL.numL k :: l.map ruT := by
  unfold casT
  refine splt_3 (by decide) (by simp) fun y hy => ?_
  rcases List.mem_cons.mp hy with rfl | hy
  · intro hm; have := num_c _ hm; omega
  · obtain ⟨r, hr, rfl⟩ := List.mem_map.mp hy
    exact fun hm => (ruT_c (h r hr) _ hm).2 rfl
theorem cas_back {k : Nat} {l : List Rule} (hk : k ≤ 12) (h : ∀ r ∈ l, r.gd) (hb : casB k l = true) : casR (casT k l) = some (k, l) := by
  unfold casR
  rw [cas_parts h]
  simp only
  rw [num13 hk, allO_back fun r hr => rule_back (h r hr)]
  simp only
  rw [if_pos hb, if_pos trivial]
/-! machines -/
def stOk (m : Nat) (s : Nat × Nat) : Prop := abc s.1 ∧ s.2 ≤ m
theorem st_back {s : Nat × Nat} (h : stOk 12 s) : stepF (stT s) = some s := by
  unfold stT
  rw [List.append_nil]
  show stepF (s.1 :: TL.numL s.2) = _
  rw [stepF_c, num13 h.2]
theorem stT_c {s : Nat × Nat} (h : stOk 12 s) : ∀ c ∈ stT s, abc c ∨ (48 ≤ c ∧ c ≤ 57) := by
  intro c hc
  unfold stT at hc
  rw [List.append_nil] at hc
  rcases List.mem_append.mp hc with hc | hc
  · simp at hc; rw [hc]; exact .inl h.1
  · exact .inr (num_c c hc)
def plOk' (p : Bool × List (Nat × Nat)) : Prop := p.2.length ≤ 12 ∧ ∀ s ∈ p.2, stOk 12 s
theorem placeT_c {p : Bool × List (Nat × Nat)} (h : plOk' p) : ∀ c ∈ placeT p, abc c ∨ (48 ≤ c ∧ c ≤ 57) ∨ c = 32 := by
  intro c hc
  unfold placeT at hc
  rcases joinL_c c hc with q | ⟨y, hy, q⟩
  · simp at q; exact .inr (.inr q)
  · rcases List.mem_cons.mp hy with rfl | hy
    · split at q <;> simp at q <;> subst q <;> exact .inr (.inl (by decide))
    · obtain ⟨s, hs, rfl⟩ := List.mem_map.mp hy
      rcases stT_c (h.2 s hs) c q with q | q
      · exact .inl q
      · exact .inr (.inl q)
theorem place_back {p : Bool × List (Nat × Nat)} (h : plOk' p) : placeF (placeT p) = some p := by
  obtain ⟨b, l⟩ := p
  unfold placeF placeT
  rw [splt_one (by simp) (fun y hy => by
    rcases List.mem_cons.mp hy with rfl | hy
    · split <;> decide
    · obtain ⟨s, hs, rfl⟩ := List.mem_map.mp hy
      intro hm
      have := stT_c (h.2 s hs) 32 hm
      unfold abc at this
      omega)]
  simp only
  rw [allO_back fun s hs => st_back (h.2 s hs)]
  cases b <;> rfl
theorem placeT_len {p : Bool × List (Nat × Nat)} (h : plOk' p) : (placeT p).length ≤ 52 := by
  unfold placeT
  refine Nat.le_trans (join_le2 (B := 3) (fun y hy => ?_) 13 (by have := h.1; simp; omega)) (by decide)
  rcases List.mem_cons.mp hy with rfl | hy
  · split <;> decide
  · obtain ⟨s, hs, rfl⟩ := List.mem_map.mp hy
    have := (h.2 s hs).2
    have h2 : (TL.numL s.2).length ≤ 2 := TL.numL_len (by decide) (by omega)
    unfold stT
    simp
    omega
theorem placeT_tx {p : Bool × List (Nat × Nat)} (h : plOk' p) : tx (placeT p) := ⟨Nat.le_trans (placeT_len h) (by decide), fun c hc => by
  have := placeT_c h c hc
  unfold abc at this
  omega⟩
theorem mac_parts {k : Nat} {l : List (Bool × List (Nat × Nat))} (h : ∀ r ∈ l, plOk' r) : splt [32, 59, 32] (macT k l) = TL.numL k :: l.map placeT := by
  unfold macT
  refine splt_3 (by decide) (by simp) fun y hy => ?_
  rcases List.mem_cons.mp hy with rfl | hy
  · intro hm; have := num_c _ hm; omega
  · obtain ⟨r, hr, rfl⟩ := List.mem_map.mp hy
    intro hm
    have := placeT_c (h r hr) _ hm
    unfold abc at this
    omega
theorem mac_back {k : Nat} {l : List (Bool × List (Nat × Nat))} (hk : k ≤ 12) (h : ∀ r ∈ l, plOk' r) (hb : macB k l = true) : macR (macT k l) = some (k, l) := by
  unfold macR
  rw [mac_parts h]
  simp only
  rw [num13 hk, allO_back fun r hr => place_back (h r hr)]
  simp only
  rw [if_pos hb, if_pos trivial]
end K73
end
section
set_option Elab.async false
set_option linter.all false
set_option maxRecDepth 100000
namespace K73
open Tg
def b59_0 : CS := .seq (.app 4 (.cons (.tup (.cons (.ix (.lst (.cons (.c (.str [111, 110, 101])) (.cons (.c (.str [111, 110, 101])) (.cons (.c (.str [109, 97, 121, 98, 101])) (.cons (.c (.str [97, 110, 121])) (.nil)))))) (.call 57 (.cons (.var 0) (.cons (.c (.int 4)) (.nil))))) (.cons (.call 58 (.cons (.var 0) (.cons (.var 1) (.nil)))) (.nil)))) (.nil))) (.skip)
def c59 : CS := .seq (.own 4 (.lst (.nil))) (.seq (.for (.name 5) (.rng 1 (.cons (.call 57 (.cons (.var 0) (.cons (.bin 0 (.var 3) (.c (.int 1))) (.nil)))) (.nil))) b59_0) (.seq (.asg (.name 6) (.ite (.and (.cmp 4 (.call 57 (.cons (.var 0) (.cons (.c (.int 4)) (.nil)))) (.c (.int 0))) (.one (.cmp 5 (.var 2) (.c (.str [98, 111, 116, 104]))))) (.lst (.cons (.tup (.cons (.c (.str [101, 100, 103, 101])) (.nil))) (.nil))) (.lst (.nil)))) (.seq (.ret (.u1 1 (.ite (.cmp 4 (.var 2) (.c (.str [108, 101, 102, 116]))) (.bin 0 (.var 6) (.bor 4)) (.bin 0 (.bor 4) (.var 6))))) (.skip))))
theorem h59 : F0[(59 : Nat)]? = some (.code ⟨4, 7, c59⟩) := rfl
def c60 : CS := .seq (.ret (.u1 1 (.lc (.name 5) [5] (.rng 1 (.cons (.bin 0 (.c (.int 1)) (.call 57 (.cons (.var 0) (.cons (.var 3) (.nil))))) (.nil))) (.c (.bl true)) (.call 59 (.cons (.var 0) (.cons (.var 1) (.cons (.var 2) (.cons (.var 4) (.nil))))))))) (.skip)
theorem h60 : F0[(60 : Nat)]? = some (.code ⟨5, 6, c60⟩) := rfl
def b61_0 : CS := .seq (.iff (.cmp 2 (.call 57 (.cons (.var 0) (.cons (.c (.int 4)) (.nil)))) (.c (.int 0))) (.seq (.app 6 (.cons (.tup (.cons (.var 7) (.cons (.call 57 (.cons (.var 0) (.cons (.var 4) (.nil)))) (.nil)))) (.nil))) (.skip)) (.skip)) (.skip)
def b61_1 : CS := .seq (.own 6 (.lst (.nil))) (.seq (.for (.name 7) (.seq (.cutH (.c (.str [97, 98, 99, 100, 101, 102, 103, 104, 105, 106, 107, 108])) (.var 1))) b61_0) (.seq (.app 5 (.cons (.tup (.cons (.cmp 4 (.call 57 (.cons (.var 0) (.cons (.c (.int 2)) (.nil)))) (.c (.int 0))) (.cons (.u1 1 (.bor 6)) (.nil)))) (.nil))) (.skip)))
def c61 : CS := .seq (.par2 4 5 [false, true] (.cons (.ix (.lst (.cons (.call 57 (.cons (.var 0) (.cons (.bin 0 (.var 2) (.c (.int 1))) (.nil)))) (.cons (.var 2) (.cons (.var 2) (.cons (.u2 0 (.c (.int 1)) (.bin 1 (.var 2) (.c (.int 1)))) (.nil)))))) (.call 57 (.cons (.var 0) (.cons (.c (.int 4)) (.nil))))) (.cons (.lst (.nil)) (.nil)))) (.seq (.for (.name 3) (.rng 1 (.cons (.var 4) (.nil))) b61_1) (.seq (.ret (.tup (.cons (.var 1) (.cons (.u1 1 (.bor 5)) (.nil))))) (.skip)))
theorem h61 : F0[(61 : Nat)]? = some (.code ⟨3, 8, c61⟩) := rfl
def b62_0 : CS := .seq (.asg (.name 8) (.ite (.cmp 2 (.call 57 (.cons (.var 0) (.cons (.c (.int 4)) (.nil)))) (.c (.int 0))) (.ix (.var 7) (.call 57 (.cons (.var 0) (.cons (.var 1) (.nil))))) (.c (.str [])))) (.seq (.asg (.name 9) (.m1 0 (.c (.str [])) (.lc (.name 10) [10] (.rng 1 (.cons (.call 57 (.cons (.var 0) (.cons (.c (.int 3)) (.nil)))) (.nil))) (.c (.bl true)) (.ix (.var 7) (.call 57 (.cons (.var 0) (.cons (.var 1) (.nil)))))))) (.seq (.iff (.cmp 5 (.var 9) (.var 8)) (.seq (.put 6 (.var 9) (.var 8)) (.skip)) (.skip)) (.skip)))
def c62 : CS := .seq (.par2 6 7 [true, false] (.cons (.dnew) (.cons (.cutH (.c (.str [97, 98, 99, 100, 101, 102, 103, 104, 105, 106, 107, 108])) (.var 1)) (.nil)))) (.seq (.for (.name 2) (.rng 1 (.cons (.bin 0 (.c (.int 1)) (.call 57 (.cons (.var 0) (.cons (.c (.int 3)) (.nil))))) (.nil))) b62_0) (.seq (.iff (.cmp 4 (.bor 6) (.dnew)) (.seq (.put 6 (.c (.str [])) (.c (.str [97]))) (.skip)) (.skip)) (.seq (.frz 6) (.seq (.asg (.name 3) (.u1 1 (.u1 13 (.lc (.name 8) [8] (.walk .keys (.var 6)) (.c (.bl true)) (.tup (.cons (.var 8) (.cons (.ix (.var 6) (.var 8)) (.nil)))))))) (.seq (.asg (.name 4) (.lst (.cons (.call 60 (.cons (.var 0) (.cons (.var 1) (.cons (.c (.str [108, 101, 102, 116])) (.cons (.c (.int 3)) (.cons (.c (.int 3)) (.nil))))))) (.cons (.call 60 (.cons (.var 0) (.cons (.var 1) (.cons (.c (.str [114, 105, 103, 104, 116])) (.cons (.c (.int 3)) (.cons (.c (.int 3)) (.nil))))))) (.nil))))) (.seq (.asg (.name 5) (.ix (.lst (.cons (.c (.str [97, 116, 32, 111, 110, 99, 101])) (.cons (.c (.str [111, 110, 119, 97, 114, 100])) (.cons (.c (.str [98, 97, 99, 107, 119, 97, 114, 100])) (.nil))))) (.call 57 (.cons (.var 0) (.cons (.c (.int 3)) (.nil)))))) (.seq (.ret (.tup (.cons (.var 3) (.cons (.ix (.var 4) (.c (.int 0))) (.cons (.ix (.var 4) (.c (.int 1))) (.cons (.var 5) (.cons (.ix (.lst (.cons (.c (.str [109, 117, 115, 116])) (.cons (.c (.str [109, 97, 121])) (.nil)))) (.call 57 (.cons (.var 0) (.cons (.c (.int 2)) (.nil))))) (.nil)))))))) (.skip))))))))
theorem h62 : F0[(62 : Nat)]? = some (.code ⟨2, 11, c62⟩) := rfl
def b64_0 : CS := .seq (.setLc false 4 (.lc (.name 5) [5] (.seq (.var 1)) (.c (.bl true)) (.ite (.cmp 4 (.u1 0 (.var 5)) (.c (.int 1))) (.c (.str [35])) (.bin 0 (.ix (.var 5) (.c (.int 1))) (.ix (.var 3) (.ix (.var 5) (.c (.int 0)))))))) (.seq (.app 2 (.cons (.ite (.cmp 5 (.var 4) (.lst (.nil))) (.m1 0 (.c (.str [32])) (.var 4)) (.c (.str [46]))) (.nil))) (.skip))
def c64 : CS := .seq (.par2 2 3 [true, false] (.cons (.lst (.nil)) (.cons (.dlit [(.s [111, 110, 101], .str []), (.s [109, 97, 121, 98, 101], .str [63]), (.s [97, 110, 121], .str [42])]) (.nil)))) (.seq (.for (.name 1) (.seq (.var 0)) b64_0) (.seq (.ret (.m1 0 (.c (.str [32, 124, 32])) (.bor 2))) (.skip)))
theorem h64 : F0[(64 : Nat)]? = some (.code ⟨1, 6, c64⟩) := rfl
def c65 : CS := .seq (.asg (.name 1) (.m1 0 (.c (.str [32])) (.lc (.tup (.cons (.name 3) (.cons (.name 4) (.nil)))) [3, 4] (.seq (.ix (.var 0) (.c (.int 0)))) (.c (.bl true)) (.bin 0 (.bin 0 (.var 3) (.c (.str [62]))) (.call 63 (.cons (.var 4) (.nil))))))) (.seq (.asg (.name 2) (.bin 0 (.bin 0 (.call 64 (.cons (.ix (.var 0) (.c (.int 1))) (.nil))) (.c (.str [32, 95, 32]))) (.call 64 (.cons (.ix (.var 0) (.c (.int 2))) (.nil))))) (.seq (.ret (.bin 0 (.bin 0 (.bin 0 (.bin 0 (.bin 0 (.bin 0 (.var 1) (.c (.str [32, 47, 32]))) (.var 2)) (.c (.str [32, 47, 32]))) (.ix (.var 0) (.c (.int 3)))) (.c (.str [32]))) (.ix (.var 0) (.c (.int 4))))) (.skip)))
theorem h65 : F0[(65 : Nat)]? = some (.code ⟨1, 5, c65⟩) := rfl
def b66_0 : CS := .seq (.app 1 (.cons (.m1 0 (.c (.str [32])) (.bin 0 (.lst (.cons (.u1 8 (.u1 9 (.var 2))) (.nil))) (.lc (.tup (.cons (.name 4) (.cons (.name 5) (.nil)))) [4, 5] (.seq (.var 3)) (.c (.bl true)) (.bin 0 (.var 4) (.u1 8 (.var 5)))))) (.nil))) (.skip)
def c66 : CS := .seq (.own 1 (.lst (.cons (.u1 8 (.ix (.var 0) (.c (.int 0)))) (.nil)))) (.seq (.for (.tup (.cons (.name 2) (.cons (.name 3) (.nil)))) (.seq (.ix (.var 0) (.c (.int 1)))) b66_0) (.seq (.ret (.m1 0 (.c (.str [32, 59, 32])) (.bor 1))) (.skip)))
theorem h66 : F0[(66 : Nat)]? = some (.code ⟨1, 6, c66⟩) := rfl
def c67 : CS := .seq (.ret (.m1 0 (.c (.str [])) (.lc (.name 3) [3] (.rng 1 (.cons (.call 57 (.cons (.var 0) (.cons (.bin 0 (.var 2) (.c (.int 1))) (.nil)))) (.nil))) (.c (.bl true)) (.ix (.c (.str [97, 98, 99, 100, 101, 102, 103, 104, 105, 106, 107, 108])) (.call 57 (.cons (.var 0) (.cons (.var 1) (.nil)))))))) (.skip)
theorem h67 : F0[(67 : Nat)]? = some (.code ⟨3, 4, c67⟩) := rfl
def c68 : CS := .seq (.par2 5 6 [false, false] (.cons (.call 67 (.cons (.var 0) (.cons (.var 1) (.cons (.ix (.lst (.cons (.c (.int 3)) (.cons (.c (.int 60)) (.nil)))) (.call 57 (.cons (.var 0) (.cons (.c (.int 2)) (.nil))))) (.nil))))) (.cons (.call 67 (.cons (.var 0) (.cons (.var 1) (.cons (.c (.int 3)) (.nil))))) (.nil)))) (.seq (.asg (.name 2) (.call 63 (.cons (.var 5) (.nil)))) (.seq (.iff (.cmp 5 (.u1 12 (.lst (.cons (.call 1 (.cons (.var 5) (.nil))) (.cons (.callK1 1 (.var 5)) (.nil))))) (.u1 12 (.lst (.cons (.var 2) (.cons (.var 2) (.nil)))))) (.seq (.ret (.c (.bl false))) (.skip)) (.skip)) (.seq (.iff (.cmp 5 (.u1 12 (.lst (.cons (.call 51 (.cons (.var 1) (.cons (.var 2) (.nil)))) (.cons (.callK2 51 (.var 2) (.var 1)) (.nil))))) (.u1 12 (.lst (.cons (.var 5) (.cons (.var 5) (.nil)))))) (.seq (.ret (.c (.bl false))) (.skip)) (.skip)) (.seq (.asg (.name 3) (.lst (.cons (.var 5) (.cons (.var 6) (.cons (.c (.str [])) (.cons (.var 6) (.nil))))))) (.seq (.asg (.name 4) (.m1 0 (.c (.str [32])) (.lc (.name 7) [7] (.seq (.var 3)) (.c (.bl true)) (.call 63 (.cons (.var 7) (.nil)))))) (.seq (.iff (.cmp 5 (.u1 12 (.lst (.cons (.call 2 (.cons (.var 3) (.nil))) (.cons (.callK1 2 (.u1 1 (.var 3))) (.nil))))) (.u1 12 (.lst (.cons (.var 4) (.cons (.var 4) (.nil)))))) (.seq (.ret (.c (.bl false))) (.skip)) (.skip)) (.seq (.ret (.cmp 4 (.cmp 4 (.call 1 (.cons (.var 6) (.nil))) (.var 2)) (.cmp 4 (.var 5) (.var 6)))) (.skip))))))))
theorem h68 : F0[(68 : Nat)]? = some (.code ⟨2, 8, c68⟩) := rfl
def c69 : CS := .seq (.asg (.name 2) (.ix (.lst (.cons (.c (.str [108, 101, 102, 116])) (.cons (.c (.str [114, 105, 103, 104, 116])) (.nil)))) (.call 57 (.cons (.var 0) (.cons (.c (.int 2)) (.nil)))))) (.seq (.par2 4 5 [false, false] (.cons (.call 60 (.cons (.var 0) (.cons (.var 1) (.cons (.var 2) (.cons (.c (.int 4)) (.cons (.c (.int 5)) (.nil))))))) (.cons (.call 60 (.cons (.var 0) (.cons (.var 1) (.cons (.var 2) (.cons (.c (.int 2)) (.cons (.c (.int 2)) (.nil))))))) (.nil)))) (.seq (.asg (.name 3) (.call 64 (.cons (.var 4) (.nil)))) (.seq (.iff (.cmp 5 (.u1 12 (.lst (.cons (.call 5 (.cons (.var 4) (.nil))) (.cons (.callK1 5 (.var 4)) (.nil))))) (.u1 12 (.lst (.cons (.var 3) (.cons (.var 3) (.nil)))))) (.seq (.ret (.c (.bl false))) (.skip)) (.skip)) (.seq (.iff (.cmp 5 (.u1 12 (.lst (.cons (.call 52 (.cons (.var 1) (.cons (.var 3) (.nil)))) (.cons (.callK2 52 (.var 3) (.var 1)) (.nil))))) (.u1 12 (.lst (.cons (.var 4) (.cons (.var 4) (.nil)))))) (.seq (.ret (.c (.bl false))) (.skip)) (.skip)) (.seq (.ret (.cmp 4 (.cmp 4 (.call 5 (.cons (.var 5) (.nil))) (.var 3)) (.cmp 4 (.u1 12 (.var 5)) (.u1 12 (.var 4))))) (.skip))))))
theorem h69 : F0[(69 : Nat)]? = some (.code ⟨2, 6, c69⟩) := rfl
def b70_0 : CS := .seq (.asg (.name 5) (.call 65 (.cons (.var 3) (.nil)))) (.seq (.iff (.cmp 5 (.u1 12 (.lst (.cons (.call 6 (.cons (.var 3) (.nil))) (.cons (.callK1 6 (.var 3)) (.nil))))) (.u1 12 (.lst (.cons (.var 5) (.cons (.var 5) (.nil)))))) (.seq (.ret (.c (.bl false))) (.skip)) (.skip)) (.seq (.iff (.cmp 5 (.u1 12 (.lst (.cons (.call 53 (.cons (.var 1) (.cons (.var 5) (.nil)))) (.cons (.callK2 53 (.var 5) (.var 1)) (.nil))))) (.u1 12 (.lst (.cons (.var 3) (.cons (.var 3) (.nil)))))) (.seq (.ret (.c (.bl false))) (.skip)) (.skip)) (.skip)))
def c70 : CS := .seq (.setLc false 2 (.lc (.name 6) [6] (.rng 1 (.cons (.call 57 (.cons (.var 0) (.cons (.c (.int 5)) (.nil)))) (.nil))) (.c (.bl true)) (.call 62 (.cons (.var 0) (.cons (.var 1) (.nil)))))) (.seq (.for (.name 3) (.seq (.var 2)) b70_0) (.seq (.asg (.name 4) (.tup (.cons (.var 1) (.cons (.u1 1 (.var 2)) (.nil))))) (.seq (.asg (.name 5) (.m1 0 (.c (.str [32, 59, 32])) (.bin 0 (.lst (.cons (.u1 8 (.var 1)) (.nil))) (.lc (.name 3) [3] (.seq (.var 2)) (.c (.bl true)) (.call 65 (.cons (.var 3) (.nil))))))) (.seq (.iff (.cmp 5 (.u1 12 (.lst (.cons (.call 7 (.cons (.var 4) (.nil))) (.cons (.callK1 7 (.var 4)) (.nil))))) (.u1 12 (.lst (.cons (.var 5) (.cons (.var 5) (.nil)))))) (.seq (.ret (.c (.bl false))) (.skip)) (.skip)) (.seq (.iff (.cmp 5 (.u1 12 (.lst (.cons (.call 54 (.cons (.var 5) (.nil))) (.cons (.callK1 54 (.var 5)) (.nil))))) (.u1 12 (.lst (.cons (.var 4) (.cons (.var 4) (.nil)))))) (.seq (.ret (.c (.bl false))) (.skip)) (.skip)) (.seq (.ret (.or (.cmp 5 (.call 7 (.cons (.tup (.cons (.var 1) (.cons (.u1 1 (.cutL (.var 2) (.c (.int 1)))) (.nil)))) (.nil))) (.var 5)) (.one (.cmp 4 (.var 2) (.lst (.nil)))))) (.skip)))))))
theorem h70 : F0[(70 : Nat)]? = some (.code ⟨2, 7, c70⟩) := rfl
def c71 : CS := .seq (.par2 3 4 [false, false] (.cons (.call 61 (.cons (.var 0) (.cons (.var 1) (.cons (.c (.int 12)) (.nil))))) (.cons (.call 61 (.cons (.var 0) (.cons (.var 1) (.cons (.c (.int 2)) (.nil))))) (.nil)))) (.seq (.asg (.name 2) (.call 66 (.cons (.var 3) (.nil)))) (.seq (.iff (.cmp 5 (.u1 12 (.lst (.cons (.call 9 (.cons (.var 3) (.nil))) (.cons (.callK1 9 (.var 3)) (.nil))))) (.u1 12 (.lst (.cons (.var 2) (.cons (.var 2) (.nil)))))) (.seq (.ret (.c (.bl false))) (.skip)) (.skip)) (.seq (.iff (.cmp 5 (.u1 12 (.lst (.cons (.call 55 (.cons (.var 2) (.nil))) (.cons (.callK1 55 (.var 2)) (.nil))))) (.u1 12 (.lst (.cons (.var 3) (.cons (.var 3) (.nil)))))) (.seq (.ret (.c (.bl false))) (.skip)) (.skip)) (.seq (.ret (.cmp 4 (.cmp 4 (.call 9 (.cons (.var 4) (.nil))) (.var 2)) (.cmp 4 (.u1 12 (.var 4)) (.u1 12 (.var 3))))) (.skip)))))
theorem h71 : F0[(71 : Nat)]? = some (.code ⟨2, 5, c71⟩) := rfl
def b72_0 : CS := .seq (.asg (.name 2) (.call 56 (.cons (.var 0) (.cons (.var 1) (.nil))))) (.seq (.asg (.name 3) (.ix (.lst (.cons (.c (.int 1)) (.cons (.c (.int 2)) (.cons (.c (.int 2)) (.cons (.c (.int 3)) (.cons (.c (.int 4)) (.cons (.c (.int 12)) (.nil)))))))) (.call 57 (.cons (.var 2) (.cons (.c (.int 6)) (.nil)))))) (.seq (.iff (.or (.not (.tv (.call 68 (.cons (.var 2) (.cons (.var 3) (.nil)))))) (.one (.not (.tv (.call 69 (.cons (.var 2) (.cons (.var 3) (.nil)))))))) (.seq (.ret (.c (.bl false))) (.skip)) (.skip)) (.seq (.iff (.or (.not (.tv (.call 70 (.cons (.var 2) (.cons (.var 3) (.nil)))))) (.one (.not (.tv (.call 71 (.cons (.var 2) (.cons (.var 3) (.nil)))))))) (.seq (.ret (.c (.bl false))) (.skip)) (.skip)) (.skip))))
def c72 : CS := .seq (.for (.name 1) (.rng 1 (.cons (.u2 0 (.c (.int 1)) (.u2 1 (.c (.int 6)) (.u1 0 (.var 0)))) (.nil))) b72_0) (.seq (.ret (.c (.bl true))) (.skip))
theorem h72 : F0[(72 : Nat)]? = some (.code ⟨1, 4, c72⟩) := rfl
end K73
end
section
set_option Elab.async false
set_option linter.all false
set_option autoImplicit false
set_option maxRecDepth 100000
set_option maxHeartbeats 0
namespace K73
open PySem PySem.Spec PyProof.Rows L2 Tg
local macro_rules | `(tactic| walk_at "es") => `(tactic| try simp only [st0, st1, st2, st3, st4, evS, ev, evO, dSeqS, dSkip, dExpr, dRet, dRetN, dIfS, dAsg, dC, dNil, dCons, consV, dTup, dLst, dB1, dB2, dChain, dIte, dAnd, dOr, dNot, dCall,
  dCutL, dCutH, dCutB, dM1, dIx, dSeq, dSrc, dLc, dFor, dPar2, oCons, oNil, wipeE, opF, cmF, u1F, u2F, m1F, isiN, rngF, Tgt.put, List.set, List.headD_cons, List.tail_cons,
  bnd_ok, bnd_bad, bnd_exc, okv_s, onBl_b, onI_i, onS_s, onT_s, tst_b, tstS_b, okE_s, outF_rt, outF_nx, outF_exc, seqK_nx, seqK_rt, okL_s, asL_l, okN0, okN1, okN2, okN3, okN4, okN5, v0, v1, v2, v3, v4, v5, v6, v7, v8, v9, v10, v11,
  isi1, isi2, isi3, isi4, isi5, iss1, iss2, iss3, iss4, iss5, ist1, ist2, ist3, ist4, ist5, isn1, isn2, isn3, isb5, len_t, len_l, lt_i, le_i, gt_i, ge_i, eq_i, ne_i, eq_s, ne_s, lt_s, add_i, sub_i, neg_i, is_non, is_t, is_s, is_i, isn_non, isn_t, isn_s, isn_i,
  at_t0, at_t1, at_t2, at_t3, at_t4, ixt, ixl, ixs, sq_t, sq_l, sq_s, tup_l, in_c, nin_c, and_bl, or_bl, ite_ok, ret_ok, guard_ok, ib_and, ib_or, ib_f, nc0, nc1, nc2, nc3, nc4, nc5, nc6, Int.reduceLE, Int.reduceLT, Int.reduceEq, decide_true, decide_false, Int.le_refl, Int.lt_irrefl,
  List.length_cons, List.length_nil, List.replicate, List.cons_append, List.nil_append, Nat.add_zero, Nat.zero_add, Nat.reduceAdd, Nat.reduceSub, Option.getD_some, Option.getD_none, Bool.not_false, Bool.not_true, Bool.true_or, Bool.false_or, Bool.true_and, Bool.false_and, Bool.and_true, Bool.or_true, Bool.or_false, if_true, if_false, Bool.false_eq_true, ite_true, ite_false])
local macro_rules | `(tactic| walk_at "es2") => `(tactic| try simp -implicitDefEqProofs only [st0, st1, st2, st3, st4, evS, ev, evO, dSeqS, dSkip, dExpr, dRet, dRetN, dIfS, dAsg, dC, dNil, dCons, consV, dTup, dLst, dB1, dB2, dChain, dIte, dAnd, dOr, dNot, dCall,
  dCutL, dCutH, dCutB, dM1, dIx, dSeq, dSrc, dLc, dFor, dPar2, oCons, oNil, wipeE, opF, cmF, u1F, u2F, m1F, isiN, rngF, Tgt.put, List.set, List.headD_cons, List.tail_cons,
  bnd_ok, bnd_bad, bnd_exc, okv_s, onBl_b, onI_i, onS_s, onT_s, tst_b, tstS_b, okE_s, outF_rt, outF_nx, outF_exc, seqK_nx, seqK_rt, okL_s, asL_l, okN0, okN1, okN2, okN3, okN4, okN5, v0, v1, v2, v3, v4, v5, v6, v7, v8, v9, v10, v11,
  isi1, isi2, isi3, isi4, isi5, iss1, iss2, iss3, iss4, iss5, ist1, ist2, ist3, ist4, ist5, isn1, isn2, isn3, isb5, len_t, len_l, lt_i, le_i, gt_i, ge_i, eq_i, ne_i, eq_s, ne_s, lt_s, add_i, sub_i, neg_i, is_non, is_t, is_s, is_i, isn_non, isn_t, isn_s, isn_i,
  at_t0, at_t1, at_t2, at_t3, at_t4, ixt, ixl, ixs, sq_t, sq_l, sq_s, tup_l, in_c, nin_c, and_bl, or_bl, ite_ok, ret_ok, guard_ok, ib_and, ib_or, ib_f, nc0, nc1, nc2, nc3, nc4, nc5, nc6, Int.reduceLE, Int.reduceLT, Int.reduceEq, decide_true, decide_false, Int.le_refl, Int.lt_irrefl,
  List.length_cons, List.length_nil, List.replicate, List.cons_append, List.nil_append, Nat.add_zero, Nat.zero_add, Nat.reduceAdd, Nat.reduceSub, Option.getD_some, Option.getD_none, Bool.not_false, Bool.not_true, Bool.true_or, Bool.false_or, Bool.true_and, Bool.false_and, Bool.and_true, Bool.or_true, Bool.or_false, if_true, if_false, Bool.false_eq_true, ite_true, ite_false])
/-! ### drawn letters, rows, patterns, words -/
theorem joinL_nil : ∀ l : List Nat, TL.joinL [] (l.map fun c => [c]) = l
  | [] => rfl
  | [c] => rfl
  | c :: d :: r => by
    show [c] ++ ([] ++ TL.joinL [] ((d :: r).map fun c => [c])) = _
    rw [joinL_nil (d :: r)]; rfl
theorem lets_eq {k : Nat} (h : k ≤ 12) : lets (k : Int) = alpha.take k := by
  have key : ∀ k < 13, lets ((k : Nat) : Int) = alpha.take k := by decide +kernel
  exact key k (by omega)
theorem lets_len {k : Nat} (h : k ≤ 12) : (lets (k : Int)).length = k := by
  rw [lets_eq h, List.length_take]
  show min k 12 = k
  omega
theorem lets_sub {k : Nat} (h : k ≤ 12) : (lets (k : Int)).Sublist alpha := by rw [lets_eq h]; exact List.take_sublist _ _
theorem alpha_abc : ∀ c ∈ alpha, abc c := by
  intro c hc
  have key : ∀ c ∈ alpha, 97 ≤ c ∧ c ≤ 108 := by decide
  exact key c hc
theorem alpha_rise : alpha.Pairwise (· < ·) := by decide
theorem one_lt {a b : Nat} (h : a < b) : ([a] : List Nat) < [b] := by
  rw [List.cons_lt_cons_iff]; exact .inl h
theorem incr_of : ∀ {w : List Nat}, w.Pairwise (· < ·) → incr w = true
  | [], _ => rfl
  | [a], _ => rfl
  | a :: b :: r, h => by
    have h2 := incr_of (List.pairwise_cons.mp h).2
    have h1 : a < b := (List.pairwise_cons.mp h).1 b (List.mem_cons_self ..)
    unfold incr at h2 ⊢
    show (decide (([a] : List Nat) < [b]) && _) = true
    rw [decide_eq_true (one_lt h1), Bool.true_and]
    exact h2
theorem liB_of {k : Nat} (hk : k ≤ 12) {w : List Nat} (h : w.Sublist (lets (k : Int))) (hne : w ≠ []) : liB k w = true ∧ (w ≠ [] ∧ wOk w ∧ w.length ≤ 12) := by
  have hl := h.length_le
  rw [lets_len hk] at hl
  have h1 : 1 ≤ w.length := Nat.pos_of_ne_zero fun z => hne (List.length_eq_zero_iff.mp z)
  refine ⟨?_, hne, fun c hc => alpha_abc c ((h.trans (lets_sub hk)).subset hc), by omega⟩
  unfold liB
  rw [incr_of (alpha_rise.sublist (h.trans (lets_sub hk))), decide_eq_true (show (1 : Int) ≤ w.length by omega), decide_eq_true (show (w.length : Int) ≤ k by omega)]
  simp only [Bool.not_not, Bool.and_true, Bool.true_and]
  exact List.all_eq_true.mpr fun c hc => decide_eq_true (h.subset hc)
theorem at_alpha {i : Nat} (h : i < 12) : vIdx (.str alpha) (.int (i : Int)) = some (.str [97 + i]) := by
  have key : ∀ i < 12, atC alpha ((i : Nat) : Int) = some (97 + i) := by decide
  show (if alpha.length ≤ sizeLine then (atC alpha i).map (fun c => PV.str [c]) else none) = _
  rw [if_pos (by decide), key i h]; rfl
theorem in_lets {i k : Nat} (h : i < k) (hk : k ≤ 12) : 97 + i ∈ lets (k : Int) := by
  have key : ∀ k < 13, ∀ i < k, 97 + i ∈ lets ((k : Nat) : Int) := by decide +kernel
  exact key k (by omega) i h
theorem nat_of {i : Int} (h : 0 ≤ i) : ∃ j : Nat, i = (j : Int) := ⟨i.toNat, by omega⟩
theorem mem_sing {c : Nat} {l : List Nat} (h : c ∈ l) : [c].Sublist l := List.singleton_sublist.mpr h
/-- a draw, by a number of sorts -/
theorem d_draw (n : Nat) {S : Store} {c m : Nat} (h : Wat S c m) (hm : m ≤ 100000) {many : Nat} (h1 : 0 < many) (h2 : many < 1000000) :
    ∃ (i : Nat) (S' : Store), C (n + 1) i_law_draw [.cell c, .int (many : Int)] S = .ok (.int (i : Int)) S' ∧ i < many ∧ Wat S' c (m + 1) := by
  obtain ⟨i, S', e, ⟨h3, h4⟩, h5, _⟩ := s_draw n h hm (many := (many : Int)) (by omega) (by omega)
  obtain ⟨j, rfl⟩ := nat_of h3
  exact ⟨j, S', e, by omega, h5⟩
theorem s_letters (n : Nat) {S : Store} {c m : Nat} (h : Wat S c m) (hm : m ≤ 50000) {k : Nat} (h1 : 1 ≤ k) (hk : k ≤ 12) :
    ∃ (w : List Nat) (S' : Store), C (n + 2) i_law_letters [.cell c, .int (k : Int)] S = .ok (.str w) S' ∧ (liB k w = true ∧ (w ≠ [] ∧ wOk w ∧ w.length ≤ 12)) ∧ Wat S' c (m + 13) := by
  rw [cc rfl (n + 1) _ S rfl]
  walk_at "es"
  rw [show vCut (.str [97, 98, 99, 100, 101, 102, 103, 104, 105, 106, 107, 108]) none (some (k : Int)) = some (.str (lets (k : Int))) from rfl]
  walk_at "es"
  obtain ⟨zs, S1, e1, e2, _, ⟨m1, w1, b1⟩⟩ := lc_x (t := .name 3) (tt := dB2 vEq (dCall (C (n + 1)) 57 (dCons (dVar 0) (dCons (dC (.int 2)) dNil))) (dC (.int 0))) (te := dVar 3) (ρ := [.val (.cell c), .val (.int (k : Int)), .no, .no])
    (fun c : Nat => PV.str [c]) (fun (c : Nat) (_ : Unit) => PV.str [c]) (fun _ _ => True) (fun xs S => ∃ m', Wat S c m' ∧ m' + xs.length ≤ m + 12) (fun x xs S0 ⟨m', hw, hb⟩ => by
      rw [List.length_cons] at hb
      obtain ⟨i, S', e, hi, hw'⟩ := d_draw n hw (by omega) (many := 2) (by decide) (by decide)
      refine ⟨_, decide ((i : Int) = 0), S', rfl, ?_, fun _ => ⟨(), S', rfl, trivial, m' + 1, hw', by omega⟩, fun _ => ⟨m' + 1, hw', by omega⟩⟩
      walk_at "es"
      rw [show (PV.int 2) = .int ((2 : Nat) : Int) from rfl, e]
      walk_at "es") (lets (k : Int)) S ⟨m, h, by rw [lets_len hk]; omega⟩
  have e1' : lcK [3] (.name 3) (dB2 vEq (dCall (C (n + 1)) 57 (dCons (dVar 0) (dCons (dC (.int 2)) dNil))) (dC (.int 0))) (dVar 3) [.val (.cell c), .val (.int (k : Int)), .no, .no] (.lst (Tg.signs (lets (k : Int)))) S = .ok (.lst (zs.map fun z => PV.str [z.1])) S1 :=
    lcK_of (by unfold Tg.signs; rw [List.length_map, lets_len hk]; exact Nat.le_trans hk (by decide)) e1
  rw [e1']
  walk_at "es"
  have ej : mJoin (.str []) (.lst (zs.map fun z => PV.str [z.1])) = some (.str (zs.map (·.1))) := by
    have := join_s (B := 1) (K := 12) (a := []) (ys := (zs.map (·.1)).map fun c => [c]) (fun y hy => by
      obtain ⟨z, _, rfl⟩ := List.mem_map.mp hy
      simp) (by rw [List.length_map]; have := e2.length_le; rw [lets_len hk] at this; omega) (by decide)
    rw [joinL_nil, List.map_map, List.map_map] at this
    exact this
  rw [ej]
  walk_at "es"
  cases hz : zs.map (·.1) with
  | nil =>
    obtain ⟨i, S', e, hi, hw'⟩ := d_draw n w1 (by omega) (many := k) h1 (by omega)
    refine ⟨[97 + i], S', ?_, liB_of hk (mem_sing (in_lets hi hk)) (by simp), ?_⟩
    · walk_at "es"
      rw [e]
      walk_at "es"
      rw [show ([97, 98, 99, 100, 101, 102, 103, 104, 105, 106, 107, 108] : List Nat) = alpha from rfl, at_alpha (by omega)]
      walk_at "es"
    · exact wat_mono hw' (by omega)
  | cons a r =>
    refine ⟨a :: r, S1, ?_, liB_of hk (by rw [← hz]; exact e2) (by simp), wat_mono w1 (by omega)⟩
    rw [decide_eq_false (show ¬ (a :: r = ([] : List Nat)) by simp)]
    walk_at "es"
end K73
end
section
set_option Elab.async false
set_option linter.all false
set_option autoImplicit false
set_option maxRecDepth 100000
set_option maxHeartbeats 0
namespace K73
open PySem PySem.Spec PyProof.Rows L2 Tg
local macro_rules | `(tactic| walk_at "es") => `(tactic| try simp only [st0, st1, st2, st3, st4, evS, ev, evO, dSeqS, dSkip, dExpr, dRet, dRetN, dIfS, dAsg, dC, dNil, dCons, consV, dTup, dLst, dB1, dB2, dChain, dIte, dAnd, dOr, dNot, dCall,
  dCutL, dCutH, dCutB, dM1, dIx, dSeq, dSrc, dLc, dFor, dPar2, oCons, oNil, wipeE, opF, cmF, u1F, u2F, m1F, isiN, rngF, Tgt.put, List.set, List.headD_cons, List.tail_cons,
  bnd_ok, bnd_bad, bnd_exc, okv_s, onBl_b, onI_i, onS_s, onT_s, tst_b, tstS_b, okE_s, outF_rt, outF_nx, outF_exc, seqK_nx, seqK_rt, okL_s, asL_l, okN0, okN1, okN2, okN3, okN4, okN5, v0, v1, v2, v3, v4, v5, v6, v7, v8, v9, v10, v11,
  isi1, isi2, isi3, isi4, isi5, iss1, iss2, iss3, iss4, iss5, ist1, ist2, ist3, ist4, ist5, isn1, isn2, isn3, isb5, len_t, len_l, lt_i, le_i, gt_i, ge_i, eq_i, ne_i, eq_s, ne_s, lt_s, add_i, sub_i, neg_i, is_non, is_t, is_s, is_i, isn_non, isn_t, isn_s, isn_i,
  at_t0, at_t1, at_t2, at_t3, at_t4, ixt, ixl, ixs, sq_t, sq_l, sq_s, tup_l, in_c, nin_c, and_bl, or_bl, ite_ok, ret_ok, guard_ok, ib_and, ib_or, ib_f, nc0, nc1, nc2, nc3, nc4, nc5, nc6, Int.reduceLE, Int.reduceLT, Int.reduceEq, decide_true, decide_false, Int.le_refl, Int.lt_irrefl,
  List.length_cons, List.length_nil, List.replicate, List.cons_append, List.nil_append, Nat.add_zero, Nat.zero_add, Nat.reduceAdd, Nat.reduceSub, Option.getD_some, Option.getD_none, Bool.not_false, Bool.not_true, Bool.true_or, Bool.false_or, Bool.true_and, Bool.false_and, Bool.and_true, Bool.or_true, Bool.or_false, if_true, if_false, Bool.false_eq_true, ite_true, ite_false])
local macro_rules | `(tactic| walk_at "es2") => `(tactic| try simp -implicitDefEqProofs only [st0, st1, st2, st3, st4, evS, ev, evO, dSeqS, dSkip, dExpr, dRet, dRetN, dIfS, dAsg, dC, dNil, dCons, consV, dTup, dLst, dB1, dB2, dChain, dIte, dAnd, dOr, dNot, dCall,
  dCutL, dCutH, dCutB, dM1, dIx, dSeq, dSrc, dLc, dFor, dPar2, oCons, oNil, wipeE, opF, cmF, u1F, u2F, m1F, isiN, rngF, Tgt.put, List.set, List.headD_cons, List.tail_cons,
  bnd_ok, bnd_bad, bnd_exc, okv_s, onBl_b, onI_i, onS_s, onT_s, tst_b, tstS_b, okE_s, outF_rt, outF_nx, outF_exc, seqK_nx, seqK_rt, okL_s, asL_l, okN0, okN1, okN2, okN3, okN4, okN5, v0, v1, v2, v3, v4, v5, v6, v7, v8, v9, v10, v11,
  isi1, isi2, isi3, isi4, isi5, iss1, iss2, iss3, iss4, iss5, ist1, ist2, ist3, ist4, ist5, isn1, isn2, isn3, isb5, len_t, len_l, lt_i, le_i, gt_i, ge_i, eq_i, ne_i, eq_s, ne_s, lt_s, add_i, sub_i, neg_i, is_non, is_t, is_s, is_i, isn_non, isn_t, isn_s, isn_i,
  at_t0, at_t1, at_t2, at_t3, at_t4, ixt, ixl, ixs, sq_t, sq_l, sq_s, tup_l, in_c, nin_c, and_bl, or_bl, ite_ok, ret_ok, guard_ok, ib_and, ib_or, ib_f, nc0, nc1, nc2, nc3, nc4, nc5, nc6, Int.reduceLE, Int.reduceLT, Int.reduceEq, decide_true, decide_false, Int.le_refl, Int.lt_irrefl,
  List.length_cons, List.length_nil, List.replicate, List.cons_append, List.nil_append, Nat.add_zero, Nat.zero_add, Nat.reduceAdd, Nat.reduceSub, Option.getD_some, Option.getD_none, Bool.not_false, Bool.not_true, Bool.true_or, Bool.false_or, Bool.true_and, Bool.false_and, Bool.and_true, Bool.or_true, Bool.or_false, if_true, if_false, Bool.false_eq_true, ite_true, ite_false])
theorem app_at {i : Nat} {dr : Den} {ρ : Tg.Env} {S S1 : Store} {l : List PV} {v : PV} (h1 : look ρ i = .own (.lst l)) (h2 : dr ρ S = .ok (.lst [v]) S1) (hl : l.length < 16777216) : dApp i dr ρ S = .ok (.nx (ρ.set i (.own (.lst (l ++ [v]))))) S1 := by
  unfold dApp
  rw [h1]
  show (if true = true then _ else _) = _
  rw [if_pos rfl, h2, bnd_ok]
  show setO i (appV (.own (.lst l)) v) ρ S1 = _
  unfold appV
  simp only
  rw [if_pos (show l.length < sizeLine by have : sizeLine = 16777216 := by decide
                                          omega)]
  rfl
theorem own_l {i : Nat} {d : Den} {ρ : Tg.Env} {S S1 : Store} {l : List PV} (h : d ρ S = .ok (.lst l) S1) : dOwn i d ρ S = .ok (.nx (ρ.set i (.own (.lst l)))) S1 := by
  unfold dOwn
  rw [h]; rfl
theorem bor_at {i : Nat} {ρ : Tg.Env} {S : Store} {v : PV} (h : look ρ i = .own v) : dBor i ρ S = .ok v S := by unfold dBor; rw [h]
def kindL : List PV := [.str [111, 110, 101], .str [111, 110, 101], .str [109, 97, 121, 98, 101], .str [97, 110, 121]]
def itK (i : Nat) (w : List Nat) : Item := if i = 2 then .may w else if i = 3 then .any w else .one w
theorem kind_at {i : Nat} (h : i < 4) (w : List Nat) : ∃ kd, vIdx (.lst kindL) (.int (i : Int)) = some (.str kd) ∧ PV.tup [.str kd, .str w] = eI (itK i w) := by
  rcases (by omega : i = 0 ∨ i = 1 ∨ i = 2 ∨ i = 3) with rfl | rfl | rfl | rfl
  · exact ⟨_, rfl, rfl⟩
  · exact ⟨_, rfl, rfl⟩
  · exact ⟨_, rfl, rfl⟩
  · exact ⟨_, rfl, rfl⟩
theorem itK_ok {i k : Nat} {w : List Nat} (h : liB k w = true ∧ (w ≠ [] ∧ wOk w ∧ w.length ≤ 12)) : itB k (itK i w) = true ∧ iOk (itK i w) := by
  unfold itK
  split
  · exact h
  · split <;> exact h
theorem b_row (n : Nat) {S : Store} {c m : Nat} (h : Wat S c m) (hm : m ≤ 40000) {k : Nat} (h1 : 1 ≤ k) (hk : k ≤ 12) {l : List Item} (hl : l.length ≤ 100) {a2 a3 a5 a6 : Sl} :
    ∃ (i : Item) (S' : Store), evS (Pn (n + 2)) b59_0 [.val (.cell c), .val (.int (k : Int)), a2, a3, .own (.lst (l.map eI)), a5, a6] S = .ok (.nx [.val (.cell c), .val (.int (k : Int)), a2, a3, .own (.lst ((l ++ [i]).map eI)), a5, a6]) S' ∧ (itB k i = true ∧ iOk i) ∧ Wat S' c (m + 14) := by
  obtain ⟨i, S1, e1, hi, w1⟩ := d_draw (n + 1) h (by omega) (many := 4) (by decide) (by decide)
  obtain ⟨w, S2, e2, hw, w2⟩ := s_letters n w1 (by omega) h1 hk
  obtain ⟨kd, k1, k2⟩ := kind_at hi w
  refine ⟨itK i w, S2, ?_, itK_ok hw, wat_mono w2 (by omega)⟩
  unfold b59_0
  simp only [evS, dSeqS]
  rw [app_at (i := 4) (l := l.map eI) (v := eI (itK i w)) (S1 := S2) rfl (by
    walk_at "es"
    rw [show (PV.int 4) = .int ((4 : Nat) : Int) from rfl, e1]
    walk_at "es"
    rw [show ([PV.str [111, 110, 101], PV.str [111, 110, 101], PV.str [109, 97, 121, 98, 101], PV.str [97, 110, 121]] : List PV) = kindL from rfl, k1]
    walk_at "es"
    rw [e2]
    walk_at "es"
    rw [k2]) (by rw [List.length_map]; omega)]
  walk_at "es"
  rw [List.map_append]
  rfl
/-- the sides -/
inductive Sd where
  | left | right
def Sd.s : Sd → List Nat
  | .left => leftS
  | .right => rightS
def Sd.b : Sd → Bool
  | .left => true
  | .right => false
def mkRow (sd : Sd) (e : Bool) (l : List Item) : List Item := match sd with
  | .left => (if e = true then [Item.edge] else []) ++ l
  | .right => l ++ (if e = true then [Item.edge] else [])
theorem noEdge {k : Nat} {i : Item} (h : itB k i = true) : isEdge i = false := by cases i <;> first | rfl | cases h
theorem mkRow_ok {k : Nat} {sd : Sd} {e : Bool} {l : List Item} (h : ∀ i ∈ l, itB k i = true ∧ iOk i) (hl : l.length ≤ 5) : rowB k sd.b (mkRow sd e l) = true ∧ rOk (mkRow sd e l) ∧ (mkRow sd e l).length ≤ l.length + 1 := by
  have hlen : (mkRow sd e l).length ≤ l.length + 1 := by
    cases sd <;> cases e <;> simp [mkRow]
  have hok : ∀ i ∈ mkRow sd e l, iOk i := by
    intro i hi
    cases sd <;> cases e <;> simp [mkRow] at hi
    · exact (h i hi).2
    · rcases hi with rfl | hi
      · trivial
      · exact (h i hi).2
    · exact (h i hi).2
    · rcases hi with hi | rfl
      · exact (h i hi).2
      · trivial
  refine ⟨?_, ⟨by omega, hok⟩, hlen⟩
  unfold rowB
  rw [decide_eq_true (by omega), Bool.true_and]
  have hin : inner sd.b (mkRow sd e l) = l := by
    cases sd with
    | left =>
      cases e with
      | true => rfl
      | false =>
        show inner true ([] ++ l) = l
        rw [List.nil_append]
        unfold inner
        rw [if_pos rfl]
        cases l with
        | nil => rfl
        | cons a r =>
          have := noEdge (h a (List.mem_cons_self ..)).1
          cases a <;> first | rfl | cases this
    | right =>
      cases e with
      | true =>
        show inner false (l ++ [Item.edge]) = l
        unfold inner
        rw [if_neg (by decide)]
        rw [List.getLast?_append]
        simp
      | false =>
        show inner false (l ++ []) = l
        rw [List.append_nil]
        unfold inner
        rw [if_neg (by decide)]
        cases q : l.getLast? with
        | none => rfl
        | some a =>
          have := noEdge (h a (List.mem_of_getLast? q)).1
          cases a <;> first | rfl | cases this
  rw [hin]
  exact List.all_eq_true.mpr fun i hi => (h i hi).1
theorem both_ne (sd : Sd) : vNe (.str sd.s) (.str [98, 111, 116, 104]) = some (.bl true) := by cases sd <;> rfl
theorem left_eq (sd : Sd) : vEq (.str sd.s) (.str [108, 101, 102, 116]) = some (.bl sd.b) := by cases sd <;> rfl
theorem eI_edge : PV.tup [.str [101, 100, 103, 101]] = eI .edge := rfl
theorem s_row (n : Nat) {S : Store} {c m : Nat} (h : Wat S c m) (hm : m ≤ 30000) {k : Nat} (h1 : 1 ≤ k) (hk : k ≤ 12) (sd : Sd) {most : Nat} (hmo : most ≤ 5) :
    ∃ (r : List Item) (S' : Store), C (n + 3) i_law_row [.cell c, .int (k : Int), .str sd.s, .int (most : Int)] S = .ok (eRow r) S' ∧ (rowB k sd.b r = true ∧ rOk r ∧ r.length ≤ most + 1) ∧ Wat S' c (m + 100) := by
  obtain ⟨j, S1, e1, hj, w1⟩ := d_draw (n + 1) h (by omega) (many := most + 1) (by omega) (by omega)
  obtain ⟨⟨g5, l⟩, S2, e2, ⟨m2, w2, b2⟩, hl, hok⟩ := for_g (t := .name 5) (db := evS (Pn (n + 2)) b59_0) (fun k : Nat => PV.int (k : Int)) (fun g : Sl × List Item => [.val (.cell c), .val (.int (k : Int)), .val (.str sd.s), .val (.int (most : Int)), .own (.lst (g.2.map eI)), g.1, .no])
    (fun xs g S' => (∃ m', Wat S' c m' ∧ m' + 14 * xs.length ≤ m + 1 + 14 * 5) ∧ (g.2.length + xs.length = j) ∧ ∀ i ∈ g.2, itB k i = true ∧ iOk i) (fun x xs g S' ⟨⟨m', hw, hb⟩, hlen, hit⟩ => by
      rw [List.length_cons] at hb hlen
      obtain ⟨i, S3, e3, hi, w3⟩ := b_row n hw (by omega) h1 hk (l := g.2) (by omega) (a2 := .val (.str sd.s)) (a3 := .val (.int (most : Int))) (a5 := .val (.int (x : Int))) (a6 := .no)
      refine ⟨_, (.val (.int (x : Int)), g.2 ++ [i]), S3, rfl, e3, ⟨m' + 14, w3, by omega⟩, by simp; omega, fun y hy => ?_⟩
      rcases List.mem_append.mp hy with hy | hy
      · exact hit y hy
      · rw [List.mem_singleton.mp hy]; exact hi) (List.range j) (.no, []) S1 ⟨⟨m + 1, w1, by rw [List.length_range]; omega⟩, by simp, fun _ h => by cases h⟩
  dsimp only at e2
  simp only [List.map_nil] at e2
  replace hl : l.length = j := by simpa using hl
  replace b2 : m2 ≤ m + 71 := by simpa using b2
  obtain ⟨e, S4, e4, he, w4⟩ := d_draw (n + 1) w2 (by omega) (many := 4) (by decide) (by decide)
  have R := mkRow_ok (k := k) (sd := sd) (e := decide (e = 0)) hok (by show l.length ≤ 5; omega)
  have hR : (mkRow sd (decide (e = 0)) l).length ≤ l.length + 1 := R.2.2
  refine ⟨mkRow sd (decide (e = 0)) l, S4, ?_, ⟨R.1, R.2.1, by omega⟩, wat_mono w4 (by omega)⟩
  rw [cc h59 (n + 2) _ S rfl]
  unfold c59
  walk_at "es"
  rw [own_l (i := 4) (l := []) (S1 := S) (by walk_at "es")]
  walk_at "es"
  rw [show ((most : Int) + 1) = ((most + 1 : Nat) : Int) by omega, e1]
  walk_at "es2"
  rw [rng_n j (by omega)]
  walk_at "es2"
  rw [e2]
  walk_at "es"
  rw [show (PV.int 4) = .int ((4 : Nat) : Int) from rfl, e4]
  walk_at "es"
  rw [show decide (sd.s = [98, 111, 116, 104]) = false by cases sd <;> decide, show decide (sd.s = [108, 101, 102, 116]) = sd.b by cases sd <;> decide, bor_at (i := 4) (v := .lst (l.map eI)) rfl]
  have hadd : ∀ a b : List PV, a.length + b.length ≤ 1000 → vAdd (.lst a) (.lst b) = some (.lst (a ++ b)) := fun a b hab => add_l (by omega)
  have heq : decide ((e : Int) = 0) = decide (e = 0) := by
    by_cases z : e = 0
    · subst z; rfl
    · rw [decide_eq_false z, decide_eq_false (by omega)]
  rw [heq]
  generalize decide (e = 0) = q
  have h0 : (PV.lst [PV.tup [PV.str [101, 100, 103, 101]]]) = .lst ([Item.edge].map eI) := rfl
  rw [h0]
  have hif : (if (q && !false) = true then (PV.lst ([Item.edge].map eI)) else PV.lst []) = .lst ((if q = true then [Item.edge] else []).map eI) := by cases q <;> rfl
  rw [hif]
  have hql : (if q = true then [Item.edge] else []).length ≤ 1 := by cases q <;> decide
  cases sd with
  | left =>
    simp only [Sd.b, if_true, bnd_ok]
    rw [hadd _ _ (by rw [List.length_map, List.length_map]; omega), ← List.map_append]
    rfl
  | right =>
    simp only [Sd.b, Bool.false_eq_true, if_false, bnd_ok]
    rw [hadd _ _ (by rw [List.length_map, List.length_map]; omega), ← List.map_append]
    rfl
end K73
end
section
set_option Elab.async false
set_option linter.all false
set_option autoImplicit false
set_option maxRecDepth 100000
set_option maxHeartbeats 0
namespace K73
open PySem PySem.Spec PyProof.Rows L2 Tg
local macro_rules | `(tactic| walk_at "es") => `(tactic| try simp only [st0, st1, st2, st3, st4, evS, ev, evO, dSeqS, dSkip, dExpr, dRet, dRetN, dIfS, dAsg, dC, dNil, dCons, consV, dTup, dLst, dB1, dB2, dChain, dIte, dAnd, dOr, dNot, dCall,
  dCutL, dCutH, dCutB, dM1, dIx, dSeq, dSrc, dLc, dFor, dPar2, oCons, oNil, wipeE, opF, cmF, u1F, u2F, m1F, isiN, rngF, Tgt.put, List.set, List.headD_cons, List.tail_cons,
  bnd_ok, bnd_bad, bnd_exc, okv_s, onBl_b, onI_i, onS_s, onT_s, tst_b, tstS_b, okE_s, outF_rt, outF_nx, outF_exc, seqK_nx, seqK_rt, okL_s, asL_l, okN0, okN1, okN2, okN3, okN4, okN5, v0, v1, v2, v3, v4, v5, v6, v7, v8, v9, v10, v11,
  isi1, isi2, isi3, isi4, isi5, iss1, iss2, iss3, iss4, iss5, ist1, ist2, ist3, ist4, ist5, isn1, isn2, isn3, isb5, len_t, len_l, lt_i, le_i, gt_i, ge_i, eq_i, ne_i, eq_s, ne_s, lt_s, add_i, sub_i, neg_i, is_non, is_t, is_s, is_i, isn_non, isn_t, isn_s, isn_i,
  at_t0, at_t1, at_t2, at_t3, at_t4, ixt, ixl, ixs, sq_t, sq_l, sq_s, tup_l, in_c, nin_c, and_bl, or_bl, ite_ok, ret_ok, guard_ok, ib_and, ib_or, ib_f, nc0, nc1, nc2, nc3, nc4, nc5, nc6, Int.reduceLE, Int.reduceLT, Int.reduceEq, decide_true, decide_false, Int.le_refl, Int.lt_irrefl,
  List.length_cons, List.length_nil, List.replicate, List.cons_append, List.nil_append, Nat.add_zero, Nat.zero_add, Nat.reduceAdd, Nat.reduceSub, Option.getD_some, Option.getD_none, Bool.not_false, Bool.not_true, Bool.true_or, Bool.false_or, Bool.true_and, Bool.false_and, Bool.and_true, Bool.or_true, Bool.or_false, if_true, if_false, Bool.false_eq_true, ite_true, ite_false])
local macro_rules | `(tactic| walk_at "es2") => `(tactic| try simp -implicitDefEqProofs only [st0, st1, st2, st3, st4, evS, ev, evO, dSeqS, dSkip, dExpr, dRet, dRetN, dIfS, dAsg, dC, dNil, dCons, consV, dTup, dLst, dB1, dB2, dChain, dIte, dAnd, dOr, dNot, dCall,
  dCutL, dCutH, dCutB, dM1, dIx, dSeq, dSrc, dLc, dFor, dPar2, oCons, oNil, wipeE, opF, cmF, u1F, u2F, m1F, isiN, rngF, Tgt.put, List.set, List.headD_cons, List.tail_cons,
  bnd_ok, bnd_bad, bnd_exc, okv_s, onBl_b, onI_i, onS_s, onT_s, tst_b, tstS_b, okE_s, outF_rt, outF_nx, outF_exc, seqK_nx, seqK_rt, okL_s, asL_l, okN0, okN1, okN2, okN3, okN4, okN5, v0, v1, v2, v3, v4, v5, v6, v7, v8, v9, v10, v11,
  isi1, isi2, isi3, isi4, isi5, iss1, iss2, iss3, iss4, iss5, ist1, ist2, ist3, ist4, ist5, isn1, isn2, isn3, isb5, len_t, len_l, lt_i, le_i, gt_i, ge_i, eq_i, ne_i, eq_s, ne_s, lt_s, add_i, sub_i, neg_i, is_non, is_t, is_s, is_i, isn_non, isn_t, isn_s, isn_i,
  at_t0, at_t1, at_t2, at_t3, at_t4, ixt, ixl, ixs, sq_t, sq_l, sq_s, tup_l, in_c, nin_c, and_bl, or_bl, ite_ok, ret_ok, guard_ok, ib_and, ib_or, ib_f, nc0, nc1, nc2, nc3, nc4, nc5, nc6, Int.reduceLE, Int.reduceLT, Int.reduceEq, decide_true, decide_false, Int.le_refl, Int.lt_irrefl,
  List.length_cons, List.length_nil, List.replicate, List.cons_append, List.nil_append, Nat.add_zero, Nat.zero_add, Nat.reduceAdd, Nat.reduceSub, Option.getD_some, Option.getD_none, Bool.not_false, Bool.not_true, Bool.true_or, Bool.false_or, Bool.true_and, Bool.false_and, Bool.and_true, Bool.or_true, Bool.or_false, if_true, if_false, Bool.false_eq_true, ite_true, ite_false])
theorem st5 {n : Nat} {a b c d e : PV} : startE [a, b, c, d, e] n = .val a :: .val b :: .val c :: .val d :: .val e :: List.replicate (n - 5) .no := rfl
/-- a drawn pattern -/
structure PatD (k : Nat) (sd : Sd) (rows most : Nat) (p : List (List Item)) : Prop where
  b : patB k sd.b p = true
  ok : pOk p
  len : p.length ≤ rows
  each : ∀ r ∈ p, r.length ≤ most + 1
theorem s_pattern (n : Nat) {S : Store} {c m : Nat} (h : Wat S c m) (hm : m ≤ 20000) {k : Nat} (h1 : 1 ≤ k) (hk : k ≤ 12) (sd : Sd) {rows most : Nat} (hr : 1 ≤ rows ∧ rows ≤ 4) (hmo : most ≤ 5) :
    ∃ (p : List (List Item)) (S' : Store), C (n + 4) i_law_pattern [.cell c, .int (k : Int), .str sd.s, .int (rows : Int), .int (most : Int)] S = .ok (ePat p) S' ∧ PatD k sd rows most p ∧ Wat S' c (m + 500) := by
  obtain ⟨i, S1, e1, hi, w1⟩ := d_draw (n + 2) h (by omega) (many := rows) (by omega) (by omega)
  obtain ⟨zs, S2, e2, z1, z2, ⟨m2, w2, b2⟩⟩ := lc_y (t := .name 5) (tt := dC (.bl true)) (te := dCall (C (n + 3)) 59 (dCons (dVar 0) (dCons (dVar 1) (dCons (dVar 2) (dCons (dVar 4) dNil))))) (ρ := [.val (.cell c), .val (.int (k : Int)), .val (.str sd.s), .val (.int (rows : Int)), .val (.int (most : Int)), .no])
    (fun x : Nat => PV.int (x : Int)) (fun (_ : Nat) r => eRow r) (fun _ r => rowB k sd.b r = true ∧ rOk r ∧ r.length ≤ most + 1) (fun xs S => ∃ m', Wat S c m' ∧ m' + 100 * xs.length ≤ m + 401) (fun x xs S0 ⟨m', hw, hb⟩ => by
      rw [List.length_cons] at hb
      obtain ⟨r, S', e, hr, hw'⟩ := s_row n hw (by omega) h1 hk sd hmo
      refine ⟨_, r, S', rfl, rfl, ?_, hr, m' + 100, hw', by omega⟩
      walk_at "es"
      rw [e]) (List.range (1 + i)) S1 ⟨m + 1, w1, by rw [List.length_range]; omega⟩
  have hlen : (zs.map (·.2)).length = 1 + i := by
    have := congrArg List.length z1
    rw [List.length_map, List.length_range] at this
    rw [List.length_map]; exact this
  refine ⟨zs.map (·.2), S2, ?_, ?_, wat_mono w2 (by rw [List.length_nil] at b2; omega)⟩
  · rw [cc rfl (n + 3) _ S rfl, st5]
    walk_at "es"
    rw [e1]
    walk_at "es2"
    rw [show ((1 : Int) + i) = ((1 + i : Nat) : Int) by omega, rng_n (1 + i) (by omega)]
    walk_at "es2"
    rw [lcK_of (by rw [List.length_map, List.length_range]; exact Nat.le_trans (show 1 + i ≤ 10 by omega) (by decide)) e2]
    walk_at "es2"
    unfold ePat
    rw [List.map_map]
    rfl
  · have hall : ∀ r ∈ zs.map (·.2), rowB k sd.b r = true ∧ rOk r ∧ r.length ≤ most + 1 := fun r hr => by
      obtain ⟨z, hz, rfl⟩ := List.mem_map.mp hr
      exact z2 z hz
    refine ⟨?_, ⟨by rw [hlen]; omega, fun r hr => (hall r hr).2.1⟩, by rw [hlen]; omega, fun r hr => (hall r hr).2.2⟩
    unfold patB
    rw [decide_eq_true (by rw [hlen]; omega), decide_eq_true (by rw [hlen]; omega)]
    exact List.all_eq_true.mpr fun r hr => (hall r hr).1
/-- a drawn word -/
structure WordD (k most : Nat) (w : List Nat) : Prop where
  b : isW k w = true
  ok : wOk w
  len : w.length ≤ most
theorem s_lword (n : Nat) {S : Store} {c m : Nat} (h : Wat S c m) (hm : m ≤ 20000) {k : Nat} (h1 : 1 ≤ k) (hk : k ≤ 12) {most : Nat} (hmo : most ≤ 60) :
    ∃ (w : List Nat) (S' : Store), C (n + 2) i_law_word [.cell c, .int (k : Int), .int (most : Int)] S = .ok (.str w) S' ∧ WordD k most w ∧ Wat S' c (m + 70) := by
  obtain ⟨i, S1, e1, hi, w1⟩ := d_draw n h (by omega) (many := most + 1) (by omega) (by omega)
  obtain ⟨zs, S2, e2, z1, z2, ⟨m2, w2, b2⟩⟩ := lc_y (t := .name 3) (tt := dC (.bl true)) (te := dIx (dC (.str [97, 98, 99, 100, 101, 102, 103, 104, 105, 106, 107, 108])) (dCall (C (n + 1)) 57 (dCons (dVar 0) (dCons (dVar 1) dNil)))) (ρ := [.val (.cell c), .val (.int (k : Int)), .val (.int (most : Int)), .no])
    (fun x : Nat => PV.int (x : Int)) (fun (_ : Nat) d => PV.str [97 + d]) (fun _ d => d < k) (fun xs S => ∃ m', Wat S c m' ∧ m' + xs.length ≤ m + 1 + most) (fun x xs S0 ⟨m', hw, hb⟩ => by
      rw [List.length_cons] at hb
      obtain ⟨d, S', e, hd, hw'⟩ := d_draw n hw (by omega) (many := k) (by omega) (by omega)
      refine ⟨_, d, S', rfl, rfl, ?_, hd, m' + 1, hw', by omega⟩
      walk_at "es"
      rw [e]
      walk_at "es2"
      rw [show ([97, 98, 99, 100, 101, 102, 103, 104, 105, 106, 107, 108] : List Nat) = alpha from rfl, at_alpha (by omega)]
      walk_at "es2") (List.range i) S1 ⟨m + 1, w1, by rw [List.length_range]; omega⟩
  have hlen : zs.length = i := by
    have := congrArg List.length z1
    rw [List.length_map, List.length_range] at this
    exact this
  refine ⟨zs.map fun z => 97 + z.2, S2, ?_, ?_, wat_mono w2 (by rw [List.length_nil] at b2; omega)⟩
  · rw [cc rfl (n + 1) _ S rfl]
    walk_at "es"
    rw [show ((most : Int) + 1) = ((most + 1 : Nat) : Int) by omega, e1]
    walk_at "es2"
    rw [rng_n i (by omega)]
    walk_at "es2"
    rw [lcK_of (by rw [List.length_map, List.length_range]; exact Nat.le_trans (show i ≤ 100 by omega) (by decide)) e2]
    walk_at "es2"
    have := join_s (B := 1) (K := 100) (a := []) (ys := (zs.map fun z => 97 + z.2).map fun c => [c]) (fun y hy => by
      obtain ⟨z, _, rfl⟩ := List.mem_map.mp hy
      simp) (by rw [List.length_map, List.length_map, hlen]; omega) (by decide)
    rw [joinL_nil, List.map_map, List.map_map] at this
    rw [show mJoin (.str []) (.lst (zs.map fun z => PV.str [97 + z.2])) = _ from this]
    walk_at "es2"
  · refine ⟨?_, fun x hx => ?_, by rw [List.length_map, hlen]; omega⟩
    · unfold isW
      refine List.all_eq_true.mpr fun x hx => ?_
      obtain ⟨z, hz, rfl⟩ := List.mem_map.mp hx
      exact decide_eq_true (in_lets (z2 z hz) hk)
    · obtain ⟨z, hz, rfl⟩ := List.mem_map.mp hx
      have := z2 z hz
      unfold abc
      omega
end K73
end
section
set_option Elab.async false
set_option linter.all false
set_option autoImplicit false
set_option maxRecDepth 100000
set_option maxHeartbeats 0
namespace K73
open PySem PySem.Spec PyProof.Rows L2 Tg
local macro_rules | `(tactic| walk_at "es") => `(tactic| try simp only [st0, st1, st2, st3, st4, evS, ev, evO, dSeqS, dSkip, dExpr, dRet, dRetN, dIfS, dAsg, dC, dNil, dCons, consV, dTup, dLst, dB1, dB2, dChain, dIte, dAnd, dOr, dNot, dCall,
  dCutL, dCutH, dCutB, dM1, dIx, dSeq, dSrc, dLc, dFor, dPar2, oCons, oNil, wipeE, opF, cmF, u1F, u2F, m1F, isiN, rngF, Tgt.put, List.set, List.headD_cons, List.tail_cons,
  bnd_ok, bnd_bad, bnd_exc, okv_s, onBl_b, onI_i, onS_s, onT_s, tst_b, tstS_b, okE_s, outF_rt, outF_nx, outF_exc, seqK_nx, seqK_rt, okL_s, asL_l, okN0, okN1, okN2, okN3, okN4, okN5, v0, v1, v2, v3, v4, v5, v6, v7, v8, v9, v10, v11,
  isi1, isi2, isi3, isi4, isi5, iss1, iss2, iss3, iss4, iss5, ist1, ist2, ist3, ist4, ist5, isn1, isn2, isn3, isb5, len_t, len_l, lt_i, le_i, gt_i, ge_i, eq_i, ne_i, eq_s, ne_s, lt_s, add_i, sub_i, neg_i, is_non, is_t, is_s, is_i, isn_non, isn_t, isn_s, isn_i,
  at_t0, at_t1, at_t2, at_t3, at_t4, ixt, ixl, ixs, sq_t, sq_l, sq_s, tup_l, in_c, nin_c, and_bl, or_bl, ite_ok, ret_ok, guard_ok, ib_and, ib_or, ib_f, nc0, nc1, nc2, nc3, nc4, nc5, nc6, Int.reduceLE, Int.reduceLT, Int.reduceEq, decide_true, decide_false, Int.le_refl, Int.lt_irrefl,
  List.length_cons, List.length_nil, List.replicate, List.cons_append, List.nil_append, Nat.add_zero, Nat.zero_add, Nat.reduceAdd, Nat.reduceSub, Option.getD_some, Option.getD_none, Bool.not_false, Bool.not_true, Bool.true_or, Bool.false_or, Bool.true_and, Bool.false_and, Bool.and_true, Bool.or_true, Bool.or_false, if_true, if_false, Bool.false_eq_true, ite_true, ite_false])
local macro_rules | `(tactic| walk_at "es2") => `(tactic| try simp -implicitDefEqProofs only [st0, st1, st2, st3, st4, evS, ev, evO, dSeqS, dSkip, dExpr, dRet, dRetN, dIfS, dAsg, dC, dNil, dCons, consV, dTup, dLst, dB1, dB2, dChain, dIte, dAnd, dOr, dNot, dCall,
  dCutL, dCutH, dCutB, dM1, dIx, dSeq, dSrc, dLc, dFor, dPar2, oCons, oNil, wipeE, opF, cmF, u1F, u2F, m1F, isiN, rngF, Tgt.put, List.set, List.headD_cons, List.tail_cons,
  bnd_ok, bnd_bad, bnd_exc, okv_s, onBl_b, onI_i, onS_s, onT_s, tst_b, tstS_b, okE_s, outF_rt, outF_nx, outF_exc, seqK_nx, seqK_rt, okL_s, asL_l, okN0, okN1, okN2, okN3, okN4, okN5, v0, v1, v2, v3, v4, v5, v6, v7, v8, v9, v10, v11,
  isi1, isi2, isi3, isi4, isi5, iss1, iss2, iss3, iss4, iss5, ist1, ist2, ist3, ist4, ist5, isn1, isn2, isn3, isb5, len_t, len_l, lt_i, le_i, gt_i, ge_i, eq_i, ne_i, eq_s, ne_s, lt_s, add_i, sub_i, neg_i, is_non, is_t, is_s, is_i, isn_non, isn_t, isn_s, isn_i,
  at_t0, at_t1, at_t2, at_t3, at_t4, ixt, ixl, ixs, sq_t, sq_l, sq_s, tup_l, in_c, nin_c, and_bl, or_bl, ite_ok, ret_ok, guard_ok, ib_and, ib_or, ib_f, nc0, nc1, nc2, nc3, nc4, nc5, nc6, Int.reduceLE, Int.reduceLT, Int.reduceEq, decide_true, decide_false, Int.le_refl, Int.lt_irrefl,
  List.length_cons, List.length_nil, List.replicate, List.cons_append, List.nil_append, Nat.add_zero, Nat.zero_add, Nat.reduceAdd, Nat.reduceSub, Option.getD_some, Option.getD_none, Bool.not_false, Bool.not_true, Bool.true_or, Bool.false_or, Bool.true_and, Bool.false_and, Bool.and_true, Bool.or_true, Bool.or_false, if_true, if_false, Bool.false_eq_true, ite_true, ite_false])
/-! ### drawn machines -/
theorem risL_of {α : Type} {lt : α → α → Bool} : ∀ {w : List α}, w.Pairwise (fun a b => lt a b = true) → risL lt w = true
  | [], _ => rfl
  | [a], _ => rfl
  | a :: b :: r, h => by
    have h2 := risL_of (List.pairwise_cons.mp h).2
    have h1 := (List.pairwise_cons.mp h).1 b (List.mem_cons_self ..)
    unfold risL at h2 ⊢
    show (lt a b && _) = true
    rw [h1, Bool.true_and]
    exact h2
abbrev Stp2 := List (Nat × Nat)
theorem b_step (n : Nat) {S : Store} {c m : Nat} (h : Wat S c m) (hm : m ≤ 40000) {k many : Nat} (h1 : 1 ≤ many) (h2 : many ≤ 12) (x : Nat) {l : Stp2} (hl : l.length ≤ 100) {a1 a2 a3 a5 : Sl} :
    ∃ (o : Option Nat) (S' : Store), evS (Pn (n + 1)) b61_0 [.val (.cell c), a1, a2, a3, .val (.int (many : Int)), a5, .own (.lst (l.map eStep)), .val (.str [x])] S =
      .ok (.nx [.val (.cell c), a1, a2, a3, .val (.int (many : Int)), a5, .own (.lst ((l ++ (o.map fun d => (x, d)).toList).map eStep)), .val (.str [x])]) S' ∧ (∀ d, o = some d → d < many) ∧ Wat S' c (m + 2) := by
  obtain ⟨i, S1, e1, hi, w1⟩ := d_draw n h (by omega) (many := 4) (by decide) (by decide)
  by_cases hi0 : (0 : Int) < (i : Int)
  · obtain ⟨d, S2, e2, hd, w2⟩ := d_draw n w1 (by omega) (many := many) (by omega) (by omega)
    refine ⟨some d, S2, ?_, fun e he => by cases he; exact hd, w2⟩
    unfold b61_0
    walk_at "es"
    rw [show (PV.int 4) = .int ((4 : Nat) : Int) from rfl, e1]
    walk_at "es2"
    rw [decide_eq_true hi0]
    walk_at "es2"
    rw [app_at (i := 6) (l := l.map eStep) (v := eStep (x, d)) (S1 := S2) rfl (by
      walk_at "es"
      rw [e2]
      walk_at "es2"
      rfl) (by rw [List.length_map]; omega)]
    walk_at "es2"
    rw [List.map_append]
    rfl
  · refine ⟨none, S1, ?_, (fun e he => by cases he), wat_mono w1 (by omega)⟩
    unfold b61_0
    walk_at "es"
    rw [show (PV.int 4) = .int ((4 : Nat) : Int) from rfl, e1]
    walk_at "es2"
    rw [decide_eq_false hi0]
    walk_at "es2"
    simp
abbrev Pl2 := Bool × List (Nat × Nat)
theorem b_place (n : Nat) {S : Store} {c m : Nat} (h : Wat S c m) (hm : m ≤ 30000) {k many : Nat} (hk : k ≤ 12) (h1 : 1 ≤ many) (h2 : many ≤ 12) {l : List Pl2} (hl : l.length ≤ 100) {a2 a3 a6 a7 : Sl} :
    ∃ (p : Pl2) (g : Sl × Sl) (S' : Store), evS (Pn (n + 1)) b61_1 [.val (.cell c), .val (.int (k : Int)), a2, a3, .val (.int (many : Int)), .own (.lst (l.map ePlace)), a6, a7] S =
      .ok (.nx [.val (.cell c), .val (.int (k : Int)), a2, a3, .val (.int (many : Int)), .own (.lst ((l ++ [p]).map ePlace)), g.1, g.2]) S' ∧ (plB k many p = true ∧ plOk' p) ∧ Wat S' c (m + 30) := by
  obtain ⟨⟨g7, st⟩, S2, e2, ⟨m2, w2, b2⟩, hsub, hst⟩ := for_g (t := .name 7) (db := evS (Pn (n + 1)) b61_0) (fun x : Nat => PV.str [x]) (fun g : Sl × Stp2 => [.val (.cell c), .val (.int (k : Int)), a2, a3, .val (.int (many : Int)), .own (.lst (l.map ePlace)), .own (.lst (g.2.map eStep)), g.1])
    (fun xs g S' => (∃ m', Wat S' c m' ∧ m' + 2 * xs.length ≤ m + 24) ∧ (g.2.map (·.1) ++ xs).Sublist (lets (k : Int)) ∧ ∀ s ∈ g.2, s.2 < many) (fun x xs g S' ⟨⟨m', hw, hb⟩, hs, hlt⟩ => by
      rw [List.length_cons] at hb
      have hg : g.2.length ≤ 100 := by
        have := hs.length_le
        rw [lets_len hk, List.length_append, List.length_map] at this
        omega
      obtain ⟨o, S3, e3, ho, w3⟩ := b_step n hw (by omega) (k := k) h1 h2 x (l := g.2) hg (a1 := .val (.int (k : Int))) (a2 := a2) (a3 := a3) (a5 := .own (.lst (l.map ePlace)))
      refine ⟨_, (.val (.str [x]), g.2 ++ (o.map fun d => (x, d)).toList), S3, rfl, e3, ⟨m' + 2, w3, by omega⟩, ?_, ?_⟩
      · cases o with
        | none => simpa using ((List.sublist_cons_self x xs).append_left (g.2.map (·.1))).trans hs
        | some d => simpa using hs
      · intro s hm
        rcases List.mem_append.mp hm with hm | hm
        · exact hlt s hm
        · cases o with
          | none => cases hm
          | some d =>
            simp at hm
            rw [hm]
            exact ho d rfl) (lets (k : Int)) (a7, []) S ⟨⟨m, h, by rw [lets_len hk]; omega⟩, by simp, fun _ h => by cases h⟩
  dsimp only at e2
  simp only [List.map_nil] at e2
  replace hsub : (st.map (·.1)).Sublist (lets (k : Int)) := by simpa using hsub
  replace hst : ∀ s ∈ st, s.2 < many := hst
  replace b2 : m2 ≤ m + 24 := by simpa using b2
  obtain ⟨i, S4, e4, hi, w4⟩ := d_draw n w2 (by omega) (many := 2) (by decide) (by decide)
  refine ⟨(decide ((i : Int) = 0), st), (.own (.lst (st.map eStep)), g7), S4, ?_, ⟨?_, ?_⟩, wat_mono w4 (by omega)⟩
  · unfold b61_1
    walk_at "es"
    rw [own_l (i := 6) (l := []) (S1 := S) (by walk_at "es")]
    walk_at "es2"
    rw [show vCut (.str [97, 98, 99, 100, 101, 102, 103, 104, 105, 106, 107, 108]) none (some (k : Int)) = some (.str (lets (k : Int))) from rfl]
    walk_at "es2"
    unfold Tg.signs
    rw [e2]
    walk_at "es2"
    rw [app_at (i := 5) (l := l.map ePlace) (v := ePlace (decide ((i : Int) = 0), st)) (S1 := S4) rfl (by
      walk_at "es"
      rw [show (PV.int 2) = .int ((2 : Nat) : Int) from rfl, e4]
      walk_at "es2"
      rw [bor_at (i := 6) (v := .lst (st.map eStep)) rfl]
      walk_at "es2"
      rfl) (by rw [List.length_map]; omega)]
    walk_at "es2"
    rw [List.map_append]
    rfl
  · unfold plB
    rw [Bool.and_eq_true]
    constructor
    · refine List.all_eq_true.mpr fun s hs => ?_
      unfold stB
      rw [decide_eq_true (hsub.subset (List.mem_map_of_mem hs)), decide_eq_true (by have := hst s hs; omega)]; rfl
    · refine risL_of ((alpha_rise.sublist (hsub.trans (lets_sub hk))).imp fun hab => decide_eq_true (one_lt hab))
  · refine ⟨?_, fun s hs => ⟨alpha_abc _ ((hsub.trans (lets_sub hk)).subset (List.mem_map_of_mem hs)), by have := hst s hs; omega⟩⟩
    have := hsub.length_le
    rw [lets_len hk, List.length_map] at this
    show st.length ≤ 12
    omega
structure MacD (k most : Nat) (l : List Pl2) : Prop where
  b : macB k l = true
  ok : ∀ p ∈ l, plOk' p
  len : l.length ≤ most
theorem isO_l {l : List PV} : isO (.lst l) = true := rfl
theorem s_lmachine (n : Nat) {S : Store} {c m : Nat} (h : Wat S c m) (hm : m ≤ 20000) {k : Nat} (h1 : 1 ≤ k) (hk : k ≤ 12) {most : Nat} (hmo : 2 ≤ most ∧ most ≤ 12) :
    ∃ (l : List Pl2) (S' : Store), C (n + 2) i_law_machine [.cell c, .int (k : Int), .int (most : Int)] S = .ok (eMac (k, l)) S' ∧ MacD k most l ∧ Wat S' c (m + 400) := by
  obtain ⟨i, S1, e1, hi, w1⟩ := d_draw n h (by omega) (many := most + 1) (by omega) (by omega)
  obtain ⟨j, S2, e2, hj, w2⟩ := d_draw n w1 (by omega) (many := 4) (by decide) (by decide)
  obtain ⟨many, hmany, hle⟩ : ∃ many : Nat, vIdx (.lst [.int (i : Int), .int (most : Int), .int (most : Int), .int ((most : Int) - 1)]) (.int (j : Int)) = some (.int (many : Int)) ∧ many ≤ most := by
    rcases (by omega : j = 0 ∨ j = 1 ∨ j = 2 ∨ j = 3) with rfl | rfl | rfl | rfl
    · exact ⟨i, rfl, by omega⟩
    · exact ⟨most, rfl, by omega⟩
    · exact ⟨most, rfl, by omega⟩
    · refine ⟨most - 1, ?_, by omega⟩
      rw [show (((most - 1 : Nat)) : Int) = (most : Int) - 1 by omega]; rfl
  obtain ⟨⟨g3, g6, g7, l⟩, S3, e3, ⟨m3, w3, b3⟩, hlen, hok⟩ := for_g (t := .name 3) (db := evS (Pn (n + 1)) b61_1) (fun x : Nat => PV.int (x : Int)) (fun g : Sl × Sl × Sl × List Pl2 => [.val (.cell c), .val (.int (k : Int)), .val (.int (most : Int)), g.1, .val (.int (many : Int)), .own (.lst (g.2.2.2.map ePlace)), g.2.1, g.2.2.1])
    (fun xs g S' => (∃ m', Wat S' c m' ∧ m' + 30 * xs.length ≤ m + 2 + 360) ∧ (g.2.2.2.length + xs.length = many) ∧ ∀ p ∈ g.2.2.2, plB k many p = true ∧ plOk' p) (fun x xs g S' ⟨⟨m', hw, hb⟩, hl, hp⟩ => by
      rw [List.length_cons] at hb hl
      obtain ⟨p, g', S4, e4, hp', w4⟩ := b_place n hw (by omega) (k := k) hk (many := many) (by omega) (by omega) (l := g.2.2.2) (by omega) (a2 := .val (.int (most : Int))) (a3 := .val (.int (x : Int))) (a6 := g.2.1) (a7 := g.2.2.1)
      refine ⟨_, (.val (.int (x : Int)), g'.1, g'.2, g.2.2.2 ++ [p]), S4, rfl, e4, ⟨m' + 30, w4, by omega⟩, by simp; omega, fun y hy => ?_⟩
      rcases List.mem_append.mp hy with hy | hy
      · exact hp y hy
      · rw [List.mem_singleton.mp hy]; exact hp') (List.range many) (.no, .no, .no, []) S2 ⟨⟨m + 2, w2, by rw [List.length_range]; omega⟩, by simp, fun _ h => by cases h⟩
  dsimp only at e3
  simp only [List.map_nil] at e3
  replace hlen : l.length = many := by simpa using hlen
  replace b3 : m3 ≤ m + 362 := by simpa using b3
  replace hok : ∀ p ∈ l, plB k many p = true ∧ plOk' p := hok
  refine ⟨l, S3, ?_, ⟨?_, fun p hp => (hok p hp).2, by omega⟩, wat_mono w3 (by omega)⟩
  · rw [cc h61 (n + 1) _ S rfl]
    unfold c61
    walk_at "es"
    rw [show ((most : Int) + 1) = ((most + 1 : Nat) : Int) by omega, e1]
    walk_at "es2"
    rw [max_i]
    rw [show (if (most : Int) - 1 > 1 then (most : Int) - 1 else 1) = (most : Int) - 1 by split <;> omega]
    walk_at "es2"
    rw [show (PV.int 4) = .int ((4 : Nat) : Int) from rfl, e2]
    walk_at "es2"
    rw [hmany]
    walk_at "es2"
    rw [isO_l]
    walk_at "es2"
    rw [rng_n many (by omega)]
    walk_at "es2"
    rw [e3]
    walk_at "es2"
    rw [bor_at (i := 5) (v := .lst (l.map ePlace)) rfl]
    walk_at "es2"
    rfl
  · unfold macB isN
    rw [decide_eq_true (by omega), decide_eq_true (by omega), hlen]
    exact List.all_eq_true.mpr fun p hp => (hok p hp).1
end K73
end
section
set_option Elab.async false
set_option linter.all false
set_option autoImplicit false
set_option maxRecDepth 100000
set_option maxHeartbeats 0
namespace K73
open PySem PySem.Spec PyProof.Rows L2 Tg
local macro_rules | `(tactic| walk_at "es") => `(tactic| try simp only [st0, st1, st2, st3, st4, evS, ev, evO, dSeqS, dSkip, dExpr, dRet, dRetN, dIfS, dAsg, dC, dNil, dCons, consV, dTup, dLst, dB1, dB2, dChain, dIte, dAnd, dOr, dNot, dCall,
  dCutL, dCutH, dCutB, dM1, dIx, dSeq, dSrc, dLc, dFor, dPar2, oCons, oNil, wipeE, opF, cmF, u1F, u2F, m1F, isiN, rngF, Tgt.put, List.set, List.headD_cons, List.tail_cons,
  bnd_ok, bnd_bad, bnd_exc, okv_s, onBl_b, onI_i, onS_s, onT_s, tst_b, tstS_b, okE_s, outF_rt, outF_nx, outF_exc, seqK_nx, seqK_rt, okL_s, asL_l, okN0, okN1, okN2, okN3, okN4, okN5, v0, v1, v2, v3, v4, v5, v6, v7, v8, v9, v10, v11,
  isi1, isi2, isi3, isi4, isi5, iss1, iss2, iss3, iss4, iss5, ist1, ist2, ist3, ist4, ist5, isn1, isn2, isn3, isb5, len_t, len_l, lt_i, le_i, gt_i, ge_i, eq_i, ne_i, eq_s, ne_s, lt_s, add_i, sub_i, neg_i, is_non, is_t, is_s, is_i, isn_non, isn_t, isn_s, isn_i,
  at_t0, at_t1, at_t2, at_t3, at_t4, ixt, ixl, ixs, sq_t, sq_l, sq_s, tup_l, in_c, nin_c, and_bl, or_bl, ite_ok, ret_ok, guard_ok, ib_and, ib_or, ib_f, nc0, nc1, nc2, nc3, nc4, nc5, nc6, Int.reduceLE, Int.reduceLT, Int.reduceEq, decide_true, decide_false, Int.le_refl, Int.lt_irrefl,
  List.length_cons, List.length_nil, List.replicate, List.cons_append, List.nil_append, Nat.add_zero, Nat.zero_add, Nat.reduceAdd, Nat.reduceSub, Option.getD_some, Option.getD_none, Bool.not_false, Bool.not_true, Bool.true_or, Bool.false_or, Bool.true_and, Bool.false_and, Bool.and_true, Bool.or_true, Bool.or_false, if_true, if_false, Bool.false_eq_true, ite_true, ite_false])
local macro_rules | `(tactic| walk_at "es2") => `(tactic| try simp -implicitDefEqProofs only [st0, st1, st2, st3, st4, evS, ev, evO, dSeqS, dSkip, dExpr, dRet, dRetN, dIfS, dAsg, dC, dNil, dCons, consV, dTup, dLst, dB1, dB2, dChain, dIte, dAnd, dOr, dNot, dCall,
  dCutL, dCutH, dCutB, dM1, dIx, dSeq, dSrc, dLc, dFor, dPar2, oCons, oNil, wipeE, opF, cmF, u1F, u2F, m1F, isiN, rngF, Tgt.put, List.set, List.headD_cons, List.tail_cons,
  bnd_ok, bnd_bad, bnd_exc, okv_s, onBl_b, onI_i, onS_s, onT_s, tst_b, tstS_b, okE_s, outF_rt, outF_nx, outF_exc, seqK_nx, seqK_rt, okL_s, asL_l, okN0, okN1, okN2, okN3, okN4, okN5, v0, v1, v2, v3, v4, v5, v6, v7, v8, v9, v10, v11,
  isi1, isi2, isi3, isi4, isi5, iss1, iss2, iss3, iss4, iss5, ist1, ist2, ist3, ist4, ist5, isn1, isn2, isn3, isb5, len_t, len_l, lt_i, le_i, gt_i, ge_i, eq_i, ne_i, eq_s, ne_s, lt_s, add_i, sub_i, neg_i, is_non, is_t, is_s, is_i, isn_non, isn_t, isn_s, isn_i,
  at_t0, at_t1, at_t2, at_t3, at_t4, ixt, ixl, ixs, sq_t, sq_l, sq_s, tup_l, in_c, nin_c, and_bl, or_bl, ite_ok, ret_ok, guard_ok, ib_and, ib_or, ib_f, nc0, nc1, nc2, nc3, nc4, nc5, nc6, Int.reduceLE, Int.reduceLT, Int.reduceEq, decide_true, decide_false, Int.le_refl, Int.lt_irrefl,
  List.length_cons, List.length_nil, List.replicate, List.cons_append, List.nil_append, Nat.add_zero, Nat.zero_add, Nat.reduceAdd, Nat.reduceSub, Option.getD_some, Option.getD_none, Bool.not_false, Bool.not_true, Bool.true_or, Bool.false_or, Bool.true_and, Bool.false_and, Bool.and_true, Bool.or_true, Bool.or_false, if_true, if_false, Bool.false_eq_true, ite_true, ite_false])
/-! ### drawn rules -/
abbrev Ch := List Nat × List Nat
def eDc (D : List Ch) : List (KP × PV) := D.map fun d => (KP.s d.1, PV.str d.2)
def putC (D : List Ch) (a t : List Nat) : List Ch := if (D.any fun d => decide (d.1 = a)) = true then D.map (fun d => if d.1 = a then (d.1, t) else d) else D ++ [(a, t)]
theorem putC_put (D : List Ch) (a t : List Nat) : putL (eDc D) (.s a) (.str t) = eDc (putC D a t) := by
  unfold putL putC
  have h : ((eDc D).any fun kv => decide (kv.1 = KP.s a)) = D.any fun d => decide (d.1 = a) := by
    unfold eDc
    rw [List.any_map]
    congr 1
    funext d
    simp
  rw [h]
  split
  · unfold eDc
    rw [List.map_map, List.map_map]
    refine List.map_congr_left fun d _ => ?_
    by_cases q : d.1 = a
    · simp [q]
    · simp [q]
  · unfold eDc
    rw [List.map_append]; rfl
theorem putC_keys (D : List Ch) (a t : List Nat) : (putC D a t).map (·.1) = if a ∈ D.map (·.1) then D.map (·.1) else D.map (·.1) ++ [a] := by
  unfold putC
  by_cases h : (D.any fun d => decide (d.1 = a)) = true
  · rw [if_pos h, if_pos, List.map_map]
    · refine List.map_congr_left fun d _ => ?_
      by_cases q : d.1 = a
      · simp [q]
      · simp [q]
    · obtain ⟨d, hd, e⟩ := List.any_eq_true.mp h
      exact List.mem_map.mpr ⟨d, hd, of_decide_eq_true e⟩
  · rw [if_neg h, if_neg, List.map_append]
    · rfl
    · intro hm
      obtain ⟨d, hd, e⟩ := List.mem_map.mp hm
      exact h (List.any_eq_true.mpr ⟨d, hd, decide_eq_true e⟩)
theorem putC_nodup {D : List Ch} {a t : List Nat} (h : (D.map (·.1)).Nodup) : ((putC D a t).map (·.1)).Nodup := by
  rw [putC_keys]
  split
  · exact h
  · rename_i hn
    exact List.nodup_append.mpr ⟨h, by simp, fun x hx y hy z => hn (by rw [List.mem_singleton.mp hy] at z; rw [← z]; exact hx)⟩
theorem putC_mem {D : List Ch} {a t : List Nat} {P : Ch → Prop} (h : ∀ d ∈ D, P d) (hn : P (a, t)) : ∀ d ∈ putC D a t, P d := by
  intro d hd
  unfold putC at hd
  split at hd
  · obtain ⟨e, he, rfl⟩ := List.mem_map.mp hd
    split
    · rename_i q
      rw [q]; exact hn
    · exact h e he
  · rcases List.mem_append.mp hd with hd | hd
    · exact h d hd
    · rw [List.mem_singleton.mp hd]; exact hn
theorem putC_len (D : List Ch) (a t : List Nat) : (putC D a t).length ≤ D.length + 1 := by
  unfold putC
  split <;> simp
theorem look_dc {D : List Ch} (h : (D.map (·.1)).Nodup) : ∀ d ∈ D, dLook (.s d.1) (eDc D) = some (.str d.2) := by
  induction D with
  | nil => intro d hd; cases hd
  | cons x D ih =>
    intro d hd
    rw [List.map_cons, List.nodup_cons] at h
    show (if KP.s x.1 = KP.s d.1 then some (PV.str x.2) else dLook (.s d.1) (eDc D)) = _
    rcases List.mem_cons.mp hd with rfl | hd
    · rw [if_pos rfl]
    · rw [if_neg, ih h.2 d hd]
      intro q
      injection q with q
      exact h.1 (by rw [q]; exact List.mem_map_of_mem hd)
/-! sorted -/
def chD (c : Ch) : PyData := .tuple [.str ⟨c.1.toArray⟩, .str ⟨c.2.toArray⟩]
def leC (a b : Ch) : Bool := !PySem.W.dataLt (chD b) (chD a)
theorem toDs_ch : ∀ D : List Ch, toDs (D.map eCh) = some (D.map chD)
  | [] => rfl
  | d :: D => by
    rw [List.map_cons, List.map_cons]
    unfold toDs
    rw [toDs_ch D]
    rfl
theorem zip_two : ∀ D : List Ch, (D.map eCh).zip (D.map chD) = D.map fun d => (eCh d, chD d)
  | [] => rfl
  | d :: D => by rw [List.map_cons, List.map_cons, List.zip_cons_cons, zip_two D, List.map_cons]
theorem sort_ch (D : List Ch) : uSorted (.lst (D.map eCh)) = some (.lst ((D.mergeSort leC).map eCh)) := by
  unfold uSorted
  simp only
  rw [toDs_ch]
  simp only
  rw [if_pos]
  · unfold sortD
    rw [zip_two, ← List.map_mergeSort (f := fun d => (eCh d, chD d)) (r := leC) (s := leD) (fun _ _ _ _ => rfl), List.map_map]
    rfl
  · unfold sortOk
    rw [Bool.and_eq_true, Bool.and_eq_true, Bool.or_eq_true]
    refine ⟨?_, .inl ?_, ?_⟩
    · refine List.all_eq_true.mpr fun x hx => List.all_eq_true.mpr fun y hy => ?_
      obtain ⟨a, _, rfl⟩ := List.mem_map.mp hx
      obtain ⟨b, _, rfl⟩ := List.mem_map.mp hy
      simp [chD, PySem.W.alike, PySem.W.alikeAll]
    · refine List.all_eq_true.mpr fun x hx => ?_
      obtain ⟨a, _, rfl⟩ := List.mem_map.mp hx
      rfl
    · refine List.all_eq_true.mpr fun x hx => ?_
      obtain ⟨a, _, rfl⟩ := List.mem_map.mp hx
      simp [chD, PyData.depth, PyData.depthAll]
theorem leC_tr (a b c : Ch) (h1 : leC a b = true) (h2 : leC b c = true) : leC a c = true := by
  unfold leC PySem.W.dataLt at *
  rw [Bool.not_eq_true'] at *
  cases q : PyProof.Rows.lexLt itemOrd (PySem.W.keyToks (chD c)) (PySem.W.keyToks (chD a)) with
  | false => rfl
  | true =>
    rcases PyProof.Rows.lex_negTrans _ (PySem.W.keyToks (chD b)) _ q with z | z
    · rw [z] at h2; cases h2
    · rw [z] at h1; cases h1
theorem leC_tot (a b : Ch) : (leC a b || leC b a) = true := by
  unfold leC PySem.W.dataLt
  cases q : PyProof.Rows.lexLt itemOrd (PySem.W.keyToks (chD b)) (PySem.W.keyToks (chD a)) with
  | false => rfl
  | true =>
    cases q2 : PyProof.Rows.lexLt itemOrd (PySem.W.keyToks (chD a)) (PySem.W.keyToks (chD b)) with
    | false => rfl
    | true =>
      have := PyProof.Rows.lex_trans _ _ _ q q2
      rw [PyProof.Rows.lex_irrefl] at this
      cases this
theorem leC_lt {a b : Ch} (h : leC a b = true) (hne : a.1 ≠ b.1) : a.1 < b.1 := by
  unfold leC chD at h
  rw [PySem.W.dataLt_pair (by simp [PySem.W.alike]) (by simp [PySem.W.alike])] at h
  have he : PyData.eqv (.str ⟨b.1.toArray⟩) (.str ⟨a.1.toArray⟩) = false := by
    simp only [PyData.eqv]
    rw [beq_eq_false_iff_ne]
    intro z
    exact hne (strL.mp z).symm
  rw [he, if_neg (by decide), PySem.W.dataLt_str] at h
  simp at h
  exact Std.lt_of_le_of_ne h hne
theorem rise_ch {D : List Ch} (h : (D.map (·.1)).Nodup) : risL (fun a b => decide (a < b)) ((D.mergeSort leC).map (·.1)) = true := by
  refine risL_of ?_
  rw [List.pairwise_map]
  have hp := List.pairwise_mergeSort leC_tr leC_tot D
  have hn : ((D.mergeSort leC).map (·.1)).Nodup := ((List.mergeSort_perm D leC).map (·.1)).nodup_iff.mpr h
  have hn2 : (D.mergeSort leC).Pairwise fun a b => a.1 ≠ b.1 := List.pairwise_map.mp hn
  exact (hp.and hn2).imp fun ⟨h1, h2⟩ => decide_eq_true (leC_lt h1 h2)
theorem put_own {i : Nat} {dv dk : Den} {ρ : Tg.Env} {S S1 S2 : Store} {D : List Ch} {a t : List Nat} (h0 : look ρ i = .own (.dct (eDc D))) (h1 : dv ρ S = .ok (.str t) S1) (h2 : dk ρ S1 = .ok (.str a) S2) (hl : D.length ≤ 100) :
    dPut i dv dk ρ S = .ok (.nx (ρ.set i (.own (.dct (eDc (putC D a t)))))) S2 := by
  unfold dPut
  rw [h1, bnd_ok, h0, show isSet (.own (.dct (eDc D))) = true from rfl, if_pos rfl, h2, bnd_ok]
  unfold putK2
  rw [h0]
  unfold putV
  simp only
  rw [if_pos (by unfold eDc; rw [List.length_map]; exact Nat.lt_of_le_of_lt hl (by decide)), putC_put]
  rfl
/-- what a row of changes holds -/
def chP (k : Nat) (c : Ch) : Prop := chB k c = true ∧ chOk' c
structure DcD (k : Nat) (D : List Ch) : Prop where
  nd : (D.map (·.1)).Nodup
  each : ∀ c ∈ D, chP k c
theorem chP_of {k : Nat} (hk : k ≤ 12) {a t : List Nat} (ha : isW k a = true ∧ wOk a ∧ a.length ≤ 1) (ht : isW k t = true ∧ wOk t ∧ t.length ≤ 2) (hne : t ≠ a) : chP k (a, t) := by
  refine ⟨?_, ⟨ha.2.2, ha.2.1⟩, ht.2.2, ht.2.1⟩
  unfold chB
  rw [ha.1, ht.1, decide_eq_true (by have := ha.2.2; show ((a.length : Nat) : Int) ≤ 1; omega), decide_eq_true (by have := ht.2.2; show ((t.length : Nat) : Int) ≤ 2; omega), decide_eq_false (fun z => hne z.symm)]
  rfl
theorem isW_of {k : Nat} {w : List Nat} (h : ∀ c ∈ w, ∃ d, d < k ∧ c = 97 + d) (hk : k ≤ 12) : isW k w = true ∧ wOk w := by
  constructor
  · unfold isW
    refine List.all_eq_true.mpr fun c hc => ?_
    obtain ⟨d, hd, rfl⟩ := h c hc
    exact decide_eq_true (in_lets hd hk)
  · intro c hc
    obtain ⟨d, hd, rfl⟩ := h c hc
    unfold abc
    omega
theorem at_lets {i k : Nat} (h : i < k) (hk : k ≤ 12) : vIdx (.str (lets (k : Int))) (.int (i : Int)) = some (.str [97 + i]) := by
  have key : ∀ k < 13, ∀ i < k, atC (lets ((k : Nat) : Int)) ((i : Nat) : Int) = some (97 + i) := by decide +kernel
  show (if (lets (k : Int)).length ≤ sizeLine then (atC (lets (k : Int)) i).map (fun c => PV.str [c]) else none) = _
  rw [if_pos (by rw [lets_len hk]; exact Nat.le_trans hk (by decide)), key k (by omega) i h]; rfl
theorem b_rule (n : Nat) {S : Store} {c m : Nat} (h : Wat S c m) (hm : m ≤ 40000) {k : Nat} (h1 : 1 ≤ k) (hk : k ≤ 12) {D : List Ch} (hD : DcD k D) (hl : D.length ≤ 50) {a2 a3 a4 a5 a8 a9 a10 : Sl} :
    ∃ (D' : List Ch) (g : Sl × Sl) (S' : Store), evS (Pn (n + 1)) b62_0 [.val (.cell c), .val (.int (k : Int)), a2, a3, a4, a5, .own (.dct (eDc D)), .val (.str (lets (k : Int))), a8, a9, a10] S =
      .ok (.nx [.val (.cell c), .val (.int (k : Int)), a2, a3, a4, a5, .own (.dct (eDc D')), .val (.str (lets (k : Int))), g.1, g.2, a10]) S' ∧ DcD k D' ∧ D'.length ≤ D.length + 1 ∧ Wat S' c (m + 6) := by
  obtain ⟨i, S1, e1, hi, w1⟩ := d_draw n h (by omega) (many := 4) (by decide) (by decide)
  obtain ⟨a, S2, ea, ha, w2⟩ : ∃ (a : List Nat) (S2 : Store), (if decide ((0 : Int) < (i : Int)) = true then (C (n + 1) i_law_draw [.cell c, .int (k : Int)] S1).bnd (fun u S2 => okv (vIdx (.str (lets (k : Int))) u) S2) else .ok (.str []) S1) = .ok (.str a) S2 ∧ (isW k a = true ∧ wOk a ∧ a.length ≤ 1) ∧ Wat S2 c (m + 2) := by
    by_cases hi0 : (0 : Int) < (i : Int)
    · obtain ⟨d, S2, e2, hd, w2⟩ := d_draw n w1 (by omega) (many := k) (by omega) (by omega)
      have := isW_of (k := k) (w := [97 + d]) (fun c hc => ⟨d, hd, by simpa using hc⟩) hk
      refine ⟨[97 + d], S2, ?_, ⟨this.1, this.2, Nat.le_refl _⟩, w2⟩
      rw [decide_eq_true hi0, if_pos rfl, e2, bnd_ok, at_lets hd hk]
      rfl
    · refine ⟨[], S1, ?_, ⟨rfl, (fun _ h => by cases h), by decide⟩, wat_mono w1 (by omega)⟩
      rw [decide_eq_false hi0]; rfl
  obtain ⟨j, S3, e3, hj, w3⟩ := d_draw n w2 (by omega) (many := 3) (by decide) (by decide)
  obtain ⟨zs, S4, e4, z1, z2, ⟨m4, w4, b4⟩⟩ := lc_y (t := .name 10) (tt := dC (.bl true)) (te := dIx (dVar 7) (dCall (C (n + 1)) 57 (dCons (dVar 0) (dCons (dVar 1) dNil)))) (ρ := [.val (.cell c), .val (.int (k : Int)), a2, a3, a4, a5, .own (.dct (eDc D)), .val (.str (lets (k : Int))), .val (.str a), a9, .no])
    (fun x : Nat => PV.int (x : Int)) (fun (_ : Nat) d => PV.str [97 + d]) (fun _ d => d < k) (fun xs S => ∃ m', Wat S c m' ∧ m' + xs.length ≤ m + 3 + 2) (fun x xs S0 ⟨m', hw, hb⟩ => by
      rw [List.length_cons] at hb
      obtain ⟨d, S', e, hd, hw'⟩ := d_draw n hw (by omega) (many := k) (by omega) (by omega)
      refine ⟨_, d, S', rfl, rfl, ?_, hd, m' + 1, hw', by omega⟩
      walk_at "es"
      rw [e]
      walk_at "es2"
      rw [at_lets hd hk]
      walk_at "es2") (List.range j) S3 ⟨m + 3, w3, by rw [List.length_range]; omega⟩
  have hlen : zs.length = j := by
    have := congrArg List.length z1
    rw [List.length_map, List.length_range] at this
    exact this
  let t := zs.map fun z => 97 + z.2
  have ht : isW k t = true ∧ wOk t := isW_of (fun c hc => by
    obtain ⟨z, hz, rfl⟩ := List.mem_map.mp hc
    exact ⟨z.2, z2 z hz, rfl⟩) hk
  have htl : t.length ≤ 2 := by show (zs.map fun z => 97 + z.2).length ≤ 2; rw [List.length_map]; omega
  have ej : mJoin (.str []) (.lst (zs.map fun z => PV.str [97 + z.2])) = some (.str t) := by
    have := join_s (B := 1) (K := 100) (a := []) (ys := t.map fun c => [c]) (fun y hy => by
      obtain ⟨z, _, rfl⟩ := List.mem_map.mp hy
      simp) (by rw [List.length_map]; omega) (by decide)
    rw [joinL_nil, List.map_map, List.map_map] at this
    exact this
  have b4' : m4 ≤ m + 5 := by simpa using b4
  refine ⟨if t = a then D else putC D a t, (.val (.str a), .val (.str t)), S4, ?_, ?_, ?_, wat_mono w4 (by omega)⟩
  · unfold b62_0
    walk_at "es"
    rw [show (PV.int 4) = .int ((4 : Nat) : Int) from rfl, e1]
    walk_at "es2"
    rw [show (if decide ((0 : Int) < (i : Int)) = true then (C (n + 1) 57 [.cell c, .int (k : Int)] S1).bnd (fun u S2 => okv (vIdx (.str (lets (k : Int))) u) S2) else .ok (.str []) S1) = _ from ea]
    walk_at "es2"
    rw [show (PV.int 3) = .int ((3 : Nat) : Int) from rfl, e3]
    walk_at "es2"
    rw [rng_n j (by omega)]
    walk_at "es2"
    rw [lcK_of (by rw [List.length_map, List.length_range]; exact Nat.le_trans (show j ≤ 100 by omega) (by decide)) e4]
    walk_at "es2"
    rw [ej]
    walk_at "es2"
    by_cases q : t = a
    · rw [decide_eq_true q, if_pos q]
      walk_at "es2"
    · rw [decide_eq_false q, if_neg q]
      walk_at "es2"
      rw [put_own (i := 6) (D := D) (a := a) (t := t) (S1 := S4) (S2 := S4) rfl (by walk_at "es") (by walk_at "es") (by omega)]
      walk_at "es2"
  · split
    · exact hD
    · rename_i q
      exact ⟨putC_nodup hD.nd, putC_mem hD.each (chP_of hk ha ⟨ht.1, ht.2, htl⟩ q)⟩
  · split
    · omega
    · exact putC_len _ _ _
theorem dct_eq0 (D : List Ch) : vEq (.dct (eDc D)) (.dct []) = some (.bl D.isEmpty) := by
  show some (PV.bl (eDc D).isEmpty) = _
  cases D <;> rfl
theorem walk_keys {d : Den} {ρ : Tg.Env} {S S1 : Store} {D : List Ch} (h : d ρ S = .ok (.dct (eDc D)) S1) : dWalk .keys d ρ S = .ok (.lst (D.map fun d => PV.str d.1)) S1 := by
  unfold dWalk
  rw [h, bnd_ok]
  show Rs.ok (PV.lst ((eDc D).map fun kv => kV' kv.1)) S1 = _
  unfold eDc
  rw [List.map_map]; rfl
theorem frz_at {i : Nat} {ρ : Tg.Env} {S : Store} {v : PV} (h : look ρ i = .own v) : dFrz i ρ S = .ok (.nx (ρ.set i (.val v))) S := by unfold dFrz; rw [h]
def wayL : List PV := [.str [97, 116, 32, 111, 110, 99, 101], .str [111, 110, 119, 97, 114, 100], .str [98, 97, 99, 107, 119, 97, 114, 100]]
def forL : List PV := [.str [109, 117, 115, 116], .str [109, 97, 121]]
theorem way_at {i : Nat} (h : i < 3) : ∃ w, vIdx (.lst wayL) (.int (i : Int)) = some (.str w) ∧ inF (.str w) ways = true := by
  rcases (by omega : i = 0 ∨ i = 1 ∨ i = 2) with rfl | rfl | rfl
  · exact ⟨_, rfl, by decide⟩
  · exact ⟨_, rfl, by decide⟩
  · exact ⟨_, rfl, by decide⟩
theorem for_at {i : Nat} (h : i < 2) : ∃ w, vIdx (.lst forL) (.int (i : Int)) = some (.str w) ∧ inF (.str w) forces = true := by
  rcases (by omega : i = 0 ∨ i = 1) with rfl | rfl
  · exact ⟨_, rfl, by decide⟩
  · exact ⟨_, rfl, by decide⟩
theorem isO_d {l : List (KP × PV)} : isO (.dct l) = true := rfl
structure RuleD (k : Nat) (r : Rule) : Prop where
  b : ruleB k r = true
  gd : r.gd
theorem s_any_rule (n : Nat) {S : Store} {c m : Nat} (h : Wat S c m) (hm : m ≤ 10000) {k : Nat} (h1 : 1 ≤ k) (hk : k ≤ 12) :
    ∃ (r : Rule) (S' : Store), C (n + 5) i_law_any_rule [.cell c, .int (k : Int)] S = .ok (eRule r) S' ∧ RuleD k r ∧ Wat S' c (m + 1050) := by
  obtain ⟨i, S1, e1, hi, w1⟩ := d_draw (n + 3) h (by omega) (many := 3) (by decide) (by decide)
  obtain ⟨⟨g2, g8, g9, D0⟩, S2, e2, ⟨m2, w2, b2⟩, hD0, hl0⟩ := for_g (t := .name 2) (db := evS (Pn (n + 4)) b62_0) (fun x : Nat => PV.int (x : Int)) (fun g : Sl × Sl × Sl × List Ch => [.val (.cell c), .val (.int (k : Int)), g.1, .no, .no, .no, .own (.dct (eDc g.2.2.2)), .val (.str (lets (k : Int))), g.2.1, g.2.2.1, .no])
    (fun xs g S' => (∃ m', Wat S' c m' ∧ m' + 6 * xs.length ≤ m + 1 + 18) ∧ DcD k g.2.2.2 ∧ g.2.2.2.length + xs.length ≤ 3) (fun x xs g S' ⟨⟨m', hw, hb⟩, hd, hl⟩ => by
      rw [List.length_cons] at hb hl
      obtain ⟨D', g', S3, e3, hD', hl', w3⟩ := b_rule (n + 3) hw (by omega) h1 hk (D := g.2.2.2) hd (by omega) (a2 := .val (.int (x : Int))) (a3 := .no) (a4 := .no) (a5 := .no) (a8 := g.2.1) (a9 := g.2.2.1) (a10 := .no)
      exact ⟨_, (.val (.int (x : Int)), g'.1, g'.2, D'), S3, rfl, e3, ⟨m' + 6, w3, by omega⟩, hD', by show D'.length + xs.length ≤ 3; omega⟩) (List.range (1 + i)) (.no, .no, .no, []) S1 ⟨⟨m + 1, w1, by rw [List.length_range]; omega⟩, ⟨List.nodup_nil, fun _ h => by cases h⟩, by simp; omega⟩
  dsimp only at e2
  replace hD0 : DcD k D0 := hD0
  replace hl0 : D0.length ≤ 3 := by simpa using hl0
  replace b2 : m2 ≤ m + 19 := by simpa using b2
  let D : List Ch := if D0.isEmpty = true then [([97], [])] else D0
  have hD : DcD k D := by
    show DcD k (if D0.isEmpty = true then [([97], [])] else D0)
    split
    · refine ⟨by simp, fun c hc => ?_⟩
      rw [List.mem_singleton.mp hc]
      have a := isW_of (k := k) (w := [97]) (fun c hc => ⟨0, h1, by simpa using hc⟩) hk
      exact chP_of hk ⟨a.1, a.2, Nat.le_refl _⟩ ⟨rfl, (fun _ h => by cases h), by decide⟩ (by simp)
    · exact hD0
  have hDl : 1 ≤ D.length ∧ D.length ≤ 3 := by
    show 1 ≤ (if D0.isEmpty = true then [([97], [])] else D0).length ∧ (if D0.isEmpty = true then [([97], [])] else D0).length ≤ 3
    split
    · decide
    · rename_i q
      cases D0 with
      | nil => exact absurd rfl q
      | cons a r => exact ⟨by simp, hl0⟩
  obtain ⟨p, S3, e3, hp, w3⟩ := s_pattern n w2 (by omega) h1 hk .left (rows := 3) (most := 3) (by decide) (by decide)
  obtain ⟨q, S4, e4, hq, w4⟩ := s_pattern n w3 (by omega) h1 hk .right (rows := 3) (most := 3) (by decide) (by decide)
  obtain ⟨iw, S5, e5, hiw, w5⟩ := d_draw (n + 3) w4 (by omega) (many := 3) (by decide) (by decide)
  obtain ⟨jf, S6, e6, hjf, w6⟩ := d_draw (n + 3) w5 (by omega) (many := 2) (by decide) (by decide)
  obtain ⟨way, ew, hway⟩ := way_at hiw
  obtain ⟨force, ef, hforce⟩ := for_at hjf
  have hperm := List.mergeSort_perm D leC
  have hmem : ∀ c ∈ D.mergeSort leC, chP k c := fun c hc => hD.each c (hperm.mem_iff.mp hc)
  have hlen : (D.mergeSort leC).length = D.length := hperm.length_eq
  refine ⟨⟨D.mergeSort leC, p, q, way, force⟩, S6, ?_, ⟨?_, ?_⟩, wat_mono w6 (by omega)⟩
  · rw [cc h62 (n + 4) _ S rfl]
    unfold c62
    walk_at "es"
    rw [show vCut (.str [97, 98, 99, 100, 101, 102, 103, 104, 105, 106, 107, 108]) none (some (k : Int)) = some (.str (lets (k : Int))) from rfl]
    walk_at "es2"
    rw [isO_d]
    walk_at "es2"
    rw [show (PV.int 3) = .int ((3 : Nat) : Int) from rfl, e1]
    walk_at "es2"
    rw [show ((1 : Int) + i) = ((1 + i : Nat) : Int) by omega, rng_n (1 + i) (by omega)]
    walk_at "es2"
    rw [show ([] : List (KP × PV)) = eDc [] from rfl, e2]
    walk_at "es2"
    rw [bor_at (i := 6) (v := .dct (eDc D0)) rfl]
    walk_at "es2"
    rw [show eDc [] = [] from rfl, dct_eq0]
    walk_at "es2"
    have eput : (if D0.isEmpty = true then (dPut 6 (dC (.str [])) (dC (.str [97])) [.val (.cell c), .val (.int (k : Int)), g2, .no, .no, .no, .own (.dct (eDc D0)), .val (.str (lets (k : Int))), g8, g9, .no] S2).bnd (seqK dSkip) else Rs.ok (Fl.nx [.val (.cell c), .val (.int (k : Int)), g2, .no, .no, .no, .own (.dct (eDc D0)), .val (.str (lets (k : Int))), g8, g9, .no]) S2)
        = Rs.ok (Fl.nx [.val (.cell c), .val (.int (k : Int)), g2, .no, .no, .no, .own (.dct (eDc D)), .val (.str (lets (k : Int))), g8, g9, .no]) S2 := by
      show _ = Rs.ok (Fl.nx [.val (.cell c), .val (.int (k : Int)), g2, .no, .no, .no, .own (.dct (eDc (if D0.isEmpty = true then [([97], [])] else D0))), .val (.str (lets (k : Int))), g8, g9, .no]) S2
      cases D0 with
      | nil =>
        simp only [List.isEmpty_nil, if_true]
        rw [put_own (i := 6) (D := []) (a := [97]) (t := []) (S1 := S2) (S2 := S2) rfl rfl rfl (by decide)]
        rfl
      | cons a r => rfl
    rw [eput]
    walk_at "es2"
    rw [frz_at (i := 6) (v := .dct (eDc D)) rfl]
    walk_at "es2"
    rw [walk_keys (D := D) (S1 := S2) rfl]
    walk_at "es2"
    rw [lc_enc (fun d : Ch => PV.str d.1) eCh (Nat.le_trans hDl.2 (by decide)) (fun d hd => ⟨_, rfl, by walk_at "es", by
      walk_at "es"
      rw [show ixS (.dct (eDc D)) (.str d.1) S2 = dLook (.s d.1) (eDc D) from rfl, look_dc hD.nd d hd]
      walk_at "es2"
      rfl⟩)]
    walk_at "es2"
    rw [sort_ch]
    walk_at "es2"
    have e3' : C (n + 4) 60 [.cell c, .int (k : Int), .str [108, 101, 102, 116], .int 3, .int 3] S2 = .ok (ePat p) S3 := e3
    have e4' : C (n + 4) 60 [.cell c, .int (k : Int), .str [114, 105, 103, 104, 116], .int 3, .int 3] S3 = .ok (ePat q) S4 := e4
    rw [e3']
    walk_at "es2"
    rw [e4']
    walk_at "es2"
    rw [show (PV.int 3) = .int ((3 : Nat) : Int) from rfl, e5]
    walk_at "es2"
    rw [show ([.str [97, 116, 32, 111, 110, 99, 101], .str [111, 110, 119, 97, 114, 100], .str [98, 97, 99, 107, 119, 97, 114, 100]] : List PV) = wayL from rfl, ew]
    walk_at "es2"
    rw [show vIdx (.lst [ePat p, ePat q]) (.int 0) = some (ePat p) from rfl]
    walk_at "es2"
    rw [show vIdx (.lst [ePat p, ePat q]) (.int 1) = some (ePat q) from rfl]
    walk_at "es2"
    rw [show (PV.int 2) = .int ((2 : Nat) : Int) from rfl, e6]
    walk_at "es2"
    rw [show ([.str [109, 117, 115, 116], .str [109, 97, 121]] : List PV) = forL from rfl, ef]
    walk_at "es2"
    rfl
  · unfold ruleB chsB
    rw [show patB k true p = true from hp.b, show patB k false q = true from hq.b, hway, hforce, rise_ch hD.nd]
    rw [show ((D.mergeSort leC).isEmpty) = false from by
      cases z : D.mergeSort leC with
      | nil => rw [z] at hlen; simp at hlen; omega
      | cons _ _ => rfl]
    rw [show (D.mergeSort leC).all (chB k) = true from List.all_eq_true.mpr fun c hc => (hmem c hc).1]
    rfl
  · exact ⟨⟨⟨by show 1 ≤ (D.mergeSort leC).length; omega, by show (D.mergeSort leC).length ≤ 4; omega⟩, fun c hc => (hmem c hc).2⟩, ⟨hp.ok, hp.len, hp.each⟩, ⟨hq.ok, hq.len, hq.each⟩, hway, hforce⟩
end K73
end
section
set_option Elab.async false
set_option linter.all false
set_option autoImplicit false
set_option maxRecDepth 100000
set_option maxHeartbeats 0
namespace K73
open PySem PySem.Spec PyProof.Rows L2 Tg
local macro_rules | `(tactic| walk_at "es") => `(tactic| try simp only [st0, st1, st2, st3, st4, evS, ev, evO, dSeqS, dSkip, dExpr, dRet, dRetN, dIfS, dAsg, dC, dNil, dCons, consV, dTup, dLst, dB1, dB2, dChain, dIte, dAnd, dOr, dNot, dCall,
  dCutL, dCutH, dCutB, dM1, dIx, dSeq, dSrc, dLc, dFor, dPar2, oCons, oNil, wipeE, opF, cmF, u1F, u2F, m1F, isiN, rngF, Tgt.put, List.set, List.headD_cons, List.tail_cons,
  bnd_ok, bnd_bad, bnd_exc, okv_s, onBl_b, onI_i, onS_s, onT_s, tst_b, tstS_b, okE_s, outF_rt, outF_nx, outF_exc, seqK_nx, seqK_rt, okL_s, asL_l, okN0, okN1, okN2, okN3, okN4, okN5, v0, v1, v2, v3, v4, v5, v6, v7, v8, v9, v10, v11,
  isi1, isi2, isi3, isi4, isi5, iss1, iss2, iss3, iss4, iss5, ist1, ist2, ist3, ist4, ist5, isn1, isn2, isn3, isb5, len_t, len_l, lt_i, le_i, gt_i, ge_i, eq_i, ne_i, eq_s, ne_s, lt_s, add_i, sub_i, neg_i, is_non, is_t, is_s, is_i, isn_non, isn_t, isn_s, isn_i,
  at_t0, at_t1, at_t2, at_t3, at_t4, ixt, ixl, ixs, sq_t, sq_l, sq_s, tup_l, in_c, nin_c, and_bl, or_bl, ite_ok, ret_ok, guard_ok, ib_and, ib_or, ib_f, nc0, nc1, nc2, nc3, nc4, nc5, nc6, Int.reduceLE, Int.reduceLT, Int.reduceEq, decide_true, decide_false, Int.le_refl, Int.lt_irrefl,
  List.length_cons, List.length_nil, List.replicate, List.cons_append, List.nil_append, Nat.add_zero, Nat.zero_add, Nat.reduceAdd, Nat.reduceSub, Option.getD_some, Option.getD_none, Bool.not_false, Bool.not_true, Bool.true_or, Bool.false_or, Bool.true_and, Bool.false_and, Bool.and_true, Bool.or_true, Bool.or_false, if_true, if_false, Bool.false_eq_true, ite_true, ite_false])
local macro_rules | `(tactic| walk_at "es2") => `(tactic| try simp -implicitDefEqProofs only [st0, st1, st2, st3, st4, evS, ev, evO, dSeqS, dSkip, dExpr, dRet, dRetN, dIfS, dAsg, dC, dNil, dCons, consV, dTup, dLst, dB1, dB2, dChain, dIte, dAnd, dOr, dNot, dCall,
  dCutL, dCutH, dCutB, dM1, dIx, dSeq, dSrc, dLc, dFor, dPar2, oCons, oNil, wipeE, opF, cmF, u1F, u2F, m1F, isiN, rngF, Tgt.put, List.set, List.headD_cons, List.tail_cons,
  bnd_ok, bnd_bad, bnd_exc, okv_s, onBl_b, onI_i, onS_s, onT_s, tst_b, tstS_b, okE_s, outF_rt, outF_nx, outF_exc, seqK_nx, seqK_rt, okL_s, asL_l, okN0, okN1, okN2, okN3, okN4, okN5, v0, v1, v2, v3, v4, v5, v6, v7, v8, v9, v10, v11,
  isi1, isi2, isi3, isi4, isi5, iss1, iss2, iss3, iss4, iss5, ist1, ist2, ist3, ist4, ist5, isn1, isn2, isn3, isb5, len_t, len_l, lt_i, le_i, gt_i, ge_i, eq_i, ne_i, eq_s, ne_s, lt_s, add_i, sub_i, neg_i, is_non, is_t, is_s, is_i, isn_non, isn_t, isn_s, isn_i,
  at_t0, at_t1, at_t2, at_t3, at_t4, ixt, ixl, ixs, sq_t, sq_l, sq_s, tup_l, in_c, nin_c, and_bl, or_bl, ite_ok, ret_ok, guard_ok, ib_and, ib_or, ib_f, nc0, nc1, nc2, nc3, nc4, nc5, nc6, Int.reduceLE, Int.reduceLT, Int.reduceEq, decide_true, decide_false, Int.le_refl, Int.lt_irrefl,
  List.length_cons, List.length_nil, List.replicate, List.cons_append, List.nil_append, Nat.add_zero, Nat.zero_add, Nat.reduceAdd, Nat.reduceSub, Option.getD_some, Option.getD_none, Bool.not_false, Bool.not_true, Bool.true_or, Bool.false_or, Bool.true_and, Bool.false_and, Bool.and_true, Bool.or_true, Bool.or_false, if_true, if_false, Bool.false_eq_true, ite_true, ite_false])
/-! ### the law's own texts -/
theorem eq_unitL {k : Nat} {xs : List PV} (h : ∀ x ∈ xs, Gd k x) (hk : k ≤ 63 := by decide) : eqB (.lst xs) (.lst []) = some xs.isEmpty := by
  obtain ⟨ds, q1, q2, q3⟩ := gd_list h
  show vEqD _ _ = _
  have e1 : toD (.lst xs) = some (.list ds) := by unfold toD; rw [q1]
  have e2 : toD (.lst []) = some (.list []) := rfl
  unfold vEqD
  rw [e1, e2]
  have : (SeqAt.shaped (.list ds) && SeqAt.shaped (.list [])) = true := by
    have a : SeqAt.shaped (.list ds) = true := by
      show (PyData.canLayAll0 ds && decide (PyData.depthAll ds + 1 ≤ 64)) = true
      rw [q2]; simp; omega
    rw [a]; decide
  simp only [this, if_true]
  cases xs with
  | nil => cases q1; rfl
  | cons x xs =>
    cases ds with
    | nil => unfold toDs at q1; split at q1 <;> (try split at q1) <;> simp at q1
    | cons d ds => rfl
theorem ne_l0 {k : Nat} {xs : List PV} (h : ∀ x ∈ xs, Gd k x) (hk : k ≤ 63 := by decide) : vNe (.lst xs) (.lst []) = some (.bl (!xs.isEmpty)) := by unfold vNe; rw [eq_unitL h hk]; rfl
theorem eq_l0 {k : Nat} {xs : List PV} (h : ∀ x ∈ xs, Gd k x) (hk : k ≤ 63 := by decide) : vEq (.lst xs) (.lst []) = some (.bl xs.isEmpty) := by unfold vEq; rw [eq_unitL h hk]; rfl
theorem wOk_g {w : List Nat} (h : wOk w) (hl : w.length ≤ 500) : strG w := ⟨Nat.le_trans hl (by decide), fun c hc => by have := h c hc; unfold abc at this; omega⟩
theorem iOk_ok {i : Item} (h : iOk i) : i.ok := by
  cases i with
  | edge => trivial
  | one w => exact wOk_g h.2.1 (Nat.le_trans h.2.2 (by decide))
  | may w => exact wOk_g h.2.1 (Nat.le_trans h.2.2 (by decide))
  | any w => exact wOk_g h.2.1 (Nat.le_trans h.2.2 (by decide))
theorem iOk_s {i : Item} (h : iOk i) : itS i := Nat.le_trans (itT_le h) (by decide)
theorem rOk_ok {r : List Item} (h : rOk r) : rowOk r := ⟨Nat.le_trans h.1 (by decide), fun i hi => iOk_ok (h.2 i hi)⟩
theorem pOk_s {p : List (List Item)} (h : pOk p) : patS p := ⟨Nat.le_trans h.1.2 (by decide), fun r hr => ⟨rOk_ok (h.2 r hr), (h.2 r hr).1, fun i hi => iOk_s ((h.2 r hr).2 i hi)⟩⟩
theorem pOk_ok {p : List (List Item)} (h : pOk p) : patOk p := ⟨Nat.le_trans h.1.2 (by decide), fun r hr => rOk_ok (h.2 r hr)⟩
theorem ch_ok {c : Ch} (h : chOk' c) : chOk c := ⟨wOk_g h.1.2 (Nat.le_trans h.1.1 (by decide)), wOk_g h.2.2 (Nat.le_trans h.2.1 (by decide))⟩
theorem way_g {w : List Nat} (h : inF (.str w) ways = true) : strG w ∧ w.length ≤ 8 := by rcases way_of h with e | e | e <;> rw [e] <;> exact ⟨⟨by decide, by decide⟩, by decide⟩
theorem force_g {w : List Nat} (h : inF (.str w) forces = true) : strG w ∧ w.length ≤ 4 := by rcases force_of h with e | e <;> rw [e] <;> exact ⟨⟨by decide, by decide⟩, by decide⟩
theorem gd_ok {r : Rule} (h : r.gd) : r.ok := ⟨⟨Nat.le_trans h.ch.1.2 (by decide), fun c hc => ch_ok (h.ch.2 c hc)⟩, pOk_ok h.left.1, pOk_ok h.right.1, (way_g h.way).1, (force_g h.force).1⟩
theorem gd_sm {r : Rule} (h : r.gd) : r.sm := ⟨⟨Nat.le_trans h.ch.1.2 (by decide), fun c hc => ⟨Nat.le_trans (h.ch.2 c hc).1.1 (by decide), Nat.le_trans (h.ch.2 c hc).2.1 (by decide)⟩⟩, pOk_s h.left.1, pOk_s h.right.1, Nat.le_trans (way_g h.way).2 (by decide), Nat.le_trans (force_g h.force).2 (by decide)⟩
theorem s_wtext (n : Nat) (S : Store) (s : List Nat) : C (n + 1) i_law_word_text [.str s] S = .ok (.str (wordT s)) S := by
  rw [cc rfl n _ S rfl]
  walk_at "es"
  unfold wordT
  by_cases h : s = [] <;> simp [h]
def sgD : List (KP × PV) := [(.s [111, 110, 101], .str []), (.s [109, 97, 121, 98, 101], .str [63]), (.s [97, 110, 121], .str [42])]
theorem sg_at {i : Item} {kd w : List Nat} (h : eI i = .tup [.str kd, .str w]) (hl : w.length ≤ 1000) : ∃ u, dLook (.s kd) sgD = some (.str u) ∧ vAdd (.str w) (.str u) = some (.str (itT i)) := by
  cases i with
  | edge => simp [eI] at h
  | one v => simp only [eI] at h; injection h with h; injection h with h1 h2; injection h1 with h1; injection h2 with h2; injection h2 with h2; subst h1 h2; exact ⟨[], rfl, add_s (by simp; omega)⟩
  | may v => simp only [eI] at h; injection h with h; injection h with h1 h2; injection h1 with h1; injection h2 with h2; injection h2 with h2; subst h1 h2; exact ⟨[63], rfl, add_s (by simp; omega)⟩
  | any v => simp only [eI] at h; injection h with h; injection h with h1 h2; injection h1 with h1; injection h2 with h2; injection h2 with h2; subst h1 h2; exact ⟨[42], rfl, add_s (by simp; omega)⟩
theorem b_ptext (n : Nat) (S : Store) {r : List Item} (h : rOk r) {l : List (List Nat)} (hl : l.length ≤ 100) {a0 a4 a5 : Sl} :
    evS (Pn n) b64_0 [a0, .val (eRow r), .own (.lst (l.map .str)), .val (.dct sgD), a4, a5] S = .ok (.nx [a0, .val (eRow r), .own (.lst ((l ++ [rowT r]).map .str)), .val (.dct sgD), .val (.lst ((r.map itT).map .str)), a5]) S := by
  unfold b64_0
  walk_at "es"
  unfold eRow
  walk_at "es"
  rw [lc_enc eI (fun i => PV.str (itT i)) (s_le h.1) (fun i hi => ⟨_, rfl, by walk_at "es", by
    have hi' := h.2 i hi
    cases i with
    | edge => walk_at "es"; rfl
    | one w =>
      obtain ⟨u, u1, u2⟩ := sg_at (i := .one w) rfl (Nat.le_trans hi'.2.2 (by decide))
      simp only [eI]
      walk_at "es"
      rw [show ixS (.dct sgD) (.str [111, 110, 101]) S = dLook (.s [111, 110, 101]) sgD from rfl, u1]
      walk_at "es2"
      rw [u2]; rfl
    | may w =>
      obtain ⟨u, u1, u2⟩ := sg_at (i := .may w) rfl (Nat.le_trans hi'.2.2 (by decide))
      simp only [eI]
      walk_at "es"
      rw [show ixS (.dct sgD) (.str [109, 97, 121, 98, 101]) S = dLook (.s [109, 97, 121, 98, 101]) sgD from rfl, u1]
      walk_at "es2"
      rw [u2]; rfl
    | any w =>
      obtain ⟨u, u1, u2⟩ := sg_at (i := .any w) rfl (Nat.le_trans hi'.2.2 (by decide))
      simp only [eI]
      walk_at "es"
      rw [show ixS (.dct sgD) (.str [97, 110, 121]) S = dLook (.s [97, 110, 121]) sgD from rfl, u1]
      walk_at "es2"
      rw [u2]; rfl⟩)]
  walk_at "es2"
  have hm : r.map (fun i => PV.str (itT i)) = (r.map itT).map PV.str := by rw [List.map_map]; rfl
  rw [hm]
  rw [app_at (i := 2) (l := l.map .str) (v := .str (rowT r)) (S1 := S) rfl (by
    walk_at "es"
    rw [ne_l0 (k := 0) (fun x hx => by
      obtain ⟨y, hy, rfl⟩ := List.mem_map.mp hx
      obtain ⟨i, hi, rfl⟩ := List.mem_map.mp hy
      exact gd_str ⟨Nat.le_trans (itT_le (h.2 i hi)) (by decide), fun c hc => by have := itT_c (h.2 i hi) c hc; unfold isg abc at this; omega⟩)]
    walk_at "es2"
    cases r with
    | nil => rfl
    | cons a r =>
      simp only [List.map_cons, List.isEmpty_cons, Bool.not_false, if_true]
      rw [show (PV.str (itT a) :: List.map PV.str (List.map itT r)) = ((a :: r).map itT).map .str from rfl, join_s (B := 13) (K := 6) (fun y hy => by
        obtain ⟨i, hi, rfl⟩ := List.mem_map.mp hy
        exact itT_le (h.2 i hi)) (by rw [List.length_map]; exact h.1) (by decide)]
      rfl) (by rw [List.length_map]; omega)]
  walk_at "es2"
  rw [List.map_append]
  rfl
theorem s_ptext (n : Nat) (S : Store) {p : List (List Item)} (h : pOk p) : C (n + 1) i_law_pattern_text [ePat p] S = .ok (.str (patT p)) S := by
  obtain ⟨⟨g1, g4, g5, l⟩, S2, e2, hS, hl⟩ := for_g (t := .name 1) (db := evS (Pn n) b64_0) eRow (fun g : Sl × Sl × Sl × List (List Nat) => [.val (ePat p), g.1, .own (.lst (g.2.2.2.map .str)), .val (.dct sgD), g.2.1, g.2.2.1])
    (fun xs g S' => S' = S ∧ ∃ ys, p = ys ++ xs ∧ g.2.2.2 = ys.map rowT) (fun x xs g S' ⟨hS, ys, h1, h2⟩ => by
      subst hS
      have hx : rOk x := h.2 x (by rw [h1]; simp)
      have hle : g.2.2.2.length ≤ 100 := by
        have := congrArg List.length h1
        rw [List.length_append, List.length_cons] at this
        rw [h2, List.length_map]
        have := h.1.2
        omega
      exact ⟨_, (.val (eRow x), .val (.lst ((x.map itT).map .str)), g.2.2.1, g.2.2.2 ++ [rowT x]), S', rfl, b_ptext n S' hx hle, rfl, ys ++ [x], by simp [h1], by simp [h2]⟩) p (.no, .no, .no, []) S ⟨rfl, [], by simp, rfl⟩
  dsimp only at e2
  simp only [List.map_nil] at e2
  replace hS : S2 = S := hS
  subst hS
  have hl' : l = p.map rowT := by
    obtain ⟨ys, h1, h2⟩ := hl
    rw [List.append_nil] at h1
    subst h1
    exact h2
  subst hl'
  rw [cc h64 n _ S2 rfl]
  unfold c64
  walk_at "es"
  rw [isO_l]
  walk_at "es2"
  unfold ePat at e2 ⊢
  walk_at "es2"
  rw [show ([(.s [111, 110, 101], .str []), (.s [109, 97, 121, 98, 101], .str [63]), (.s [97, 110, 121], .str [42])] : List (KP × PV)) = sgD from rfl, e2]
  walk_at "es2"
  rw [bor_at (i := 2) (v := .lst ((p.map rowT).map .str)) rfl]
  walk_at "es2"
  rw [join_s (B := 84) (K := 4) (fun y hy => by
    obtain ⟨r, hr, rfl⟩ := List.mem_map.mp hy
    exact rowT_len (h.2 r hr)) (by rw [List.length_map]; exact h.1.2) (by decide)]
  walk_at "es2"
  rfl
end K73
end
section
set_option Elab.async false
set_option linter.all false
set_option autoImplicit false
set_option maxRecDepth 100000
set_option maxHeartbeats 0
namespace K73
open PySem PySem.Spec PyProof.Rows L2 Tg
local macro_rules | `(tactic| walk_at "es") => `(tactic| try simp only [st0, st1, st2, st3, st4, evS, ev, evO, dSeqS, dSkip, dExpr, dRet, dRetN, dIfS, dAsg, dC, dNil, dCons, consV, dTup, dLst, dB1, dB2, dChain, dIte, dAnd, dOr, dNot, dCall,
  dCutL, dCutH, dCutB, dM1, dIx, dSeq, dSrc, dLc, dFor, dPar2, oCons, oNil, wipeE, opF, cmF, u1F, u2F, m1F, isiN, rngF, Tgt.put, List.set, List.headD_cons, List.tail_cons,
  bnd_ok, bnd_bad, bnd_exc, okv_s, onBl_b, onI_i, onS_s, onT_s, tst_b, tstS_b, okE_s, outF_rt, outF_nx, outF_exc, seqK_nx, seqK_rt, okL_s, asL_l, okN0, okN1, okN2, okN3, okN4, okN5, v0, v1, v2, v3, v4, v5, v6, v7, v8, v9, v10, v11,
  isi1, isi2, isi3, isi4, isi5, iss1, iss2, iss3, iss4, iss5, ist1, ist2, ist3, ist4, ist5, isn1, isn2, isn3, isb5, len_t, len_l, lt_i, le_i, gt_i, ge_i, eq_i, ne_i, eq_s, ne_s, lt_s, add_i, sub_i, neg_i, is_non, is_t, is_s, is_i, isn_non, isn_t, isn_s, isn_i,
  at_t0, at_t1, at_t2, at_t3, at_t4, ixt, ixl, ixs, sq_t, sq_l, sq_s, tup_l, in_c, nin_c, and_bl, or_bl, ite_ok, ret_ok, guard_ok, ib_and, ib_or, ib_f, nc0, nc1, nc2, nc3, nc4, nc5, nc6, Int.reduceLE, Int.reduceLT, Int.reduceEq, decide_true, decide_false, Int.le_refl, Int.lt_irrefl,
  List.length_cons, List.length_nil, List.replicate, List.cons_append, List.nil_append, Nat.add_zero, Nat.zero_add, Nat.reduceAdd, Nat.reduceSub, Option.getD_some, Option.getD_none, Bool.not_false, Bool.not_true, Bool.true_or, Bool.false_or, Bool.true_and, Bool.false_and, Bool.and_true, Bool.or_true, Bool.or_false, if_true, if_false, Bool.false_eq_true, ite_true, ite_false])
local macro_rules | `(tactic| walk_at "es2") => `(tactic| try simp -implicitDefEqProofs only [st0, st1, st2, st3, st4, evS, ev, evO, dSeqS, dSkip, dExpr, dRet, dRetN, dIfS, dAsg, dC, dNil, dCons, consV, dTup, dLst, dB1, dB2, dChain, dIte, dAnd, dOr, dNot, dCall,
  dCutL, dCutH, dCutB, dM1, dIx, dSeq, dSrc, dLc, dFor, dPar2, oCons, oNil, wipeE, opF, cmF, u1F, u2F, m1F, isiN, rngF, Tgt.put, List.set, List.headD_cons, List.tail_cons,
  bnd_ok, bnd_bad, bnd_exc, okv_s, onBl_b, onI_i, onS_s, onT_s, tst_b, tstS_b, okE_s, outF_rt, outF_nx, outF_exc, seqK_nx, seqK_rt, okL_s, asL_l, okN0, okN1, okN2, okN3, okN4, okN5, v0, v1, v2, v3, v4, v5, v6, v7, v8, v9, v10, v11,
  isi1, isi2, isi3, isi4, isi5, iss1, iss2, iss3, iss4, iss5, ist1, ist2, ist3, ist4, ist5, isn1, isn2, isn3, isb5, len_t, len_l, lt_i, le_i, gt_i, ge_i, eq_i, ne_i, eq_s, ne_s, lt_s, add_i, sub_i, neg_i, is_non, is_t, is_s, is_i, isn_non, isn_t, isn_s, isn_i,
  at_t0, at_t1, at_t2, at_t3, at_t4, ixt, ixl, ixs, sq_t, sq_l, sq_s, tup_l, in_c, nin_c, and_bl, or_bl, ite_ok, ret_ok, guard_ok, ib_and, ib_or, ib_f, nc0, nc1, nc2, nc3, nc4, nc5, nc6, Int.reduceLE, Int.reduceLT, Int.reduceEq, decide_true, decide_false, Int.le_refl, Int.lt_irrefl,
  List.length_cons, List.length_nil, List.replicate, List.cons_append, List.nil_append, Nat.add_zero, Nat.zero_add, Nat.reduceAdd, Nat.reduceSub, Option.getD_some, Option.getD_none, Bool.not_false, Bool.not_true, Bool.true_or, Bool.false_or, Bool.true_and, Bool.false_and, Bool.and_true, Bool.or_true, Bool.or_false, if_true, if_false, Bool.false_eq_true, ite_true, ite_false])
theorem s_rtext (n : Nat) (S : Store) {r : Rule} (h : r.gd) : C (n + 2) i_law_rule_text [eRule r] S = .ok (.str (ruT r)) S := by
  have hr := gd_sm h
  rw [cc h65 (n + 1) _ S rfl]
  unfold c65 eRule
  walk_at "es"
  rw [lc_enc eCh (fun c => PV.str (chT c)) (s_le h.ch.1.2) (fun c hc => ⟨_, rfl, by walk_at "es", by
    have hc' := h.ch.2 c hc
    walk_at "es"
    rw [add_s (by have := hc'.1.1; simp; omega)]
    walk_at "es"
    rw [s_wtext n]
    walk_at "es"
    rw [add_s (by have := hc'.1.1; have := hc'.2.1; have := wordT_le c.2; simp; omega)]
    walk_at "es"
    rfl⟩)]
  walk_at "es2"
  rw [show r.ch.map (fun c => PV.str (chT c)) = (r.ch.map chT).map .str from by rw [List.map_map]; rfl, join_s (B := 4) (K := 4) (fun y hy => by
    obtain ⟨c, hc, rfl⟩ := List.mem_map.mp hy
    exact chT_len (h.ch.2 c hc)) (by rw [List.length_map]; exact h.ch.1.2) (by decide)]
  walk_at "es2"
  have h1 : (chsT r.ch).length ≤ 20 := by
    refine Nat.le_trans (join_le2 (B := 4) (fun y hy => ?_) 4 (by rw [List.length_map]; exact h.ch.1.2)) (by simp)
    obtain ⟨c, hc, rfl⟩ := List.mem_map.mp hy
    exact chT_len (h.ch.2 c hc)
  unfold chsT at h1
  have h2 := pat3 h.left
  have h3 := pat3 h.right
  have h4 := (way_g h.way).2
  have h5 := (force_g h.force).2
  rw [s_ptext n S h.left.1]
  walk_at "es2"
  rw [add_s (by simp; omega)]
  walk_at "es2"
  rw [s_ptext n S h.right.1]
  walk_at "es2"
  rw [add_s (by simp; omega)]
  walk_at "es2"
  rw [add_s (by simp; omega)]
  walk_at "es2"
  rw [add_s (by simp; omega)]
  walk_at "es2"
  rw [add_s (by simp; omega)]
  walk_at "es2"
  rw [add_s (by simp; omega)]
  walk_at "es2"
  rw [add_s (by simp; omega)]
  walk_at "es2"
  rw [add_s (by simp; omega)]
  walk_at "es2"
  unfold ruT
  simp
theorem bit_s (b : Bool) : uStr (.int (if b = true then 1 else 0)) = some (.str (if b = true then [49] else [48])) := by
  cases b with
  | true => exact (str_n (k := 1) (by decide)).trans (by rw [TL.numL_lt (by decide)]; rfl)
  | false => exact (str_n (k := 0) (by decide)).trans (by rw [TL.numL_lt (by decide)]; rfl)
theorem b_mtext (n : Nat) (S : Store) {p : Pl2} (h : plOk' p) {l : List (List Nat)} (hl : l.length ≤ 100) {a0 a4 a5 : Sl} :
    evS (Pn n) b66_0 [a0, .own (.lst (l.map .str)), .val (.bl p.1), .val (.tup (p.2.map eStep)), a4, a5] S = .ok (.nx [a0, .own (.lst ((l ++ [placeT p]).map .str)), .val (.bl p.1), .val (.tup (p.2.map eStep)), a4, a5]) S := by
  unfold b66_0
  simp only [evS, dSeqS]
  rw [app_at (i := 1) (l := l.map .str) (v := .str (placeT p)) (S1 := S) rfl (by
    walk_at "es"
    rw [int_b]
    walk_at "es"
    rw [show uStr (.int (if p.1 = true then 1 else 0)) = some (.str (if p.1 = true then [49] else [48])) from bit_s p.1]
    walk_at "es"
    rw [lc_enc eStep (fun s => PV.str (stT s)) (s_le h.1) (fun s hs => ⟨_, rfl, by walk_at "es", by
      have hs' := (h.2 s hs).2
      walk_at "es"
      rw [str_n (by omega)]
      walk_at "es"
      rw [add_s (by have : (TL.numL s.2).length ≤ 2 := TL.numL_len (by decide) (by omega)
                    simp; omega)]
      unfold stT
      rw [List.append_nil]
      rfl⟩)]
    walk_at "es"
    rw [add_l (by have := h.1; simp; omega)]
    walk_at "es"
    rw [show (PV.str (if p.1 = true then [49] else [48]) :: List.map (fun s => PV.str (stT s)) p.2) = (((if p.1 = true then [49] else [48]) :: p.2.map stT).map .str) from by rw [List.map_cons, List.map_map]; rfl]
    rw [join_s (B := 3) (K := 13) (fun y hy => by
      rcases List.mem_cons.mp hy with rfl | hy
      · split <;> decide
      · obtain ⟨s, hs, rfl⟩ := List.mem_map.mp hy
        have := (h.2 s hs).2
        have h2 : (TL.numL s.2).length ≤ 2 := TL.numL_len (by decide) (by omega)
        unfold stT
        simp
        omega) (by have := h.1; simp; omega) (by decide)]
    rfl) (by rw [List.length_map]; omega)]
  walk_at "es"
  rw [List.map_append]
  rfl
theorem s_mtext (n : Nat) (S : Store) {k : Nat} (hk : k ≤ 12) {l : List Pl2} (h : ∀ p ∈ l, plOk' p) (hl : l.length ≤ 12) : C (n + 1) i_law_machine_text [eMac (k, l)] S = .ok (.str (macT k l)) S := by
  obtain ⟨⟨g2, g3, g4, g5, ws⟩, S2, e2, hS, hw⟩ := for_g (t := .tup (.cons (.name 2) (.cons (.name 3) .nil))) (db := evS (Pn n) b66_0) ePlace (fun g : Sl × Sl × Sl × Sl × List (List Nat) => [.val (eMac (k, l)), .own (.lst (g.2.2.2.2.map .str)), g.1, g.2.1, g.2.2.1, g.2.2.2.1])
    (fun xs g S' => S' = S ∧ ∃ ys, l = ys ++ xs ∧ g.2.2.2.2 = TL.numL k :: ys.map placeT) (fun x xs g S' ⟨hS, ys, h1, h2⟩ => by
      subst hS
      have hx : plOk' x := h x (by rw [h1]; simp)
      have hle : g.2.2.2.2.length ≤ 100 := by
        have := congrArg List.length h1
        rw [List.length_append, List.length_cons] at this
        rw [h2, List.length_cons, List.length_map]
        omega
      exact ⟨_, (.val (.bl x.1), .val (.tup (x.2.map eStep)), g.2.2.1, g.2.2.2.1, g.2.2.2.2 ++ [placeT x]), S', rfl, b_mtext n S' hx hle, rfl, ys ++ [x], by simp [h1], by simp [h2]⟩) l (.no, .no, .no, .no, [TL.numL k]) S ⟨rfl, [], by simp, rfl⟩
  dsimp only at e2
  replace hS : S2 = S := hS
  subst hS
  have hl' : ws = TL.numL k :: l.map placeT := by
    obtain ⟨ys, h1, h2⟩ := hw
    rw [List.append_nil] at h1
    subst h1
    exact h2
  subst hl'
  rw [cc h66 n _ S2 rfl]
  unfold c66
  unfold eMac at e2 ⊢
  walk_at "es"
  rw [own_l (i := 1) (l := [.str (TL.numL k)]) (S1 := S2) (by
    walk_at "es"
    rw [str_n (by omega)]
    walk_at "es")]
  walk_at "es2"
  rw [show (PV.lst [.str (TL.numL k)]) = .lst ([TL.numL k].map .str) from rfl, e2]
  walk_at "es2"
  rw [bor_at (i := 1) (v := .lst ((TL.numL k :: l.map placeT).map .str)) rfl]
  walk_at "es2"
  rw [join_s (B := 52) (K := 13) (fun y hy => by
    rcases List.mem_cons.mp hy with rfl | hy
    · exact Nat.le_trans (TL.numL_len (k := 2) (by decide) (by omega)) (by decide)
    · obtain ⟨p, hp, rfl⟩ := List.mem_map.mp hy
      exact placeT_len (h p hp)) (by simp; omega) (by decide)]
  walk_at "es2"
  rfl
/-! ### reading -/
theorem s_need_ok (n : Nat) (S : Store) {v : PV} (t : PV) (hv : vIs v .non = some (.bl false)) : C (n + 1) i_needed [v, t] S = .ok v S := by
  rw [cc rfl n _ S rfl]
  walk_at "es"
  rw [hv]
  walk_at "es2"
theorem s_by_ok (n : Nat) (S : Store) {s : List Nat} (j : Nat) (hj : j < nF) {v : PV} (hv : vIs v .non = some (.bl false)) (h : C (n + 1) j [.str s] S = .ok v S) : C (n + 2) i_read_by [.fn j, .str s] S = .ok v S := by
  rw [cc rfl (n + 1) _ S rfl]
  walk_at "es"
  have hc : dCallL (C (n + 1)) nF 0 (dCons (dVar 1) dNil) [.val (.fn j), .val (.str s)] S = .ok v S := by
    unfold dCallL
    rw [show look [Sl.val (.fn j), .val (.str s)] 0 = .val (.fn j) from rfl]
    simp only
    rw [if_pos hj]
    walk_at "es"
    exact h
  rw [hc]
  walk_at "es2"
  rw [s_need_ok n S _ hv]
  walk_at "es2"
theorem s_with_ok (n : Nat) (S : Store) {s : List Nat} {k : Int} (hk : (decide (1 ≤ k) && decide (k ≤ 12)) = true) (j : Nat) (hj : j < nF) {v : PV} (hv : vIs v .non = some (.bl false)) (h : C (n + 4) j [.int k, .str s] S = .ok v S) : C (n + 5) i_read_with [.fn j, .int k, .str s] S = .ok v S := by
  rw [cc rfl (n + 4) _ S rfl]
  walk_at "es"
  rw [s_need_n n S hk]
  walk_at "es2"
  have hc : dCallL (C (n + 4)) nF 0 (dCons (dVar 1) (dCons (dVar 2) dNil)) [.val (.fn j), .val (.int k), .val (.str s)] S = .ok v S := by
    unfold dCallL
    rw [show look [Sl.val (.fn j), .val (.int k), .val (.str s)] 0 = .val (.fn j) from rfl]
    simp only
    rw [if_pos hj]
    walk_at "es"
    exact h
  rw [hc]
  walk_at "es2"
  rw [s_need_ok (n + 3) S _ hv]
  walk_at "es2"
theorem isN_of {k : Nat} (h1 : 1 ≤ k) (hk : k ≤ 12) : (decide (1 ≤ (k : Int)) && decide ((k : Int) ≤ 12)) = true := by rw [decide_eq_true (by omega), decide_eq_true (by omega)]; rfl
theorem s_rd_word (n : Nat) (S : Store) {k : Nat} (h1 : 1 ≤ k) (hk : k ≤ 12) {w : List Nat} (hb : isW k w = true) (ho : wOk w) (hl : w.length ≤ 100) : C (n + 6) i_read_word [.int (k : Int), .str (wordT w)] S = .ok (.str w) S := by
  rw [cc rfl (n + 5) _ S rfl]
  walk_at "es"
  rw [show dG G0 99 = dC (.fn i_word_from) from rfl]
  walk_at "es"
  have htx : tx (wordT w) := ⟨Nat.le_trans (wordT_le w) (by omega), fun c hc => by have := wordT_c ho c hc; unfold abc at this; omega⟩
  rw [s_with_ok n S (isN_of h1 hk) i_word_from (by decide) (v := .str w) rfl (by
    rw [s_word_from (n + 2) S k htx, word_back ho, hb]
    have : wordT w ≠ [] := by unfold wordT; split; simp; assumption
    simp [this])]
  walk_at "es2"
theorem s_rd_pattern (n : Nat) (S : Store) {k : Nat} (h1 : 1 ≤ k) (hk : k ≤ 12) {sd : Sd} {p : List (List Item)} (hb : patB k sd.b p = true) (ho : pOk p) : C (n + 8) i_read_pattern [.int (k : Int), .str (patT p)] S = .ok (ePat p) S := by
  rw [cc rfl (n + 7) _ S rfl]
  walk_at "es"
  rw [show dG G0 72 = dC (.fn i_pattern_from) from rfl]
  walk_at "es"
  rw [s_with_ok (n + 2) S (isN_of h1 hk) i_pattern_from (by decide) (v := ePat p) rfl (by
    rw [s_pattern_from n S (isN_of h1 hk) (patT_tx ho)]
    unfold patternF
    rw [pat_back ho, if_pos, if_pos rfl]
    · rfl
    · cases sd
      · rw [show patB k true p = true from hb]; rfl
      · rw [show patB k false p = true from hb]; simp)]
  walk_at "es2"
theorem s_rd_rule (n : Nat) (S : Store) {k : Nat} (h1 : 1 ≤ k) (hk : k ≤ 12) {r : Rule} (h : RuleD k r) : C (n + 9) i_read_rule [.int (k : Int), .str (ruT r)] S = .ok (eRule r) S := by
  rw [cc rfl (n + 8) _ S rfl]
  walk_at "es"
  rw [show dG G0 86 = dC (.fn i_rule_from) from rfl]
  walk_at "es"
  rw [s_with_ok (n + 3) S (isN_of h1 hk) i_rule_from (by decide) (v := eRule r) rfl (by
    rw [s_rule_from n S (isN_of h1 hk) (ruT_tx h.gd)]
    unfold ruleR
    rw [rule_back h.gd]
    simp only
    rw [if_pos h.b, if_pos trivial]
    rfl)]
  walk_at "es2"
theorem casT_len {k : Nat} (hk : k ≤ 12) {l : List Rule} (h : ∀ r ∈ l, r.gd) (hl : l.length ≤ 4) : (casT k l).length ≤ 2200 := by
  unfold casT
  refine Nat.le_trans (join_le2 (B := 420) (fun y hy => ?_) 5 (by simp; omega)) (by decide)
  rcases List.mem_cons.mp hy with rfl | hy
  · exact Nat.le_trans (TL.numL_len (k := 2) (by decide) (by omega)) (by decide)
  · obtain ⟨r, hr, rfl⟩ := List.mem_map.mp hy
    exact ruT_len (h r hr)
theorem num_tx {k : Nat} (hk : k ≤ 12) : tx (TL.numL k) := ⟨Nat.le_trans (TL.numL_len (k := 2) (by decide) (by omega)) (by decide), fun c hc => by have := num_c c hc; omega⟩
theorem s_rd_cascade (n : Nat) (S : Store) {k : Nat} (h1 : 1 ≤ k) (hk : k ≤ 12) {l : List Rule} (h : ∀ r ∈ l, RuleD k r) (hl : l.length ≤ 4) : C (n + 9) i_read_cascade [.str (casT k l)] S = .ok (eCas (k, l)) S := by
  have hg : ∀ r ∈ l, r.gd := fun r hr => (h r hr).gd
  rw [cc rfl (n + 8) _ S rfl]
  walk_at "es"
  rw [show dG G0 35 = dC (.fn i_cascade_from) from rfl]
  walk_at "es"
  rw [s_by_ok (n + 6) S i_cascade_from (by decide) (v := eCas (k, l)) rfl (by
    rw [s_cascade_from n S (Nat.le_trans (casT_len hk hg hl) (by decide)) (fun w hw => by
      rw [cas_parts hg] at hw
      rcases List.mem_cons.mp hw with rfl | hw
      · exact num_tx hk
      · obtain ⟨r, hr, rfl⟩ := List.mem_map.mp hw
        exact ruT_tx (hg r hr)) (by rw [cas_parts hg]; simp; omega)]
    rw [cas_back hk hg (by
      unfold casB
      rw [show isN (k : Int) = true from isN_of h1 hk, decide_eq_true (by omega)]
      exact List.all_eq_true.mpr fun r hr => (h r hr).b)]
    rfl)]
  walk_at "es2"
theorem macT_len {k : Nat} (hk : k ≤ 12) {l : List Pl2} (h : ∀ r ∈ l, plOk' r) (hl : l.length ≤ 12) : (macT k l).length ≤ 800 := by
  unfold macT
  refine Nat.le_trans (join_le2 (B := 52) (fun y hy => ?_) 13 (by simp; omega)) (by decide)
  rcases List.mem_cons.mp hy with rfl | hy
  · exact Nat.le_trans (TL.numL_len (k := 2) (by decide) (by omega)) (by decide)
  · obtain ⟨r, hr, rfl⟩ := List.mem_map.mp hy
    exact placeT_len (h r hr)
theorem s_rd_machine (n : Nat) (S : Store) {k : Nat} (hk : k ≤ 12) {l : List Pl2} {most : Nat} (hmo : most ≤ 12) (h : MacD k most l) : C (n + 8) i_read_machine [.str (macT k l)] S = .ok (eMac (k, l)) S := by
  rw [cc rfl (n + 7) _ S rfl]
  walk_at "es"
  rw [show dG G0 66 = dC (.fn i_machine_from) from rfl]
  walk_at "es"
  have hl : l.length ≤ 12 := Nat.le_trans h.len hmo
  rw [s_by_ok (n + 5) S i_machine_from (by decide) (v := eMac (k, l)) rfl (by
    rw [s_machine_from (n + 1) S (Nat.le_trans (macT_len hk h.ok hl) (by decide)) (fun w hw => by
      rw [mac_parts h.ok] at hw
      rcases List.mem_cons.mp hw with rfl | hw
      · exact num_tx hk
      · obtain ⟨r, hr, rfl⟩ := List.mem_map.mp hw
        exact placeT_tx (h.ok r hr)) (by rw [mac_parts h.ok]; simp; omega)]
    rw [mac_back hk h.ok h.b]
    rfl)]
  walk_at "es2"
end K73
end
section
set_option Elab.async false
set_option linter.all false
set_option autoImplicit false
set_option maxRecDepth 100000
set_option maxHeartbeats 0
namespace K73
open PySem PySem.Spec PyProof.Rows L2 Tg
local macro_rules | `(tactic| walk_at "es") => `(tactic| try simp only [st0, st1, st2, st3, st4, evS, ev, evO, dSeqS, dSkip, dExpr, dRet, dRetN, dIfS, dAsg, dC, dNil, dCons, consV, dTup, dLst, dB1, dB2, dChain, dIte, dAnd, dOr, dNot, dCall,
  dCutL, dCutH, dCutB, dM1, dIx, dSeq, dSrc, dLc, dFor, dPar2, oCons, oNil, wipeE, opF, cmF, u1F, u2F, m1F, isiN, rngF, Tgt.put, List.set, List.headD_cons, List.tail_cons,
  bnd_ok, bnd_bad, bnd_exc, okv_s, onBl_b, onI_i, onS_s, onT_s, tst_b, tstS_b, okE_s, outF_rt, outF_nx, outF_exc, seqK_nx, seqK_rt, okL_s, asL_l, okN0, okN1, okN2, okN3, okN4, okN5, v0, v1, v2, v3, v4, v5, v6, v7, v8, v9, v10, v11,
  isi1, isi2, isi3, isi4, isi5, iss1, iss2, iss3, iss4, iss5, ist1, ist2, ist3, ist4, ist5, isn1, isn2, isn3, isb5, len_t, len_l, lt_i, le_i, gt_i, ge_i, eq_i, ne_i, eq_s, ne_s, lt_s, add_i, sub_i, neg_i, is_non, is_t, is_s, is_i, isn_non, isn_t, isn_s, isn_i,
  at_t0, at_t1, at_t2, at_t3, at_t4, ixt, ixl, ixs, sq_t, sq_l, sq_s, tup_l, in_c, nin_c, and_bl, or_bl, ite_ok, ret_ok, guard_ok, ib_and, ib_or, ib_f, nc0, nc1, nc2, nc3, nc4, nc5, nc6, Int.reduceLE, Int.reduceLT, Int.reduceEq, decide_true, decide_false, Int.le_refl, Int.lt_irrefl,
  List.length_cons, List.length_nil, List.replicate, List.cons_append, List.nil_append, Nat.add_zero, Nat.zero_add, Nat.reduceAdd, Nat.reduceSub, Option.getD_some, Option.getD_none, Bool.not_false, Bool.not_true, Bool.true_or, Bool.false_or, Bool.true_and, Bool.false_and, Bool.and_true, Bool.or_true, Bool.or_false, if_true, if_false, Bool.false_eq_true, ite_true, ite_false])
local macro_rules | `(tactic| walk_at "es2") => `(tactic| try simp -implicitDefEqProofs only [st0, st1, st2, st3, st4, evS, ev, evO, dSeqS, dSkip, dExpr, dRet, dRetN, dIfS, dAsg, dC, dNil, dCons, consV, dTup, dLst, dB1, dB2, dChain, dIte, dAnd, dOr, dNot, dCall,
  dCutL, dCutH, dCutB, dM1, dIx, dSeq, dSrc, dLc, dFor, dPar2, oCons, oNil, wipeE, opF, cmF, u1F, u2F, m1F, isiN, rngF, Tgt.put, List.set, List.headD_cons, List.tail_cons,
  bnd_ok, bnd_bad, bnd_exc, okv_s, onBl_b, onI_i, onS_s, onT_s, tst_b, tstS_b, okE_s, outF_rt, outF_nx, outF_exc, seqK_nx, seqK_rt, okL_s, asL_l, okN0, okN1, okN2, okN3, okN4, okN5, v0, v1, v2, v3, v4, v5, v6, v7, v8, v9, v10, v11,
  isi1, isi2, isi3, isi4, isi5, iss1, iss2, iss3, iss4, iss5, ist1, ist2, ist3, ist4, ist5, isn1, isn2, isn3, isb5, len_t, len_l, lt_i, le_i, gt_i, ge_i, eq_i, ne_i, eq_s, ne_s, lt_s, add_i, sub_i, neg_i, is_non, is_t, is_s, is_i, isn_non, isn_t, isn_s, isn_i,
  at_t0, at_t1, at_t2, at_t3, at_t4, ixt, ixl, ixs, sq_t, sq_l, sq_s, tup_l, in_c, nin_c, and_bl, or_bl, ite_ok, ret_ok, guard_ok, ib_and, ib_or, ib_f, nc0, nc1, nc2, nc3, nc4, nc5, nc6, Int.reduceLE, Int.reduceLT, Int.reduceEq, decide_true, decide_false, Int.le_refl, Int.lt_irrefl,
  List.length_cons, List.length_nil, List.replicate, List.cons_append, List.nil_append, Nat.add_zero, Nat.zero_add, Nat.reduceAdd, Nat.reduceSub, Option.getD_some, Option.getD_none, Bool.not_false, Bool.not_true, Bool.true_or, Bool.false_or, Bool.true_and, Bool.false_and, Bool.and_true, Bool.or_true, Bool.or_false, if_true, if_false, Bool.false_eq_true, ite_true, ite_false])
/-! ### how long what is shown is -/
theorem okc_of {c : Nat} (h : 32 ≤ c ∧ c < 127 ∧ c ≠ 39 ∧ c ≠ 92) : okc c = true := by
  unfold okc
  rw [decide_eq_true h.1, decide_eq_true h.2.1, decide_eq_true h.2.2.1, decide_eq_true h.2.2.2]; rfl
theorem all_of {s : List Nat} {P : Nat → Prop} (h : ∀ c ∈ s, P c) (hp : ∀ c, P c → okc c = true) : s.all okc = true := List.all_eq_true.mpr fun c hc => hp c (h c hc)
theorem all_join {z : List Nat} {ys : List (List Nat)} (hz : z.all okc = true) (h : ∀ y ∈ ys, y.all okc = true) : (TL.joinL z ys).all okc = true := by
  refine List.all_eq_true.mpr fun c hc => ?_
  rcases joinL_c c hc with q | ⟨y, hy, q⟩
  · exact List.all_eq_true.mp hz c q
  · exact List.all_eq_true.mp (h y hy) c q
theorem abc_okc {c : Nat} (h : abc c) : okc c = true := okc_of (by unfold abc at h; omega)
theorem wOk_okc {w : List Nat} (h : wOk w) : w.all okc = true := all_of h fun c => abc_okc
theorem wordT_okc {w : List Nat} (h : wOk w) : (wordT w).all okc = true := all_of (wordT_c h) fun c hc => okc_of (by unfold abc at hc; omega)
theorem patT_okc {p : List (List Item)} (h : pOk p) : (patT p).all okc = true := all_of (patT_c h) fun c hc => okc_of (by unfold rsg isg abc at hc; omega)
theorem way_okc {w : List Nat} (h : inF (.str w) ways = true) : w.all okc = true := by rcases way_of h with e | e | e <;> rw [e] <;> decide
theorem force_okc {w : List Nat} (h : inF (.str w) forces = true) : w.all okc = true := by rcases force_of h with e | e <;> rw [e] <;> decide
theorem chsT_okc {l : List Ch} (h : ∀ c ∈ l, chOk' c) : (chsT l).all okc = true := all_of (chsT_c h) fun c hc => okc_of (by unfold abc at hc; omega)
theorem ruT_okc {r : Rule} (h : r.gd) : (ruT r).all okc = true := by
  rw [ruT_eq]
  refine all_join (by decide) fun y hy => ?_
  simp only [List.mem_cons, List.not_mem_nil, or_false] at hy
  rcases hy with rfl | rfl | rfl
  · exact chsT_okc h.ch.2
  · rw [List.all_append, List.all_append, patT_okc h.left.1, patT_okc h.right.1]; decide
  · rw [List.all_append, way_okc h.way, List.all_cons, force_okc h.force]; decide
theorem num_okc (k : Nat) : (TL.numL k).all okc = true := all_of num_c fun c hc => okc_of (by omega)
theorem casT_okc {k : Nat} {l : List Rule} (h : ∀ r ∈ l, r.gd) : (casT k l).all okc = true := by
  unfold casT
  refine all_join (by decide) fun y hy => ?_
  rcases List.mem_cons.mp hy with rfl | hy
  · exact num_okc k
  · obtain ⟨r, hr, rfl⟩ := List.mem_map.mp hy
    exact ruT_okc (h r hr)
theorem macT_okc {k : Nat} {l : List Pl2} (h : ∀ r ∈ l, plOk' r) : (macT k l).all okc = true := by
  unfold macT
  refine all_join (by decide) fun y hy => ?_
  rcases List.mem_cons.mp hy with rfl | hy
  · exact num_okc k
  · obtain ⟨r, hr, rfl⟩ := List.mem_map.mp hy
    exact all_of (placeT_c (h r hr)) fun c hc => okc_of (by unfold abc at hc; omega)
theorem sz_two {k B : Nat} {a b : PV} (ha : Sz k B a) (hb : Sz k B b) : Sz (k + 1) (2 * (B + 2) + 4) (.tup [a, b]) := sz_tup (K := 2) (fun x hx => by
  simp at hx
  rcases hx with rfl | rfl
  · exact ha
  · exact hb) (by simp)
theorem sz_item {i : Item} (h : iOk i) : Sz 1 60 (eI i) := by
  have hs : ∀ kd : List Nat, kd.all okc = true → kd.length ≤ 10 → ∀ w : List Nat, wOk w → w.length ≤ 12 → Sz 1 60 (.tup [.str kd, .str w]) := fun kd h1 h2 w h3 h4 =>
    (sz_two (B := 20) (sz_str h1 (by omega)) (sz_str (wOk_okc h3) (by omega))).mono (Nat.le_refl _) (by decide)
  cases i with
  | edge => exact (sz_tup (k := 0) (B := 20) (K := 1) (xs := [.str [101, 100, 103, 101]]) (fun x hx => by simp at hx; rw [hx]; exact sz_str (by decide) (by decide)) (by simp)).mono (Nat.le_refl _) (by decide)
  | one w => exact hs _ (by decide) (by decide) w h.2.1 h.2.2
  | may w => exact hs _ (by decide) (by decide) w h.2.1 h.2.2
  | any w => exact hs _ (by decide) (by decide) w h.2.1 h.2.2
theorem sz_row {r : List Item} (h : rOk r) : Sz 2 400 (eRow r) := (sz_map (B := 60) (K := 6) (fun i hi => sz_item (h.2 i hi)) h.1).mono (Nat.le_refl _) (by decide)
theorem sz_pat {p : List (List Item)} (h : pOk p) : Sz 3 2000 (ePat p) := (sz_map (B := 400) (K := 4) (fun r hr => sz_row (h.2 r hr)) h.1.2).mono (Nat.le_refl _) (by decide)
theorem sz_rule {r : Rule} (h : r.gd) : Sz 4 11000 (eRule r) := by
  have hch : Sz 2 200 (.tup (r.ch.map eCh)) := (sz_map (B := 40) (K := 4) (fun c hc => (sz_two (k := 0) (B := 10) (sz_str (wOk_okc (h.ch.2 c hc).1.2) (by have := (h.ch.2 c hc).1.1; omega)) (sz_str (wOk_okc (h.ch.2 c hc).2.2) (by have := (h.ch.2 c hc).2.1; omega))).mono (Nat.le_refl _) (by decide)) h.ch.1.2).mono (Nat.le_refl _) (by decide)
  refine (sz_tup (k := 3) (B := 2000) (K := 5) (fun x hx => ?_) (by simp)).mono (Nat.le_refl _) (by decide)
  simp only [List.mem_cons, List.not_mem_nil, or_false] at hx
  rcases hx with rfl | rfl | rfl | rfl | rfl
  · exact hch.mono (by decide) (by decide)
  · exact sz_pat h.left.1
  · exact sz_pat h.right.1
  · exact (sz_str (B := 20) (way_okc h.way) (by have := (way_g h.way).2; omega)).mono (by decide) (by decide)
  · exact (sz_str (B := 20) (force_okc h.force) (by have := (force_g h.force).2; omega)).mono (by decide) (by decide)
theorem sz_cas {k : Nat} (hk : k ≤ 12) {l : List Rule} (h : ∀ r ∈ l, r.gd) (hl : l.length ≤ 4) : Sz 6 100000 (eCas (k, l)) :=
  (sz_two (k := 5) (B := 45000) ((sz_int (Nat.lt_of_le_of_lt hk (by decide))).mono (by decide) (by decide)) ((sz_map (B := 11000) (K := 4) (fun r hr => sz_rule (h r hr)) hl).mono (Nat.le_refl _) (by decide))).mono (Nat.le_refl _) (by decide)
theorem sz_place {p : Pl2} (h : plOk' p) : Sz 3 2000 (ePlace p) := by
  have hst : Sz 2 900 (.tup (p.2.map eStep)) := (sz_map (B := 70) (K := 12) (fun s hs => (sz_two (k := 0) (B := 30) (sz_str (s := [s.1]) (by rw [List.all_cons, abc_okc (h.2 s hs).1]; rfl) (by simp)) (sz_int (Nat.lt_of_le_of_lt (h.2 s hs).2 (by decide)))).mono (Nat.le_refl _) (by decide)) h.1).mono (Nat.le_refl _) (by decide)
  exact (sz_two (k := 2) (B := 900) ((sz_bl p.1).mono (by decide) (by decide)) hst).mono (Nat.le_refl _) (by decide)
theorem sz_mac {k : Nat} (hk : k ≤ 12) {l : List Pl2} (h : ∀ r ∈ l, plOk' r) (hl : l.length ≤ 12) : Sz 5 100000 (eMac (k, l)) :=
  (sz_two (k := 4) (B := 25000) ((sz_int (Nat.lt_of_le_of_lt hk (by decide))).mono (by decide) (by decide)) ((sz_map (B := 2000) (K := 12) (fun r hr => sz_place (h r hr)) hl).mono (Nat.le_refl _) (by decide))).mono (Nat.le_refl _) (by decide)
theorem sz_t {s : List Nat} (h : s.all okc = true) (hl : s.length ≤ 5000) : Sz 0 10000 (.str s) := sz_str h (by omega)
/-! ### one and the same -/
theorem dd {x : List Nat} : decide (x = x) = true := decide_eq_true rfl
theorem eq_b {a b : Bool} : vEq (.bl a) (.bl b) = some (.bl (decide (a = b))) := rfl
theorem s_listed (n : Nat) (S : Store) {ys : List (List Nat)} (hne : ys ≠ []) (h : ∀ y ∈ ys, y.length ≤ 200) (hl : ys.length ≤ 100) : C (n + 1) i_listed [.lst (ys.map .str), .str [32]] S = .ok (.str (TL.joinL [32] ys)) S := by
  rw [cc rfl n _ S rfl]
  walk_at "es"
  rw [show decide ((0 : Int) < ((ys.map PV.str).length : Int)) = true from decide_eq_true (by
    rw [List.length_map]
    have := List.length_pos_iff.mpr hne
    omega)]
  walk_at "es2"
  rw [join_s (B := 200) (K := 100) h hl (by decide)]
  walk_at "es2"
theorem s_swords (n : Nat) (S : Store) {v : PV} {ws : List (List Nat)} (hv : sqOf v = some (ws.map .str)) (hne : ws ≠ []) (h : ∀ y ∈ ws, y.length ≤ 100) (hl : ws.length ≤ 100) : C (n + 2) i_show_words [v] S = .ok (.str (TL.joinL [32] (ws.map wordT))) S := by
  rw [cc rfl (n + 1) _ S rfl]
  walk_at "es"
  rw [hv]
  walk_at "es2"
  rw [lc_enc PV.str (fun w => PV.str (wordT w)) (s_le hl) (fun w hw => ⟨_, rfl, by walk_at "es", by walk_at "es"; rw [s_show_word n]⟩)]
  walk_at "es2"
  rw [show ws.map (fun w => PV.str (wordT w)) = (ws.map wordT).map .str from by rw [List.map_map]; rfl, s_listed n S (fun z => hne (List.map_eq_nil_iff.mp z)) (fun y hy => by
    obtain ⟨w, hw, rfl⟩ := List.mem_map.mp hy
    have := wordT_le w
    have := h w hw
    omega) (by rw [List.length_map]; exact hl)]
  walk_at "es2"
theorem s_words_right (n : Nat) {S : Store} {c m : Nat} (h : Wat S c m) (hm : m ≤ 10000) {k : Nat} (h1 : 1 ≤ k) (hk : k ≤ 12) :
    ∃ S' : Store, C (n + 7) i_law_words_right [.cell c, .int (k : Int)] S = .ok (.bl true) S' ∧ Wat S' c (m + 200) := by
  obtain ⟨j, S1, e1, hj, w1⟩ := d_draw (n + 5) h (by omega) (many := 2) (by decide) (by decide)
  obtain ⟨most, em, hmost⟩ : ∃ most : Nat, vIdx (.lst [.int 3, .int 60]) (.int (j : Int)) = some (.int (most : Int)) ∧ most ≤ 60 := by
    rcases (by omega : j = 0 ∨ j = 1) with rfl | rfl
    · exact ⟨3, rfl, by decide⟩
    · exact ⟨60, rfl, by decide⟩
  obtain ⟨w, S2, e2, hw, w2⟩ := s_lword (n + 4) w1 (by omega) h1 hk hmost
  obtain ⟨o, S3, e3, ho, w3⟩ := s_lword (n + 4) w2 (by omega) h1 hk (most := 3) (by decide)
  refine ⟨S3, ?_, wat_mono w3 (by omega)⟩
  have hwl := hw.len
  have hol := ho.len
  have e3' : C (n + 6) 67 [.cell c, .int (k : Int), .int 3] S2 = .ok (.str o) S3 := e3
  have r1 := repr_two (sz_t (wordT_okc hw.ok) (by have := wordT_le w; omega)) (by decide) (by decide)
  have r2 := repr_two (sz_t (wOk_okc hw.ok) (by omega)) (by decide) (by decide)
  have hrow : TL.joinL [32] ([w, o, [], o].map wordT) = TL.joinL [32] [wordT w, wordT o, wordT [], wordT o] := rfl
  have r3 := repr_two (sz_t (s := TL.joinL [32] ([w, o, [], o].map wordT)) (all_join (by decide) fun y hy => by
    obtain ⟨x, hx, rfl⟩ := List.mem_map.mp hy
    refine wordT_okc ?_
    simp at hx
    rcases hx with rfl | rfl | rfl | rfl
    · exact hw.ok
    · exact ho.ok
    · intro _ h; cases h
    · exact ho.ok) (Nat.le_trans (join_le2 (B := 61) (fun y hy => by
      obtain ⟨x, hx, rfl⟩ := List.mem_map.mp hy
      have := wordT_le x
      simp at hx
      rcases hx with rfl | rfl | rfl | rfl
      · omega
      · omega
      · simp at this; omega
      · omega) 4 (by simp)) (by decide))) (by decide) (by decide)
  have hb : ∀ y ∈ [w, o, [], o], y.length ≤ 100 := fun y hy => by
    simp at hy
    rcases hy with rfl | rfl | rfl | rfl
    · omega
    · omega
    · simp
    · omega
  rw [cc h68 (n + 6) _ S rfl]
  unfold c68
  walk_at "es"
  rw [show (PV.int 2) = .int ((2 : Nat) : Int) from rfl, e1]
  walk_at "es2"
  rw [em]
  walk_at "es2"
  rw [e2]
  walk_at "es2"
  rw [e3']
  walk_at "es2"
  rw [s_wtext (n + 5)]
  walk_at "es2"
  rw [s_show_word (n + 5)]
  walk_at "es2"
  rw [s_show_word (n + 5)]
  walk_at "es2"
  rw [r1]
  walk_at "es2"
  rw [s_rd_word n S3 h1 hk hw.b hw.ok (by omega)]
  walk_at "es2"
  unfold dCallS
  walk_at "es2"
  rw [s_rd_word n S3 h1 hk hw.b hw.ok (by omega)]
  walk_at "es2"
  rw [r2]
  walk_at "es2"
  rw [show ([PV.str w, PV.str o, PV.str [], PV.str o] : List PV) = [w, o, [], o].map .str from rfl]
  rw [lc_enc PV.str (fun w => PV.str (wordT w)) (s_le (k := 4) (Nat.le_refl _)) (fun x hx => ⟨_, rfl, by walk_at "es", by walk_at "es"; rw [s_wtext (n + 5)]⟩)]
  walk_at "es2"
  rw [show [w, o, [], o].map (fun w => PV.str (wordT w)) = ([w, o, [], o].map wordT).map .str from rfl, join_s (B := 101) (K := 4) (fun y hy => by
    obtain ⟨x, hx, rfl⟩ := List.mem_map.mp hy
    have := wordT_le x
    have := hb x hx
    omega) (by simp) (by decide)]
  walk_at "es2"
  rw [s_swords (n + 4) S3 (v := .lst ([w, o, [], o].map .str)) rfl (by simp) hb (by simp)]
  walk_at "es2"
  rw [s_swords (n + 4) S3 (v := .tup ([w, o, [], o].map .str)) rfl (by simp) hb (by simp)]
  walk_at "es2"
  rw [r3]
  walk_at "es2"
  rw [s_show_word (n + 5)]
  walk_at "es2"
  rw [eq_b]
  walk_at "es2"
  have : decide (wordT o = wordT w) = decide (w = o) := by
    by_cases q : w = o
    · subst q; rw [dd, dd]
    · rw [decide_eq_false q, decide_eq_false]
      intro z
      have := congrArg textF z
      rw [word_back ho.ok, word_back hw.ok] at this
      exact q this.symm
  rw [this]
  simp
end K73
end
section
set_option Elab.async false
set_option linter.all false
set_option autoImplicit false
set_option maxRecDepth 100000
set_option maxHeartbeats 0
namespace K73
open PySem PySem.Spec PyProof.Rows L2 Tg
local macro_rules | `(tactic| walk_at "es") => `(tactic| try simp only [st0, st1, st2, st3, st4, evS, ev, evO, dSeqS, dSkip, dExpr, dRet, dRetN, dIfS, dAsg, dC, dNil, dCons, consV, dTup, dLst, dB1, dB2, dChain, dIte, dAnd, dOr, dNot, dCall,
  dCutL, dCutH, dCutB, dM1, dIx, dSeq, dSrc, dLc, dFor, dPar2, oCons, oNil, wipeE, opF, cmF, u1F, u2F, m1F, isiN, rngF, Tgt.put, List.set, List.headD_cons, List.tail_cons,
  bnd_ok, bnd_bad, bnd_exc, okv_s, onBl_b, onI_i, onS_s, onT_s, tst_b, tstS_b, okE_s, outF_rt, outF_nx, outF_exc, seqK_nx, seqK_rt, okL_s, asL_l, okN0, okN1, okN2, okN3, okN4, okN5, v0, v1, v2, v3, v4, v5, v6, v7, v8, v9, v10, v11,
  isi1, isi2, isi3, isi4, isi5, iss1, iss2, iss3, iss4, iss5, ist1, ist2, ist3, ist4, ist5, isn1, isn2, isn3, isb5, len_t, len_l, lt_i, le_i, gt_i, ge_i, eq_i, ne_i, eq_s, ne_s, lt_s, add_i, sub_i, neg_i, is_non, is_t, is_s, is_i, isn_non, isn_t, isn_s, isn_i,
  at_t0, at_t1, at_t2, at_t3, at_t4, ixt, ixl, ixs, sq_t, sq_l, sq_s, tup_l, in_c, nin_c, and_bl, or_bl, ite_ok, ret_ok, guard_ok, ib_and, ib_or, ib_f, nc0, nc1, nc2, nc3, nc4, nc5, nc6, Int.reduceLE, Int.reduceLT, Int.reduceEq, decide_true, decide_false, Int.le_refl, Int.lt_irrefl,
  List.length_cons, List.length_nil, List.replicate, List.cons_append, List.nil_append, Nat.add_zero, Nat.zero_add, Nat.reduceAdd, Nat.reduceSub, Option.getD_some, Option.getD_none, Bool.not_false, Bool.not_true, Bool.true_or, Bool.false_or, Bool.true_and, Bool.false_and, Bool.and_true, Bool.or_true, Bool.or_false, if_true, if_false, Bool.false_eq_true, ite_true, ite_false])
local macro_rules | `(tactic| walk_at "es2") => `(tactic| try simp -implicitDefEqProofs only [st0, st1, st2, st3, st4, evS, ev, evO, dSeqS, dSkip, dExpr, dRet, dRetN, dIfS, dAsg, dC, dNil, dCons, consV, dTup, dLst, dB1, dB2, dChain, dIte, dAnd, dOr, dNot, dCall,
  dCutL, dCutH, dCutB, dM1, dIx, dSeq, dSrc, dLc, dFor, dPar2, oCons, oNil, wipeE, opF, cmF, u1F, u2F, m1F, isiN, rngF, Tgt.put, List.set, List.headD_cons, List.tail_cons,
  bnd_ok, bnd_bad, bnd_exc, okv_s, onBl_b, onI_i, onS_s, onT_s, tst_b, tstS_b, okE_s, outF_rt, outF_nx, outF_exc, seqK_nx, seqK_rt, okL_s, asL_l, okN0, okN1, okN2, okN3, okN4, okN5, v0, v1, v2, v3, v4, v5, v6, v7, v8, v9, v10, v11,
  isi1, isi2, isi3, isi4, isi5, iss1, iss2, iss3, iss4, iss5, ist1, ist2, ist3, ist4, ist5, isn1, isn2, isn3, isb5, len_t, len_l, lt_i, le_i, gt_i, ge_i, eq_i, ne_i, eq_s, ne_s, lt_s, add_i, sub_i, neg_i, is_non, is_t, is_s, is_i, isn_non, isn_t, isn_s, isn_i,
  at_t0, at_t1, at_t2, at_t3, at_t4, ixt, ixl, ixs, sq_t, sq_l, sq_s, tup_l, in_c, nin_c, and_bl, or_bl, ite_ok, ret_ok, guard_ok, ib_and, ib_or, ib_f, nc0, nc1, nc2, nc3, nc4, nc5, nc6, Int.reduceLE, Int.reduceLT, Int.reduceEq, decide_true, decide_false, Int.le_refl, Int.lt_irrefl,
  List.length_cons, List.length_nil, List.replicate, List.cons_append, List.nil_append, Nat.add_zero, Nat.zero_add, Nat.reduceAdd, Nat.reduceSub, Option.getD_some, Option.getD_none, Bool.not_false, Bool.not_true, Bool.true_or, Bool.false_or, Bool.true_and, Bool.false_and, Bool.and_true, Bool.or_true, Bool.or_false, if_true, if_false, Bool.false_eq_true, ite_true, ite_false])
theorem side_at {j : Nat} (h : j < 2) : ∃ sd : Sd, vIdx (.lst [.str [108, 101, 102, 116], .str [114, 105, 103, 104, 116]]) (.int (j : Int)) = some (.str sd.s) := by
  rcases (by omega : j = 0 ∨ j = 1) with rfl | rfl
  · exact ⟨.left, rfl⟩
  · exact ⟨.right, rfl⟩
theorem s_patterns_right (n : Nat) {S : Store} {c m : Nat} (h : Wat S c m) (hm : m ≤ 10000) {k : Nat} (h1 : 1 ≤ k) (hk : k ≤ 12) :
    ∃ S' : Store, C (n + 9) i_law_patterns_right [.cell c, .int (k : Int)] S = .ok (.bl true) S' ∧ Wat S' c (m + 1100) := by
  obtain ⟨j, S1, e1, hj, w1⟩ := d_draw (n + 7) h (by omega) (many := 2) (by decide) (by decide)
  obtain ⟨sd, es1⟩ := side_at hj
  obtain ⟨p, S2, e2, hp, w2⟩ := s_pattern (n + 4) w1 (by omega) h1 hk sd (rows := 4) (most := 5) (by decide) (by decide)
  obtain ⟨q, S3, e3, hq, w3⟩ := s_pattern (n + 4) w2 (by omega) h1 hk sd (rows := 2) (most := 2) (by decide) (by decide)
  refine ⟨S3, ?_, wat_mono w3 (by omega)⟩
  have e2' : C (n + 8) 60 [.cell c, .int (k : Int), .str sd.s, .int 4, .int 5] S1 = .ok (ePat p) S2 := e2
  have e3' : C (n + 8) 60 [.cell c, .int (k : Int), .str sd.s, .int 2, .int 2] S2 = .ok (ePat q) S3 := e3
  have r1 := repr_two (sz_t (patT_okc hp.ok) (by have := patT_len hp.ok 4 hp.ok.1.2; omega)) (by decide) (by decide)
  have r2 := repr_two (sz_pat hp.ok) (by decide) (by decide)
  rw [cc h69 (n + 8) _ S rfl]
  unfold c69
  walk_at "es"
  rw [show C (n + 8) 57 [.cell c, .int 2] S = .ok (.int (j : Int)) S1 from e1]
  walk_at "es2"
  rw [es1]
  walk_at "es2"
  rw [e2']
  walk_at "es2"
  rw [e3']
  walk_at "es2"
  rw [s_ptext (n + 7) S3 hp.ok]
  walk_at "es2"
  rw [s_show_pattern (n + 5) S3 (pOk_s hp.ok)]
  walk_at "es2"
  rw [s_show_pattern (n + 5) S3 (pOk_s hp.ok)]
  walk_at "es2"
  rw [r1]
  walk_at "es2"
  rw [s_rd_pattern n S3 h1 hk hp.b hp.ok]
  walk_at "es2"
  unfold dCallS
  walk_at "es2"
  rw [s_rd_pattern n S3 h1 hk hp.b hp.ok]
  walk_at "es2"
  rw [r2]
  walk_at "es2"
  rw [s_show_pattern (n + 5) S3 (pOk_s hq.ok)]
  walk_at "es2"
  rw [repr_sz (sz_pat hq.ok) (by decide) (by decide), repr_sz (sz_pat hp.ok) (by decide) (by decide)]
  walk_at "es2"
  rw [eq_b]
  walk_at "es2"
  have : decide (patT q = patT p) = decide (rp (ePat q) = rp (ePat p)) := by
    by_cases z : patT q = patT p
    · have e := congrArg patF z
      rw [pat_back hq.ok, pat_back hp.ok] at e
      subst e
      rw [dd, dd]
    · rw [decide_eq_false z, decide_eq_false]
      intro e
      have e1 := rp_eq (sz_pat hq.ok).s (sz_pat hp.ok).s e
      have a := s_show_pattern n S (pOk_s hq.ok)
      rw [e1, s_show_pattern n S (pOk_s hp.ok)] at a
      injection a with a _
      injection a with a
      exact z a.symm
  rw [this]
  simp
theorem pl_s {p : Pl2} (h : plOk' p) : plS p := ⟨Nat.le_trans h.1 (by decide), fun s hs => ⟨by have := (h.2 s hs).1; unfold abc at this; omega, Nat.lt_of_le_of_lt (h.2 s hs).2 (by decide)⟩⟩
theorem s_show_mac (n : Nat) (S : Store) {k : Nat} (hk : k ≤ 12) {l : List Pl2} (h : ∀ p ∈ l, plOk' p) (hl : l.length ≤ 12) : C (n + 2) i_show_machine [eMac (k, l)] S = .ok (.str (macT k l)) S :=
  s_show_machine n S (Nat.lt_of_le_of_lt hk (by decide)) (fun p hp => pl_s (h p hp)) (Nat.le_trans hl (by decide))
theorem s_machines_right (n : Nat) {S : Store} {c m : Nat} (h : Wat S c m) (hm : m ≤ 10000) {k : Nat} (h1 : 1 ≤ k) (hk : k ≤ 12) :
    ∃ S' : Store, C (n + 9) i_law_machines_right [.cell c, .int (k : Int)] S = .ok (.bl true) S' ∧ Wat S' c (m + 800) := by
  obtain ⟨l, S1, e1, hl, w1⟩ := s_lmachine (n + 6) h (by omega) h1 hk (most := 12) (by decide)
  obtain ⟨l2, S2, e2, hl2, w2⟩ := s_lmachine (n + 6) w1 (by omega) h1 hk (most := 2) (by decide)
  refine ⟨S2, ?_, wat_mono w2 (by omega)⟩
  have e1' : C (n + 8) 61 [.cell c, .int (k : Int), .int 12] S = .ok (eMac (k, l)) S1 := e1
  have e2' : C (n + 8) 61 [.cell c, .int (k : Int), .int 2] S1 = .ok (eMac (k, l2)) S2 := e2
  have hl2' : l2.length ≤ 12 := Nat.le_trans hl2.len (by decide)
  have r1 := repr_two (sz_t (macT_okc (k := k) hl.ok) (by have := macT_len hk hl.ok hl.len; omega)) (by decide) (by decide)
  have r2 := repr_two (sz_mac hk hl.ok hl.len) (by decide) (by decide)
  rw [cc h71 (n + 8) _ S rfl]
  unfold c71
  walk_at "es"
  rw [e1']
  walk_at "es2"
  rw [e2']
  walk_at "es2"
  rw [s_mtext (n + 7) S2 hk hl.ok hl.len]
  walk_at "es2"
  rw [s_show_mac (n + 6) S2 hk hl.ok hl.len]
  walk_at "es2"
  rw [s_show_mac (n + 6) S2 hk hl.ok hl.len]
  walk_at "es2"
  rw [r1]
  walk_at "es2"
  rw [s_rd_machine n S2 hk (Nat.le_refl 12) hl]
  walk_at "es2"
  rw [s_rd_machine n S2 hk (Nat.le_refl 12) hl]
  walk_at "es2"
  rw [r2]
  walk_at "es2"
  rw [s_show_mac (n + 6) S2 hk hl2.ok hl2']
  walk_at "es2"
  rw [repr_sz (sz_mac hk hl2.ok hl2') (by decide) (by decide), repr_sz (sz_mac hk hl.ok hl.len) (by decide) (by decide)]
  walk_at "es2"
  rw [eq_b]
  walk_at "es2"
  have : decide (macT k l2 = macT k l) = decide (rp (eMac (k, l2)) = rp (eMac (k, l))) := by
    by_cases z : macT k l2 = macT k l
    · have e := congrArg macR z
      rw [mac_back hk hl2.ok hl2.b, mac_back hk hl.ok hl.b] at e
      injection e with e
      rw [e, z, dd, dd]
    · rw [decide_eq_false z, decide_eq_false]
      intro e
      have e1 := rp_eq (sz_mac hk hl2.ok hl2').s (sz_mac hk hl.ok hl.len).s e
      have a := s_show_mac n S hk hl2.ok hl2'
      rw [e1, s_show_mac n S hk hl.ok hl.len] at a
      injection a with a _
      injection a with a
      exact z a.symm
  rw [this]
  simp
theorem s_show_cas (n : Nat) (S : Store) {k : Nat} (hk : k ≤ 12) {l : List Rule} (h : ∀ r ∈ l, r.gd) (hl : l.length ≤ 4) : C (n + 5) i_show_cascade [eCas (k, l)] S = .ok (.str (casT k l)) S :=
  s_show_cascade n S (Nat.lt_of_le_of_lt hk (by decide)) (fun r hr => gd_sm (h r hr)) (Nat.le_trans hl (by decide))
theorem b_rules (n : Nat) (S : Store) {k : Nat} (h1 : 1 ≤ k) (hk : k ≤ 12) {r : Rule} (h : RuleD k r) {a0 a2 a4 a5 a6 : Sl} :
    evS (Pn (n + 9)) b70_0 [a0, .val (.int (k : Int)), a2, .val (eRule r), a4, a5, a6] S = .ok (.nx [a0, .val (.int (k : Int)), a2, .val (eRule r), a4, .val (.str (ruT r)), a6]) S := by
  have r1 := repr_two (sz_t (ruT_okc h.gd) (by have := ruT_len h.gd; omega)) (by decide) (by decide)
  have r2 := repr_two (sz_rule h.gd) (by decide) (by decide)
  unfold b70_0
  walk_at "es"
  rw [s_rtext (n + 7) S h.gd]
  walk_at "es2"
  rw [s_show_rule (n + 5) S (gd_sm h.gd)]
  walk_at "es2"
  rw [s_show_rule (n + 5) S (gd_sm h.gd)]
  walk_at "es2"
  rw [r1]
  walk_at "es2"
  rw [s_rd_rule n S h1 hk h]
  walk_at "es2"
  unfold dCallS
  walk_at "es2"
  rw [s_rd_rule n S h1 hk h]
  walk_at "es2"
  rw [r2]
  walk_at "es2"
theorem s_rules_right (n : Nat) {S : Store} {c m : Nat} (h : Wat S c m) (hm : m ≤ 5000) {k : Nat} (h1 : 1 ≤ k) (hk : k ≤ 12) :
    ∃ S' : Store, C (n + 10) i_law_rules_right [.cell c, .int (k : Int)] S = .ok (.bl true) S' ∧ Wat S' c (m + 4300) := by
  obtain ⟨j, S1, e1, hj, w1⟩ := d_draw (n + 8) h (by omega) (many := 5) (by decide) (by decide)
  obtain ⟨zs, S2, e2, z1, z2, ⟨m2, w2, b2⟩⟩ := lc_y (t := .name 6) (tt := dC (.bl true)) (te := dCall (C (n + 9)) 62 (dCons (dVar 0) (dCons (dVar 1) dNil))) (ρ := [.val (.cell c), .val (.int (k : Int)), .no, .no, .no, .no, .no])
    (fun x : Nat => PV.int (x : Int)) (fun (_ : Nat) r => eRule r) (fun _ r => RuleD k r) (fun xs S => ∃ m', Wat S c m' ∧ m' + 1050 * xs.length ≤ m + 4201) (fun x xs S0 ⟨m', hw, hb⟩ => by
      rw [List.length_cons] at hb
      obtain ⟨r, S', e, hr, hw'⟩ := s_any_rule (n + 4) hw (by omega) h1 hk
      refine ⟨_, r, S', rfl, rfl, ?_, hr, m' + 1050, hw', by omega⟩
      walk_at "es"
      rw [e]) (List.range j) S1 ⟨m + 1, w1, by rw [List.length_range]; omega⟩
  obtain ⟨l, hzl⟩ : ∃ l, l = zs.map (·.2) := ⟨_, rfl⟩
  have hlen : l.length = j := by
    have := congrArg List.length z1
    rw [List.length_map, List.length_range] at this
    rw [hzl, List.length_map]; exact this
  have hl : ∀ r ∈ l, RuleD k r := fun r hr => by
    rw [hzl] at hr
    obtain ⟨z, hz, rfl⟩ := List.mem_map.mp hr
    exact z2 z hz
  have hg : ∀ r ∈ l, r.gd := fun r hr => (hl r hr).gd
  have hle : zs.map (fun z => eRule z.2) = l.map eRule := by rw [hzl, List.map_map]; rfl
  rw [hle] at e2
  have hl4 : l.length ≤ 4 := by omega
  obtain ⟨⟨g3, g5⟩, S3, e3, hS, _⟩ := for_g (t := .name 3) (db := evS (Pn (n + 9)) b70_0) eRule (fun g : Sl × Sl => [.val (.cell c), .val (.int (k : Int)), .val (.lst (l.map eRule)), g.1, .no, g.2, .no])
    (fun xs g S' => S' = S2 ∧ ∀ x ∈ xs, RuleD k x) (fun x xs g S' ⟨hS, hx⟩ => by
      subst hS
      exact ⟨_, (.val (eRule x), .val (.str (ruT x))), S', rfl, b_rules n S' h1 hk (hx x (List.mem_cons_self ..)), rfl, fun y hy => hx y (List.mem_cons_of_mem _ hy)⟩) l (.no, .no) S2 ⟨rfl, hl⟩
  dsimp only at e3
  replace hS : S3 = S2 := hS
  subst hS
  refine ⟨S3, ?_, wat_mono w2 (by rw [List.length_nil] at b2; omega)⟩
  have r1 := repr_two (sz_t (casT_okc (k := k) hg) (by have := casT_len hk hg hl4; omega)) (by decide) (by decide)
  have r2 := repr_two (sz_cas hk hg hl4) (by decide) (by decide)
  rw [cc h70 (n + 9) _ S rfl]
  unfold c70
  walk_at "es"
  rw [show C (n + 9) 57 [.cell c, .int 5] S = .ok (.int (j : Int)) S1 from e1]
  walk_at "es2"
  rw [rng_n j (by omega)]
  walk_at "es2"
  rw [lcK_of (by rw [List.length_map, List.length_range]; exact Nat.le_trans (show j ≤ 100 by omega) (by decide)) e2]
  walk_at "es2"
  rw [e3]
  walk_at "es2"
  rw [str_n (Nat.lt_of_le_of_lt hk (by decide))]
  walk_at "es2"
  rw [lc_enc eRule (fun r => PV.str (ruT r)) (s_le hl4) (fun r hr => ⟨_, rfl, by walk_at "es", by walk_at "es"; rw [s_rtext (n + 7) S3 (hg r hr)]⟩)]
  walk_at "es2"
  rw [add_l (by simp; omega)]
  walk_at "es2"
  rw [show (PV.str (TL.numL k) :: l.map (fun r => PV.str (ruT r))) = (TL.numL k :: l.map ruT).map .str from by rw [List.map_cons, List.map_map]; rfl]
  rw [join_s (B := 420) (K := 5) (fun y hy => by
    rcases List.mem_cons.mp hy with rfl | hy
    · exact Nat.le_trans (TL.numL_len (k := 2) (by decide) (by omega)) (by decide)
    · obtain ⟨r, hr, rfl⟩ := List.mem_map.mp hy
      exact ruT_len (hg r hr)) (by simp; omega) (by decide)]
  walk_at "es2"
  rw [show TL.joinL [32, 59, 32] (TL.numL k :: l.map ruT) = casT k l from rfl, show PV.tup [.int (k : Int), .tup (l.map eRule)] = eCas (k, l) from rfl]
  rw [s_show_cas (n + 4) S3 hk hg hl4]
  walk_at "es2"
  rw [s_show_cas (n + 4) S3 hk hg hl4]
  walk_at "es2"
  rw [r1]
  walk_at "es2"
  rw [s_rd_cascade n S3 h1 hk hl hl4]
  walk_at "es2"
  rw [s_rd_cascade n S3 h1 hk hl hl4]
  walk_at "es2"
  rw [r2]
  walk_at "es2"
  rw [cutL, tailP]
  walk_at "es2"
  rw [tl_map, show PV.tup [.int (k : Int), .tup (l.tail.map eRule)] = eCas (k, l.tail) from rfl]
  rw [s_show_cas (n + 4) S3 hk (fun r hr => hg r (List.mem_of_mem_tail hr)) (by rw [List.length_tail]; omega)]
  walk_at "es2"
  rw [eq_l0 (k := 4) (fun x hx => by
    obtain ⟨r, hr, rfl⟩ := List.mem_map.mp hx
    exact gd_rule (gd_ok (hg r hr)))]
  walk_at "es2"
  cases l with
  | nil => simp
  | cons a t =>
    have : ¬ (casT k (a :: t).tail = casT k (a :: t)) := by
      intro z
      have e := congrArg casR z
      have hb : ∀ q : List Rule, q.length ≤ 4 → (∀ r ∈ q, RuleD k r) → casB k q = true := fun q hq hr => by
        unfold casB
        rw [show isN (k : Int) = true from isN_of h1 hk, decide_eq_true (by omega)]
        exact List.all_eq_true.mpr fun r hrr => (hr r hrr).b
      rw [List.tail_cons, cas_back hk (fun r hr => hg r (List.mem_cons_of_mem _ hr)) (hb t (by simp at hl4; omega) fun r hr => hl r (List.mem_cons_of_mem _ hr)), cas_back hk hg (hb _ hl4 hl)] at e
      injection e with e
      injection e with _ e
      have := congrArg List.length e
      simp at this
    rw [decide_eq_false this]
    simp
end K73
end
section
set_option Elab.async false
set_option linter.all false
set_option autoImplicit false
set_option maxRecDepth 100000
set_option maxHeartbeats 0
namespace K73
open PySem PySem.Spec PyProof.Rows L2 Tg
local macro_rules | `(tactic| walk_at "es") => `(tactic| try simp only [st0, st1, st2, st3, st4, evS, ev, evO, dSeqS, dSkip, dExpr, dRet, dRetN, dIfS, dAsg, dC, dNil, dCons, consV, dTup, dLst, dB1, dB2, dChain, dIte, dAnd, dOr, dNot, dCall,
  dCutL, dCutH, dCutB, dM1, dIx, dSeq, dSrc, dLc, dFor, dPar2, oCons, oNil, wipeE, opF, cmF, u1F, u2F, m1F, isiN, rngF, Tgt.put, List.set, List.headD_cons, List.tail_cons,
  bnd_ok, bnd_bad, bnd_exc, okv_s, onBl_b, onI_i, onS_s, onT_s, tst_b, tstS_b, okE_s, outF_rt, outF_nx, outF_exc, seqK_nx, seqK_rt, okL_s, asL_l, okN0, okN1, okN2, okN3, okN4, okN5, v0, v1, v2, v3, v4, v5, v6, v7, v8, v9, v10, v11,
  isi1, isi2, isi3, isi4, isi5, iss1, iss2, iss3, iss4, iss5, ist1, ist2, ist3, ist4, ist5, isn1, isn2, isn3, isb5, len_t, len_l, lt_i, le_i, gt_i, ge_i, eq_i, ne_i, eq_s, ne_s, lt_s, add_i, sub_i, neg_i, is_non, is_t, is_s, is_i, isn_non, isn_t, isn_s, isn_i,
  at_t0, at_t1, at_t2, at_t3, at_t4, ixt, ixl, ixs, sq_t, sq_l, sq_s, tup_l, in_c, nin_c, and_bl, or_bl, ite_ok, ret_ok, guard_ok, ib_and, ib_or, ib_f, nc0, nc1, nc2, nc3, nc4, nc5, nc6, Int.reduceLE, Int.reduceLT, Int.reduceEq, decide_true, decide_false, Int.le_refl, Int.lt_irrefl,
  List.length_cons, List.length_nil, List.replicate, List.cons_append, List.nil_append, Nat.add_zero, Nat.zero_add, Nat.reduceAdd, Nat.reduceSub, Option.getD_some, Option.getD_none, Bool.not_false, Bool.not_true, Bool.true_or, Bool.false_or, Bool.true_and, Bool.false_and, Bool.and_true, Bool.or_true, Bool.or_false, if_true, if_false, Bool.false_eq_true, ite_true, ite_false])
local macro_rules | `(tactic| walk_at "es2") => `(tactic| try simp -implicitDefEqProofs only [st0, st1, st2, st3, st4, evS, ev, evO, dSeqS, dSkip, dExpr, dRet, dRetN, dIfS, dAsg, dC, dNil, dCons, consV, dTup, dLst, dB1, dB2, dChain, dIte, dAnd, dOr, dNot, dCall,
  dCutL, dCutH, dCutB, dM1, dIx, dSeq, dSrc, dLc, dFor, dPar2, oCons, oNil, wipeE, opF, cmF, u1F, u2F, m1F, isiN, rngF, Tgt.put, List.set, List.headD_cons, List.tail_cons,
  bnd_ok, bnd_bad, bnd_exc, okv_s, onBl_b, onI_i, onS_s, onT_s, tst_b, tstS_b, okE_s, outF_rt, outF_nx, outF_exc, seqK_nx, seqK_rt, okL_s, asL_l, okN0, okN1, okN2, okN3, okN4, okN5, v0, v1, v2, v3, v4, v5, v6, v7, v8, v9, v10, v11,
  isi1, isi2, isi3, isi4, isi5, iss1, iss2, iss3, iss4, iss5, ist1, ist2, ist3, ist4, ist5, isn1, isn2, isn3, isb5, len_t, len_l, lt_i, le_i, gt_i, ge_i, eq_i, ne_i, eq_s, ne_s, lt_s, add_i, sub_i, neg_i, is_non, is_t, is_s, is_i, isn_non, isn_t, isn_s, isn_i,
  at_t0, at_t1, at_t2, at_t3, at_t4, ixt, ixl, ixs, sq_t, sq_l, sq_s, tup_l, in_c, nin_c, and_bl, or_bl, ite_ok, ret_ok, guard_ok, ib_and, ib_or, ib_f, nc0, nc1, nc2, nc3, nc4, nc5, nc6, Int.reduceLE, Int.reduceLT, Int.reduceEq, decide_true, decide_false, Int.le_refl, Int.lt_irrefl,
  List.length_cons, List.length_nil, List.replicate, List.cons_append, List.nil_append, Nat.add_zero, Nat.zero_add, Nat.reduceAdd, Nat.reduceSub, Option.getD_some, Option.getD_none, Bool.not_false, Bool.not_true, Bool.true_or, Bool.false_or, Bool.true_and, Bool.false_and, Bool.and_true, Bool.or_true, Bool.or_false, if_true, if_false, Bool.false_eq_true, ite_true, ite_false])
theorem okN6 {a b c d e f v : PV} {S : Store} : okN [a, b, c, d, e, f] v S = .ok v S := if_pos (show 6 ≤ sizeLine by decide)
theorem n_at {j : Nat} (h : j < 6) : ∃ k : Nat, vIdx (.lst [.int 1, .int 2, .int 2, .int 3, .int 4, .int 12]) (.int (j : Int)) = some (.int (k : Int)) ∧ 1 ≤ k ∧ k ≤ 12 := by
  rcases (by omega : j = 0 ∨ j = 1 ∨ j = 2 ∨ j = 3 ∨ j = 4 ∨ j = 5) with rfl | rfl | rfl | rfl | rfl | rfl
  · exact ⟨1, rfl, by decide⟩
  · exact ⟨2, rfl, by decide⟩
  · exact ⟨2, rfl, by decide⟩
  · exact ⟨3, rfl, by decide⟩
  · exact ⟨4, rfl, by decide⟩
  · exact ⟨12, rfl, by decide⟩
theorem b_law (n : Nat) (ns : List Int) (hl : ns.length ≤ 63) (k : Nat) (hk : k ≤ 100) (S : Store) {a2 a3 : Sl} :
    ∃ (g : Sl × Sl) (S' : Store), evS (Pn (n + 10)) b72_0 [.val (.lst (ns.map .int)), .val (.int (k : Int)), a2, a3] S = .ok (.nx [.val (.lst (ns.map .int)), .val (.int (k : Int)), g.1, g.2]) S' := by
  obtain ⟨a, b, e1, hb⟩ := s_well (n + 9) S ns (by omega) k (by omega)
  have hW : Wat (S ++ [[.int a, .int b, .int 0]]) S.length 0 := ⟨a, b, 0, by rw [List.getElem?_append_right (Nat.le_refl _), Nat.sub_self]; rfl, hb, by decide, by decide⟩
  obtain ⟨j, S1, e2, hj, w1⟩ := d_draw (n + 9) hW (by omega) (many := 6) (by decide) (by decide)
  obtain ⟨kk, ek, k1, k2⟩ := n_at hj
  obtain ⟨S2, e3, w2⟩ := s_words_right (n + 3) w1 (by omega) k1 k2
  obtain ⟨S3, e4, w3⟩ := s_patterns_right (n + 1) w2 (by omega) k1 k2
  obtain ⟨S4, e5, w4⟩ := s_rules_right n w3 (by omega) k1 k2
  obtain ⟨S5, e6, w5⟩ := s_machines_right (n + 1) w4 (by omega) k1 k2
  refine ⟨(.val (.cell S.length), .val (.int (kk : Int))), S5, ?_⟩
  unfold b72_0
  walk_at "es"
  rw [e1]
  walk_at "es2"
  rw [okN6]
  walk_at "es2"
  rw [show C (n + 10) 57 [.cell S.length, .int 6] (S ++ [[.int a, .int b, .int 0]]) = .ok (.int (j : Int)) S1 from e2]
  walk_at "es2"
  rw [ek]
  walk_at "es2"
  rw [e3]
  walk_at "es2"
  rw [e4]
  walk_at "es2"
  rw [e5]
  walk_at "es2"
  rw [e6]
  walk_at "es2"
theorem plain (ns : List Int) (h : ns.length ≤ 63) : ∃ S, callN G0 R0 F0 80 i_law [.lst (ns.map PV.int)] [] = .ok (.bl true) S := by
  have hk : ∃ r : Nat, r ≤ 63 ∧ (if (if (ns.length : Int) < 6 then (ns.length : Int) else 6) > 1 then (if (ns.length : Int) < 6 then (ns.length : Int) else 6) else 1) = (r : Int) := by
    refine ⟨if (if ns.length < 6 then ns.length else 6) > 1 then (if ns.length < 6 then ns.length else 6) else 1, ?_, ?_⟩
    · split <;> split <;> omega
    · split <;> split <;> split <;> split <;> omega
  obtain ⟨r, hr, er⟩ := hk
  obtain ⟨⟨g1, g2, g3⟩, S1, q1, _⟩ := for_g (t := .name 1) (db := evS (Pn (69 + 10)) b72_0) (fun k : Nat => PV.int (k : Int)) (fun g : Sl × Sl × Sl => [.val (.lst (ns.map .int)), g.1, g.2.1, g.2.2])
    (fun xs g S' => ∀ x ∈ xs, x < 63) (fun x xs g S' hI => by
      obtain ⟨g', S2, r1⟩ := b_law 69 ns h x (by have := hI x (List.mem_cons_self ..); omega) S' (a2 := g.2.1) (a3 := g.2.2)
      exact ⟨_, (.val (.int (x : Int)), g'), S2, rfl, r1, fun y hy => hI y (List.mem_cons_of_mem _ hy)⟩) (List.range r) (.no, .no, .no) [] (fun x hx => by have := List.mem_range.mp hx; omega)
  dsimp only at q1
  refine ⟨S1, ?_⟩
  show C (79 + 1) i_law _ _ = _
  rw [cc h72 79 _ [] rfl]
  unfold c72
  walk_at "es"
  rw [List.length_map, min_i]
  walk_at "es2"
  rw [max_i]
  walk_at "es2"
  rw [er, rng_n r (by omega)]
  walk_at "es2"
  rw [show (79 : Nat) = 69 + 10 from rfl, q1]
  walk_at "es2"
end K73
end
section
set_option Elab.async false
set_option maxRecDepth 100000
set_option maxHeartbeats 0
open PySem PySem.W PySem.Calls PyProof.Rows
set_option maxRecDepth 100000 in
set_option maxHeartbeats 0 in
theorem PySem.Challenge.cw_tonguerules_k73_rules_and_machines_as_te_holds : PySem.Challenge.rw_tonguerules_k73_rules_and_machines_as_te.Holds := by
  w_on; o_law
  refine HandSHeadRun.head_any (r := K73.RW) (q := view K73.RW.prog [100]) (H := K73.hk) (ob := K73.ob) (M := 40000) (loose := K73.loose) (d := HandSHeadRun.topDef K73.RW.prog 100) (kwd := []) K73.ob_eq
    (by kernel_rfl) (fun s => by kernel_rfl) K73.run (by kernel_rfl) (by kernel_rfl) (by kernel_rfl) (by rfl) (by first | assumption | decide +kernel) (by decide +kernel) ⟨rfl, rfl, rfl, rfl, rfl, by decide +kernel⟩ ?hw ?hc
  case hw => w_witness2
  case hc =>
    exact Tg.walkL (l := PySem.Challenge.rw_tonguerules_k73_rules_and_machines_as_te) (L := K73.L0) (F := K73.F0) (Ns := K73.N0) (n := 63) (m := 80) (i := K73.i_law) rfl (by decide) (by kernel_rfl) ⟨rfl, by decide, by decide⟩ rfl rfl K73.lits
      (fun w mg base K j f hj c hK hG => by
        have := List.all_eq_true.mp K73.codes _ (List.mem_of_getElem? hj)
        cases this) (by
        have e : (HandSHeadRun.topDef K73.RW.prog 100).name = ("law" : PySem.Str) := by kernel_rfl
        rw [e]
        exact List.mem_of_getElem? (i := 61) (by kernel_rfl)) K73.plain
end
