import PyProof.Rows.All
import Wide.All
import OpenK.AllK
import Wide.FinOn
import HandS.ForMost
import HandS.ForExc
import HandS.More
import HandS.Codes
import KE.LtData
import HandS.TupAny
import HandS.Text
import HandS.CallLocal
import HandS.Wide
import HandS.Deep
import HandS.IsInst
import HandS.FStr
import HandS.RaiseMore
import HandS.Iter
import HandS.Comp
import HandS.Zip
import KE.GoesNew
import KE.GoesMore
import HandS.DictComp
import HandS.Small
import HandS.Style
import HandS.Exc
import KE.KDictPairs
import KE.KExcSuper
import KE.KSuper
import HandS.ExcSuper
import HandS.ExcInit
import HandS.HeadHook3
import KE.KExcIs
import HandS.ExcField
import HandS.ExcOwn
import HandS.Head2
import HandS.HeadEnd
import HandS.Ends
import PySem.Challenge.RW_tonguerules_k75_texts_that_are_none
section
set_option Elab.async false
set_option linter.all false
set_option maxRecDepth 100000
/-! Values, code and its meaning: a small evaluator of the Python that the program is written in. -/
namespace Tg
open PySem

inductive KP where
  | i (n : Int) | s (l : List Nat)
  deriving DecidableEq, Inhabited
inductive PV where
  | non | bl (b : Bool) | int (i : Int) | str (s : List Nat)
  | tup (xs : List PV) | lst (xs : List PV) | dct (kvs : List (KP × PV)) | kdc (kvs : List (KP × PV))
  | fn (i : Nat) | cell (i : Nat)
  deriving Inhabited

abbrev Store := List (List PV)

inductive Rs (α : Type) where
  | ok (a : α) (S : Store)
  | exc (c : Nat) (v : PV) (S : Store)
  | bad

def Rs.bnd {α β : Type} (r : Rs α) (k : α → Store → Rs β) : Rs β := match r with
  | .ok a S => k a S
  | .exc c v S => .exc c v S
  | .bad => .bad

inductive Sl where
  | no | val (v : PV) | own (v : PV)
  deriving Inhabited
abbrev Env := List Sl
abbrev Den := Env → Store → Rs PV

def okv (v : Option PV) (S : Store) : Rs PV := match v with
  | some v => .ok v S
  | none => .bad

def look (ρ : Env) (i : Nat) : Sl := (ρ[i]?).getD .no

def dVar (i : Nat) : Den := fun ρ S => match look ρ i with
  | .val v => .ok v S
  | _ => .bad
def dBor (i : Nat) : Den := fun ρ S => match look ρ i with
  | .val v => .ok v S
  | .own v => .ok v S
  | .no => .bad
def dC (v : PV) : Den := fun _ S => .ok v S
def dNil : Den := fun _ S => .ok (.lst []) S
def asL : PV → List PV
  | .lst l => l
  | _ => []
def consV (v vs : PV) : PV := .lst (v :: asL vs)
def dCons (a r : Den) : Den := fun ρ S => (a ρ S).bnd fun v S1 => (r ρ S1).bnd fun vs S2 => .ok (consV v vs) S2
/-- no list is longer than the line -/
def okN (l : List PV) (v : PV) (S : Store) : Rs PV := if l.length ≤ sizeLine then .ok v S else .bad
def dTup (r : Den) : Den := fun ρ S => (r ρ S).bnd fun vs S1 => okN (asL vs) (.tup (asL vs)) S1
def dLst (r : Den) : Den := fun ρ S => (r ρ S).bnd fun vs S1 => okN (asL vs) (.lst (asL vs)) S1

/-- a new cell -/
def cellK (vs : PV) (S : Store) : Rs PV := if (asL vs).length ≤ sizeLine then .ok (.cell S.length) (S ++ [asL vs]) else .bad
def dLstC (r : Den) : Den := fun ρ S => (r ρ S).bnd cellK

def dB1 (f : PV → Option PV) (a : Den) : Den := fun ρ S => (a ρ S).bnd fun v S1 => okv (f v) S1
def dB2 (f : PV → PV → Option PV) (a b : Den) : Den := fun ρ S => (a ρ S).bnd fun v S1 => (b ρ S1).bnd fun u S2 => okv (f v u) S2

def truth : PV → Option Bool
  | .non => some false
  | .bl b => some b
  | .int i => some (i != 0)
  | .str s => if s.length ≤ sizeLine then some (!s.isEmpty) else none
  | .tup xs => some (!xs.isEmpty)
  | .lst xs => some (!xs.isEmpty)
  | _ => none

def tst (v : PV) (k : Bool → Rs PV) : Rs PV := match truth v with
  | some b => k b
  | none => .bad
def dIte (t a b : Den) : Den := fun ρ S => (t ρ S).bnd fun v S1 => tst v fun c => if c = true then a ρ S1 else b ρ S1
def onBl (v : PV) (k : Bool → Rs PV) : Rs PV := match v with
  | .bl c => k c
  | _ => .bad
def dAnd (a b : Den) : Den := fun ρ S => (a ρ S).bnd fun v S1 => onBl v fun c => if c = true then b ρ S1 else .ok (.bl false) S1
def dOr (a b : Den) : Den := fun ρ S => (a ρ S).bnd fun v S1 => onBl v fun c => if c = true then .ok (.bl true) S1 else b ρ S1
def dNot (a : Den) : Den := fun ρ S => (a ρ S).bnd fun v S1 => onBl v fun c => .ok (.bl (!c)) S1


/-! ### operators on values -/
def isz (n : Nat) (v : PV) : Option PV := if n ≤ sizeLine then some v else none
def small (i : Int) : Bool := decide (-(2 ^ 64) < i) && decide (i < 2 ^ 64)
def mulOk (i j : Int) : Bool := small i || (small j || decide (i.natAbs.log2 + j.natAbs.log2 < 1000000))
def vAdd : PV → PV → Option PV
  | .int i, .int j => some (.int (i + j))
  | .str s, .str t => isz (s.length + t.length) (.str (s ++ t))
  | .lst xs, .lst ys => isz (xs.length + ys.length) (.lst (xs ++ ys))
  | .tup xs, .tup ys => isz (xs.length + ys.length) (.tup (xs ++ ys))
  | _, _ => none
def vSub : PV → PV → Option PV
  | .int i, .int j => some (.int (i - j))
  | _, _ => none
def vMul : PV → PV → Option PV
  | .int i, .int j => if mulOk i j = true then some (.int (i * j)) else none
  | _, _ => none
def vDiv : PV → PV → Option PV
  | .int i, .int j => if 0 < j ∧ j.natAbs.log2 < 9000 then some (.int (i / j)) else none
  | _, _ => none
def vMod : PV → PV → Option PV
  | .int i, .int j => if 0 < j then some (.int (i % j)) else none
  | _, _ => none
def vPow : PV → PV → Option PV
  | .int i, .int j => if 0 ≤ j ∧ j ≤ 1000000 ∧ i.natAbs < 2 ^ 64 then some (.int (i ^ j.toNat)) else none
  | _, _ => none
def vNeg : PV → Option PV
  | .int i => some (.int (-i))
  | _ => none
/-! data -/
mutual
def toD : PV → Option PyData
  | .non => some .none
  | .bl b => some (.bool b)
  | .int i => some (.int i)
  | .str s => some (.str ⟨s.toArray⟩)
  | .tup xs => match toDs xs with
    | some ds => some (.tuple ds)
    | none => none
  | .lst xs => match toDs xs with
    | some ds => some (.list ds)
    | none => none
  | .dct _ => none
  | .kdc _ => none
  | .fn _ => none
  | .cell _ => none
def toDs : List PV → Option (List PyData)
  | [] => some []
  | x :: xs => match toD x with
    | some d => match toDs xs with
      | some ds => some (d :: ds)
      | none => none
    | none => none
end
def vEqD (a b : PV) : Option Bool := match toD a, toD b with
  | some d, some e => if (SeqAt.shaped d && SeqAt.shaped e) = true then some (PyData.eqv d e) else none
  | _, _ => none
def eqB : PV → PV → Option Bool
  | .str s, .str t => some (decide (s = t))
  | .int i, .int j => some (decide (i = j))
  | .bl i, .bl j => some (decide (i = j))
  | .non, .non => some true
  | a, b => vEqD a b
def vEq (a b : PV) : Option PV := (eqB a b).map .bl
def vNe (a b : PV) : Option PV := (eqB a b).map fun c => .bl (!c)
def lexB : List Int → List Int → Bool
  | [], [] => false
  | [], _ :: _ => true
  | _ :: _, [] => false
  | x :: xs, y :: ys => if x = y then lexB xs ys else decide (x < y)
def asInts : List PV → Option (List Int)
  | [] => some []
  | .int i :: r => (asInts r).map (i :: ·)
  | _ :: _ => none
def asBls : List PV → Option (List Bool)
  | [] => some []
  | .bl i :: r => (asBls r).map (i :: ·)
  | _ :: _ => none
def asStrs : List PV → Option (List (List Nat))
  | [] => some []
  | .str i :: r => (asStrs r).map (i :: ·)
  | _ :: _ => none
def ltD (a b : PV) : Option Bool := match toD a, toD b with
  | some d, some e => if (PySem.W.alike d e && (notN d && decide (d.depth < 60))) = true then some (PySem.W.dataLt d e) else none
  | _, _ => none
where notN : PyData → Bool
  | .none => false
  | _ => true
def ltB : PV → PV → Option Bool
  | .int i, .int j => some (decide (i < j))
  | .str s, .str t => some (decide (s < t))
  | .tup xs, .tup ys => match asInts xs, asInts ys with
    | some a, some b => some (lexB a b)
    | _, _ => ltD (.tup xs) (.tup ys)
  | a, b => ltD a b
def vLt (a b : PV) : Option PV := (ltB a b).map .bl
def vLe : PV → PV → Option PV
  | .int i, .int j => some (.bl (decide (i ≤ j)))
  | _, _ => none
def vGt : PV → PV → Option PV
  | .int i, .int j => some (.bl (decide (j < i)))
  | _, _ => none
def vGe : PV → PV → Option PV
  | .int i, .int j => some (.bl (decide (j ≤ i)))
  | _, _ => none
/-- is None -/
def vIs : PV → PV → Option PV
  | .non, .non => some (.bl true)
  | _, .non => some (.bl false)
  | _, _ => none
def vIsN : PV → PV → Option PV
  | .non, .non => some (.bl false)
  | _, .non => some (.bl true)
  | _, _ => none
def flatP : PV → Bool
  | .non => true
  | .bl _ => true
  | .int _ => true
  | .str _ => true
  | _ => false
def eqP : PV → PV → Bool
  | .non, .non => true
  | .bl a, .bl b => a == b
  | .bl a, .int b => (if a then 1 else 0) == b
  | .int a, .bl b => a == (if b then 1 else 0)
  | .int a, .int b => a == b
  | .str a, .str b => decide (a = b)
  | _, _ => false
def isNonP : PV → Bool
  | .non => true
  | _ => false
def inF (x : PV) (l : List PV) : Bool := l.any fun y => eqP y x
def flatIn (x : PV) (l : List PV) : Bool := flatP x && l.all flatP
/-- among data -/
def inD (x : PV) (l : List PV) : Option Bool := match toD x, toDs l with
  | some d, some ds => if (SeqAt.shaped d && SeqAt.shaped (.list ds)) = true then some (ds.any fun z => PyData.eqv z d) else none
  | _, _ => none
def inB : PV → PV → Option Bool
  | .str [c], .str z => some (decide (c ∈ z))
  | x, .lst l => if flatIn x l = true then some (inF x l) else inD x l
  | x, .tup l => if flatIn x l = true then some (inF x l) else inD x l
  | .str s, .dct kvs => some (kvs.any fun kv => decide (kv.1 = .s s))
  | .int n, .dct kvs => some (kvs.any fun kv => decide (kv.1 = .i n))
  | .str s, .kdc kvs => some (kvs.any fun kv => decide (kv.1 = .s s))
  | _, _ => none
def vIn (a b : PV) : Option PV := (inB a b).map .bl
def vNotIn (a b : PV) : Option PV := (inB a b).map fun c => .bl (!c)

/-! ### built-in functions of one thing -/
def uLen : PV → Option PV
  | .str s => if s.length ≤ sizeLine then some (.int s.length) else none
  | .lst l => some (.int l.length)
  | .tup l => some (.int l.length)
  | .dct l => some (.int l.length)
  | _ => none
def uTuple : PV → Option PV
  | .lst l => some (.tup l)
  | .tup l => some (.tup l)
  | _ => none
def uList : PV → Option PV
  | .lst l => some (.lst l)
  | .tup l => some (.lst l)
  | _ => none
def uAll : PV → Option PV
  | .lst l => (asBls l).map fun bs => .bl (bs.all id)
  | _ => none
def uAny : PV → Option PV
  | .lst l => (asBls l).map fun bs => .bl (bs.any id)
  | _ => none
def uStr : PV → Option PV
  | .int (.ofNat n) => if n.log2 < 1920 then some (.str (TL.numL n)) else none
  | .str s => some (.str s)
  | _ => none
/-- digits alone -/
def digit (c : Nat) : Bool := decide (48 ≤ c) && decide (c ≤ 57)
def uInt : PV → Option PV
  | .int i => some (.int i)
  | .bl k => some (.int (if k then 1 else 0))
  | .str s => if (!s.isEmpty && s.all digit && decide (s.length ≤ 640)) = true then some (.int ((NumText.digitsVal s : Nat) : Int)) else none
  | _ => none
def uAbs : PV → Option PV
  | .int i => some (.int (if i < 0 then -i else i))
  | _ => none
def uBool : PV → Option PV
  | .int i => some (.bl (i != 0))
  | .bl k => some (.bl k)
  | _ => none
def uSum : PV → Option PV
  | .lst l => (asInts l).map fun ns => .int ns.sum
  | _ => none
def leastOf (n : Int) (r : List Int) : Int := r.foldl (fun a c => if c < a then c else a) n
def mostOf (n : Int) (r : List Int) : Int := r.foldl (fun a c => if a < c then c else a) n
def uMin : PV → Option PV
  | .lst l => match asInts l with
    | some (n :: r) => some (.int (leastOf n r))
    | _ => none
  | _ => none
def uMax : PV → Option PV
  | .lst l => match asInts l with
    | some (n :: r) => some (.int (mostOf n r))
    | _ => none
  | _ => none
def vMax : PV → PV → Option PV
  | .int i, .int j => some (.int (if j > i then j else i))
  | _, _ => none
def vMin : PV → PV → Option PV
  | .int i, .int j => some (.int (if j < i then j else i))
  | _, _ => none
/-- repr of data -/
def showOk (d : PyData) : Bool := (d.showable && !d.hasDict) && (decide (d.depth < 60) && decide (d.shown.length ≤ sizeLine))
def uRepr (v : PV) : Option PV := match toD v with
  | some d => if showOk d = true then some (.str d.shown.cps.toList) else none
  | none => none
/-! ### types -/
def tyOf : PV → Option String
  | .non => some "NoneType"
  | .bl _ => some "bool"
  | .int _ => some "int"
  | .str _ => some "str"
  | .tup _ => some "tuple"
  | .lst _ => some "list"
  | .dct _ => some "dict"
  | _ => none
def uIsi (T : String) (v : PV) : Option PV := match tyOf v with
  | some t => (kitB' t T).map .bl
  | none => none
where kitB' (a b : String) : Option Bool := if ["int", "str", "tuple", "list", "bool"].contains b = true then some (a == b || (a == "bool" && b == "int")) else none
/-! ### subscripts, slices -/
def atP (xs : List PV) (i : Int) : Option PV := if 0 ≤ i then xs[i.toNat]? else if -(xs.length : Int) ≤ i then xs[(i + xs.length).toNat]? else none
def atC (xs : List Nat) (i : Int) : Option Nat := if 0 ≤ i then xs[i.toNat]? else if -(xs.length : Int) ≤ i then xs[(i + xs.length).toNat]? else none
def dLook (k : KP) : List (KP × PV) → Option PV
  | [] => none
  | (j, v) :: r => if j = k then some v else dLook k r
def vIdx : PV → PV → Option PV
  | .str s, .int i => if s.length ≤ sizeLine then (atC s i).map fun c => .str [c] else none
  | .lst l, .int i => atP l i
  | .tup l, .int i => atP l i
  | .dct d, .str k => dLook (.s k) d
  | .dct d, .int k => dLook (.i k) d
  | .kdc d, .str k => dLook (.s k) d
  | _, _ => none
def sPl (n d : Nat) : Option Int → Nat
  | none => d
  | some v => if v < 0 then (v + (n : Int)).toNat else min v.toNat n
def cutP {α : Type} (xs : List α) (lo hi : Option Int) : List α := (xs.drop (sPl xs.length 0 lo)).take (sPl xs.length xs.length hi - sPl xs.length 0 lo)
def vCut (v : PV) (lo hi : Option Int) : Option PV := match v with
  | .str s => if s.length ≤ sizeLine then some (.str (cutP s lo hi)) else none
  | .lst l => some (.lst (cutP l lo hi))
  | .tup l => some (.tup (cutP l lo hi))
  | _ => none
/-! ### methods of texts -/
def mJoin : PV → PV → Option PV
  | .str a, .lst l => match asStrs l with
    | some ys => if (ys.map (·.length)).sum + ys.length * a.length ≤ 16777216 then some (.str (TL.joinL a ys)) else none
    | none => none
  | .str a, .tup l => match asStrs l with
    | some ys => if (ys.map (·.length)).sum + ys.length * a.length ≤ 16777216 then some (.str (TL.joinL a ys)) else none
    | none => none
  | _, _ => none
def low (S : List Nat) : Bool := S.all (· < 256)
def mSplit : PV → PV → Option PV
  | .str a, .str c => if (!c.isEmpty && low c && decide (a.length + 2 ≤ sizeLine)) = true then some (.lst ((TL.spl c 0 [] a).map .str)) else none
  | _, _ => none
def mPart : PV → PV → Option PV
  | .str a, .str c => if (!c.isEmpty && decide (a.length ≤ sizeLine)) = true then some (match TL.par c [] a with
    | some (p, q) => .tup [.str p, .str c, .str q]
    | none => .tup [.str a, .str [], .str []]) else none
  | _, _ => none
def dOf : PV → Option (List (KP × PV))
  | .dct d => some d
  | .kdc d => some d
  | _ => none
def kOf : PV → Option KP
  | .str k => some (.s k)
  | .int k => some (.i k)
  | _ => none
def mGet2 (v u w : PV) : Option PV := match dOf v, kOf u with
  | some d, some k => some ((dLook k d).getD w)
  | _, _ => none
def mGet (v u : PV) : Option PV := mGet2 v u .non

/-! ### the meanings of these -/
/-- a op b op' c -/
def dChain (f f' : PV → PV → Option PV) (a b c : Den) : Den := fun ρ S => (a ρ S).bnd fun v S1 => (b ρ S1).bnd fun u S2 => match f v u with
  | some k => onBl k fun k => if k = true then (c ρ S2).bnd fun w S3 => okv (f' u w) S3 else .ok (.bl false) S2
  | none => .bad
def onI (v : PV) (k : Int → Rs PV) : Rs PV := match v with
  | .int i => k i
  | _ => .bad
def dCutL (a l : Den) : Den := fun ρ S => (a ρ S).bnd fun v S1 => (l ρ S1).bnd fun u S2 => onI u fun i => okv (vCut v (some i) none) S2
def dCutH (a l : Den) : Den := fun ρ S => (a ρ S).bnd fun v S1 => (l ρ S1).bnd fun u S2 => onI u fun i => okv (vCut v none (some i)) S2
def dCutB (a l h : Den) : Den := fun ρ S => (a ρ S).bnd fun v S1 => (l ρ S1).bnd fun u S2 => onI u fun i => (h ρ S2).bnd fun w S3 => onI w fun j => okv (vCut v (some i) (some j)) S3
def onS (v : PV) (k : Rs PV) : Rs PV := match v with
  | .str _ => k
  | _ => .bad
/-- a method of a text -/
def dM1 (f : PV → PV → Option PV) (a b : Den) : Den := fun ρ S => (a ρ S).bnd fun v S1 => onS v ((b ρ S1).bnd fun u S2 => okv (f v u) S2)
def onD (v : PV) (k : Rs PV) : Rs PV := match dOf v with
  | some _ => k
  | none => .bad
def dMD (f : PV → PV → Option PV) (a b : Den) : Den := fun ρ S => (a ρ S).bnd fun v S1 => onD v ((b ρ S1).bnd fun u S2 => okv (f v u) S2)
def dMD2 (f : PV → PV → PV → Option PV) (a b c : Den) : Den := fun ρ S => (a ρ S).bnd fun v S1 => onD v ((b ρ S1).bnd fun u S2 => (c ρ S2).bnd fun w S3 => okv (f v u w) S3)
/-- the parts of an f-string: texts and numbers -/
def fText : PV → Option (List Nat)
  | .str s => if s.length ≤ sizeLine then some s else none
  | .int (.ofNat n) => if n.log2 < 1920 then some (TL.numL n) else none
  | _ => none
/-- acc: the text so far is the store's head of a list of one text -/
def dFs (a r : Den) : Den := fun ρ S => (a ρ S).bnd fun v S1 => match fText v with
  | some s => (r ρ S1).bnd fun u S2 => match u with
    | .str t => isz' (s.length + t.length) (.str (s ++ t)) S2
    | _ => .bad
  | none => .bad
where isz' (n : Nat) (v : PV) (S : Store) : Rs PV := if n ≤ sizeLine then .ok v S else .bad

abbrev CallT := Nat → List PV → Store → Rs PV
def dCall (C : CallT) (f : Nat) (r : Den) : Den := fun ρ S => (r ρ S).bnd fun vs S1 => C f (asL vs) S1

end Tg
end
section
set_option Elab.async false
set_option linter.all false
set_option autoImplicit false
set_option maxRecDepth 100000
set_option maxHeartbeats 0
namespace Tg
open PySem PySem.Spec PyProof.Rows L2
def kK : KP → Key
  | .i n => .inl n
  | .s l => .inr ⟨l.toArray⟩
/-- a name of the top: a def, a constant; a name that the top has not -/
inductive GV where
  | fn (i : Nat) | val (p : PV) | none
def TE.iS : Scope := { kind := .function, names := [(PySem.Str.ofString "self", .local), (PySem.Str.ofString "value", .local), (PySem.Str.ofString "__class__", .free), (PySem.Str.ofString "super", .globalImplicit)], isGenerator := false, isCoroutine := false, more := [] }
def atomB : PV → Value → Bool
  | .non, .none => true
  | .bl x, .bool y => x == y
  | .int i, .int j _ => decide (i = j)
  | .str l, .str x _ => decide (x = ⟨l.toArray⟩)
  | _, _ => false
def atomsB : List PV → List Value → Bool
  | [], [] => true
  | p :: ps, u :: us => atomB p u && atomsB ps us
  | _, _ => false
def keyB : KP → Value → Bool
  | .s l, .str x _ => decide (x = ⟨l.toArray⟩)
  | _, _ => false
def entB : List (KP × PV) → List DictEntry → Bool
  | [], [] => true
  | q :: qs, e :: es => (keyB q.1 e.key && atomB q.2 e.val) && entB qs es
  | _, _ => false
def dicB (K : PySem.W.Frag) (a : Addr) (qs : List (KP × PV)) : Bool := match K.lookup a with
  | some ⟨.type c, none, .dict es _, sl⟩ => (decide (c = "dict") && (sl.isEmpty && !(a == sysModules))) && ((decide (es.size ≤ sizeLine) && decide ((qs.map fun q => kK q.1).Nodup)) && entB qs es.toList)
  | _ => false
def tupB (K : PySem.W.Frag) (a : Addr) (ps : List PV) : Bool := match K.lookup a with
  | some ⟨.type c, none, .seq its _, _⟩ => (decide (c = "tuple") && decide (its.size ≤ sizeLine)) && atomsB ps its.toList
  | _ => false
def exB (K : PySem.W.Frag) (C0 : Addr) (DS : List Addr) (C : Addr) : Bool := (xfB K C && ((PySem.W.clsIn K C).isSome && He.eqO (PySem.W.findIn K (.ref C) "__class__") (some (some (.builtin "object.__class__"))))) &&
  ((decide (PySem.W.mroIn K C (.type "object") = some true) && (He.eqO (PySem.W.findIn K (.ref C) "value") (some none) && decide (PySem.W.exmOne K (.ref C) (.ref C0) = some true))) &&
    DS.all fun D => decide (PySem.W.kitOne K (.ref C) (.ref D) = some (decide (C = D) || decide (D = C0))))
def exB0 (K : PySem.W.Frag) : Bool := He.eqO (PySem.W.specialIn K (.builtin "object.__class__") "__get__") (some (some (.builtin "getset_descriptor.__get__"))) && decide (PySem.W.takesIn K (.builtin "object.__class__") = some true)
def isNon : Value → Bool
  | .none => true
  | _ => false
abbrev DV : Type := Option (Arguments × List Stmt × Scope)
/-- a def stands at a: all but its text -/
def ck1 (K : PySem.W.Frag) (a : Addr) : Bool := PySem.W.keepIn K (.ref a) && match K.lookup a with
  | some ⟨_, _, .func ⟨_, qual, _, .stmts _, _, gl, cl, dV, _, _, _, _, cdv, _, bi⟩, _⟩ =>
    ((isNon dV && decide (gl = mainGlobals)) && (cl.isEmpty && decide (bi = builtinsNs))) && PySem.W.codeIn K cdv qual
  | _ => false
/-- its text -/
def fnV (K : PySem.W.Frag) (a : Addr) : DV := match K.lookup a with
  | some ⟨_, _, .func ⟨_, _, params, .stmts b, sc, _, _, _, _, _, _, _, _, _, _⟩, _⟩ => some (params, b, sc)
  | _ => none
/-- the text of a statement's def -/
def dvOf : Option Stmt → DV
  | some (.FunctionDef _ ar b _ _ _ sc ..) => some (ar, b, sc)
  | _ => none
/-- a name of the top -/
def gB (K : PySem.W.Frag) (fa : Nat → Addr) (nf : Nat) (e : Str × GV) : Bool := match e.2 with
  | .fn i => decide (i < nf) && He.eqO (PySem.W.nsIn K mainGlobals e.1) (some (some (.ref (fa i))))
  | .none => He.eqO (PySem.W.nsIn K mainGlobals e.1) (some none)
  | .val (.tup ps) => (match PySem.W.nsIn K mainGlobals e.1 with
    | some (some (.ref a)) => tupB K a ps
    | _ => false)
  | .val (.kdc qs) => (match PySem.W.nsIn K mainGlobals e.1 with
    | some (some (.ref a)) => dicB K a qs
    | _ => false)
  | .val p => (match PySem.W.nsIn K mainGlobals e.1 with
    | some (some u) => atomB p u
    | _ => false)
def kStr : KP → Str
  | .s l => ⟨l.toArray⟩
  | _ => ⟨#[]⟩
abbrev HsT : Type := List (Option (List (Option (Str × Int))))
def hsO (K : PySem.W.Frag) (e : Str × GV) : Option (List (Option (Str × Int))) := match e.2 with
  | .val (.kdc _) => He.dicW K (He.ga K e.1)
  | _ => none
def hsV (w : World) (e : Str × GV) : Option (List (Option (Str × Int))) := match e.2 with
  | .val (.kdc qs) => some (He.keysIn w.params (qs.map fun q => kStr q.1))
  | _ => none
def clObjB (K : PySem.W.Frag) (C : Addr) : Bool := match K.lookup C with
  | some ⟨.type c, _, .cls cd, sl⟩ => decide (c = "type") && (match cd.mro, sl.toList with
    | .ref C' :: bm, [_, _, _, _, some (.builtin n), _] => (decide (C' = C) && decide (n = "ValueError.__new__")) && (!cd.hasDel && (cd.hasDict && PySem.HandSPX.refsVE bm))
    | _, _ => false)
  | _ => false
def clB (K : PySem.W.Frag) (C0 fI C : Addr) : Bool := clObjB K C && ((He.eqO (PySem.W.findIn K (.ref C) "__setattr__") (some (some (.builtin "object.__setattr__"))) && (He.eqO (PySem.W.findIn K (.ref C) "value") (some none) &&
  He.eqO (PySem.W.findIn K (.ref C) "__init__") (some (some (.ref fI))))) && ((decide (PySem.W.typeIn K (.ref fI) = some (.type "function")) && (PySem.W.keepIn K (.ref C) && decide (PySem.W.subIn K (.ref C) (.type "BaseException") = some true))) &&
    ((decide (PySem.W.subIn K (.ref C) (.type "ValueError") = some true) && decide (PySem.W.typeIn K (.ref C) = some (.type "type"))) && (decide (PySem.W.mroIn K C (.ref C0) = some true) &&
      He.eqO (PySem.W.ks_superIn K C C0 "__init__") (some (some (.builtin "ValueError.__init__")))))))
def iBB : Arguments → List Stmt → Bool
  | ⟨[], [⟨s1, none, _⟩, ⟨s2, none, _⟩], none, [], [], none, []⟩, [.Expr (.Call (.Attribute (.Call (.Name x _) [] [] _) m a3) [.Constant (.str _) _ _] [] a5) _, .Assign [.Attribute (.Name y _) m2 _] (.Name z _) _] =>
    ((decide (s1 = "self") && decide (s2 = "value")) && (decide (x = "super") && decide (m = "__init__"))) && ((decide (y = "self") && decide (m2 = "value")) && (decide (z = "value") && a3.endLine == a5.line))
  | _, _ => false
def scB (sc : Scope) : Bool := decide (sc.kind = .function) && (decide (sc.names = TE.iS.names) && ((!sc.isGenerator && !sc.isCoroutine) && sc.more.isEmpty))
def cellB (K : PySem.W.Frag) (C0 : Addr) : List (Str × Addr) → Bool
  | [(x, c)] => decide (x = "__class__") && (match K.lookup c with
    | some ⟨_, _, .cell (some (.ref D)), _⟩ => decide (D = C0)
    | _ => false)
  | _ => false
def codB (P : Program) (K : PySem.W.Frag) : Value → Bool
  | .ref cc => (match K.lookup cc with
    | some ⟨_, _, .fields vs, _⟩ => (match (vs.toList[2]? : Option Value) with
      | some (.str file _) => ((P.main.file : Str) == file)
      | _ => false)
    | _ => false)
  | _ => false
def teB (P : Program) (K : PySem.W.Frag) (C0 fI : Addr) : Bool := (match K.lookup fI with
  | some ⟨_, _, .func ⟨nm, qual, params, .stmts b, sc, gl, cl, dV, _, _, _, _, cdv, _, bi⟩, _⟩ =>
    ((decide (nm = "__init__") && (iBB params b && scB sc)) && (decide (gl = mainGlobals) && (cellB K C0 cl && isNon dV))) && ((PySem.W.codeIn K cdv qual && codB P K cdv) && decide (bi = builtinsNs))
  | _ => false) && ((!(P.main.scope.names.lookup ("super" : Str)).isSome && (PySem.W.clsIn K C0).isSome) && He.eqO (PySem.W.nsIn K cStatics "thirdparty.any") (some none))
/-- a law's data: the defs' addresses, the classes', the first class and its __init__ -/
structure LD where
  P : Program
  G : List (Str × GV)
  R : List (Str × Nat)
  nf : Nat
  A : List Addr
  CA : List Addr
  C0 : Addr
  fI : Addr
  D : List DV
  AS : List Addr
def LD.fa (L : LD) (i : Nat) : Addr := L.A.getD i 0
def LD.ca (L : LD) (c : Nat) : Addr := L.CA.getD c 0
def rB (L : LD) (K : PySem.W.Frag) (e : Str × Nat) : Bool := He.eqO (PySem.W.nsIn K mainGlobals e.1) (some (some (.ref (L.ca e.2)))) && clB K L.C0 L.fI (L.ca e.2)
def ckB (L : LD) (K : PySem.W.Frag) : Bool := (L.A.all (ck1 K) && (L.G.all (gB K L.fa L.nf) && (exB0 K && L.CA.all (exB K L.C0 L.CA)))) && (L.R.all (rB L K) && (teB L.P K L.C0 L.fI && He.eqO (PySem.W.nsIn K mainGlobals "super") (some none)))
abbrev AlV : Type := Bool × List DV × HsT
def obsV (L : LD) (K : PySem.W.Frag) : AlV := (ckB L K, L.A.map (fnV K), L.G.map (hsO K))
def valLD (L : LD) (w : World) : AlV := (true, L.D, L.G.map (hsV w))
def obsVG (L : LD) (g : Addr → Option Obj) : AlV := obsV L (He.frG g L.AS)
def hookV (L : LD) : PySem.W.Hook where
  α := AlV
  obs := fun s => obsVG L s.heap.get?
  val := fun w => valLD L w
  says := fun w h => ∃ K : PySem.W.Frag, K.In h ∧ obsV L K = valLD L w
  of := fun _ _ e => ⟨_, He.frG_in, e⟩
  keeps := fun _ _ _ ⟨K, hK, c⟩ k => ⟨K, PySem.W.Frag.In.keeps hK k, c⟩
theorem obsVG_eq {L : LD} {g : Addr → Option Obj} {s : Shared} (h : ∀ a, g a = s.heap.get? a) : obsVG L g = (hookV L).obs s := by
  have e : g = s.heap.get? := funext h
  rw [e] <;> rfl
end Tg
end
section
set_option Elab.async false
set_option linter.all false
set_option autoImplicit false
set_option maxRecDepth 100000
set_option maxHeartbeats 0
namespace K75
open PySem PySem.Spec PyProof.Rows L2
open Tg
def gf (x : String) (i : Nat) : Str × GV := (Str.ofString x, .fn i)
def gw (x : String) (p : PV) : Str × GV := (Str.ofString x, .val p)
def gn (x : String) : Str × GV := (Str.ofString x, .none)
def sL (xs : List String) : List Str := xs.map Str.ofString
def G0 : List (Str × GV) := [
  gw "ALPHABET" (.str [97, 98, 99, 100, 101, 102, 103, 104, 105, 106, 107, 108]),
  gw "CAPITALS" (.str [65, 66, 67, 68, 69, 70, 71, 72, 73, 74, 75, 76, 77, 78, 79, 80, 81, 82, 83, 84, 85, 86, 87, 88, 89, 90]),
  gw "DIGITS" (.str [48, 49, 50, 51, 52, 53, 54, 55, 56, 57]),
  gw "EDGE" (.tup [.str [101, 100, 103, 101]]),
  gw "FORCES" (.tup [.str [109, 97, 121], .str [109, 117, 115, 116]]),
  gw "KINDS_finding" (.kdc [(.s [63], .str [109, 97, 121, 98, 101]), (.s [42], .str [97, 110, 121])]),
  gw "KINDS_patterns" (.tup [.str [97, 110, 121], .str [109, 97, 121, 98, 101], .str [111, 110, 101]]),
  gw "MARKS" (.kdc [(.s [111, 110, 101], .str []), (.s [109, 97, 121, 98, 101], .str [63]), (.s [97, 110, 121], .str [42])]),
  gw "MOST_DIGITS" (.int 30),
  gw "MOST_ENTRIES" (.int 12),
  gw "MOST_ITEMS" (.int 6),
  gw "MOST_NAMES" (.int 20),
  gw "MOST_NESTED" (.int 40),
  gw "MOST_PARTS" (.int 8),
  gw "MOST_ROWS" (.int 8),
  gw "MOST_RULES_cascades" (.int 8),
  gw "MOST_RULES_trees" (.int 40),
  gw "MOST_TAG" (.int 8),
  gw "MOST_TAGS" (.int 40),
  gw "MOST_TEXT_books" (.int 8),
  gw "MOST_TEXT_rules" (.int 2),
  gw "MOST_VALUE" (.int 4),
  gw "MOST_WORDS" (.int 60),
  gw "SMALL" (.str [97, 98, 99, 100, 101, 102, 103, 104, 105, 106, 107, 108, 109, 110, 111, 112, 113, 114, 115, 116, 117, 118, 119, 120, 121, 122]),
  gw "TAG_SIGNS" (.str [65, 66, 67, 68, 69, 70, 71, 72, 73, 74, 75, 76, 77, 78, 79, 80, 81, 82, 83, 84, 85, 86, 87, 88, 89, 90, 46]),
  gw "VARIABLES" (.tup [.str [120], .str [121]]),
  gw "WAYS" (.tup [.str [97, 116, 32, 111, 110, 99, 101], .str [98, 97, 99, 107, 119, 97, 114, 100], .str [111, 110, 119, 97, 114, 100]]),
  gf "_law_bent" 108,
  gf "_law_draw" 104,
  gf "_law_read" 105,
  gf "_law_shown" 106,
  gf "_law_texts" 107,
  gf "_law_well" 103,
  gn "abs",
  gn "all",
  gf "all_or_none" 41,
  gf "anew" 7,
  gn "any",
  gf "are_changes" 20,
  gf "are_links" 26,
  gf "are_sizes" 32,
  gf "book_from" 82,
  gn "bool",
  gf "cascade_from" 75,
  gf "category_from" 47,
  gf "change_from" 72,
  gn "dict",
  gf "entry_from" 79,
  gf "grammar_from" 87,
  gf "grammar_rule_from" 85,
  gf "grammar_word_from" 86,
  gn "int",
  gf "integer_from" 40,
  gf "is_a_book" 27,
  gf "is_any_grammar" 39,
  gf "is_ascending" 4,
  gf "is_between" 1,
  gf "is_book" 28,
  gf "is_cascade" 23,
  gf "is_category" 33,
  gf "is_change" 19,
  gf "is_edge" 15,
  gf "is_entry" 24,
  gf "is_integer" 0,
  gf "is_letter_item" 14,
  gf "is_letters" 9,
  gf "is_machine" 13,
  gf "is_mark" 34,
  gf "is_name" 29,
  gf "is_nested" 48,
  gf "is_one_of" 6,
  gf "is_part" 25,
  gf "is_pattern" 18,
  gf "is_pattern_of" 17,
  gf "is_place" 12,
  gf "is_rising" 3,
  gf "is_row" 16,
  gf "is_rule_of" 21,
  gf "is_rule_rules" 22,
  gf "is_rule_trees" 37,
  gf "is_sign" 35,
  gf "is_size" 31,
  gf "is_tag" 30,
  gf "is_text" 5,
  gf "is_tuple" 2,
  gf "is_word_letters" 11,
  gf "is_word_trees" 38,
  gn "isinstance",
  gf "item_from" 69,
  gf "item_text" 54,
  gf "items_from" 42,
  gf "law" 109,
  gn "len",
  gf "letters_of" 8,
  gf "link_from" 81,
  gn "list",
  gf "listed" 52,
  gf "machine_from" 78,
  gf "mark_from" 45,
  gn "max",
  gn "min",
  gf "need_n" 10,
  gf "needed" 90,
  gf "number_from" 43,
  gf "part_from" 80,
  gf "part_text" 62,
  gf "pattern_from" 71,
  gf "pattern_in" 70,
  gf "place_from" 77,
  gf "place_text" 59,
  gn "range",
  gf "ranges_of" 36,
  gf "read_book" 98,
  gf "read_by" 91,
  gf "read_cascade" 96,
  gf "read_grammar" 100,
  gf "read_machine" 97,
  gf "read_pattern" 94,
  gf "read_rule" 95,
  gf "read_sentence" 102,
  gf "read_sign" 99,
  gf "read_tree" 101,
  gf "read_with" 92,
  gf "read_word" 93,
  gn "repr",
  gf "row_text" 55,
  gf "rule_from" 74,
  gf "rule_in" 73,
  gf "sentence_from" 89,
  gf "show_book" 63,
  gf "show_cascade" 58,
  gf "show_grammar" 65,
  gf "show_machine" 60,
  gf "show_numbers" 61,
  gf "show_pattern" 56,
  gf "show_rule" 57,
  gf "show_sentence" 67,
  gf "show_sign" 64,
  gf "show_tree" 66,
  gf "show_word" 53,
  gf "shown_sign" 83,
  gf "shown_tree" 88,
  gf "sign_from" 46,
  gf "size_from" 84,
  gf "step_from" 76,
  gn "str",
  gf "text_from" 44,
  gf "tree_end" 49,
  gf "tree_from" 51,
  gf "tree_in" 50,
  gn "tuple",
  gf "word_from" 68,
  gn "zip"]
def R0 : List (Str × Nat) := [(Str.ofString "TongueError", 0), (Str.ofString "InvalidNumber", 1), (Str.ofString "InvalidRule", 2), (Str.ofString "InvalidBook", 3), (Str.ofString "InvalidGrammar", 4), (Str.ofString "Unreadable", 5)]
def b0 : List Nat := [1, 2, 3, 4, 5, 6, 7, 8, 18, 19, 20, 21, 24, 25, 31, 32, 33, 34, 35, 40, 41, 42, 43, 47, 54, 55, 56, 57, 58, 67, 68, 69, 70, 71, 72, 73, 74, 75, 77, 79, 84, 85, 86, 87, 88, 89, 90, 91, 92, 93, 94, 95, 98, 99, 100, 101, 102, 103, 104, 105, 106, 107, 108, 109, 110, 111, 112, 113, 117, 118, 119, 120, 121, 122, 123, 124, 125, 126, 127, 128, 129, 130, 131, 132, 133, 134, 135, 136, 137, 138, 140, 141, 142, 143, 144, 145, 146, 147, 148, 149, 150, 151, 152, 154, 155, 156, 157, 158, 159, 160]

def bodyL : List Stmt := PySem.Challenge.pw_tonguerules_k75_texts_that_are_none.main.body
/-- the texts of the defs -/
def D0 : List DV := b0.map fun q => dvOf bodyL[q]?
end K75
end
section
set_option Elab.async false
set_option linter.all false
set_option autoImplicit false
set_option maxRecDepth 100000
set_option maxHeartbeats 0
namespace K75
open PySem PySem.Spec PyProof.Rows L2 Tg
abbrev RW : PySem.W.OpenRow := PySem.W.OpenLaw.row PySem.Challenge.rw_tonguerules_k75_texts_that_are_none
def L0 : LD := ⟨RW.prog, G0, R0, 110, [21, 28, 35, 40, 45, 50, 57, 62, 151, 158, 165, 170, 175, 180, 187, 194, 199, 204, 211, 220, 225, 232, 239, 244, 251, 256, 261, 266, 273, 281, 288, 293, 298, 303, 310, 315, 322, 327, 334, 339, 344, 351, 356, 363, 370, 377, 382, 387, 394, 401, 408, 415, 423, 430, 437, 442, 447, 452, 457, 462, 467, 472, 477, 482, 487, 492, 499, 506, 514, 521, 526, 533, 540, 545, 552, 557, 564, 569, 574, 581, 586, 593, 598, 605, 610, 617, 624, 629, 636, 641, 648, 655, 662, 669, 676, 683, 690, 697, 704, 711, 718, 725, 732, 739, 746, 753, 760, 767, 774, 781], [81, 94, 106, 118, 130, 142], 81, 78, D0, mainGlobals :: [2, 4, 6, 20, 21, 27, 28, 34, 35, 39, 40, 44, 45, 49, 50, 56, 57, 61, 62, 66, 77, 78, 80, 81, 93, 94, 105, 106, 117, 118, 129, 130, 141, 142, 150, 151, 157, 158, 164, 165, 169, 170, 174, 175, 179, 180, 181, 182, 186, 187, 193, 194, 198, 199, 203, 204, 210, 211, 212, 213, 219, 220, 224, 225, 231, 232, 238, 239, 243, 244, 250, 251, 255, 256, 260, 261, 265, 266, 272, 273, 274, 280, 281, 287, 288, 292, 293, 297, 298, 302, 303, 309, 310, 314, 315, 321, 322, 326, 327, 333, 334, 338, 339, 343, 344, 350, 351, 355, 356, 362, 363, 369, 370, 376, 377, 381, 382, 386, 387, 393, 394, 400, 401, 407, 408, 414, 415, 416, 422, 423, 429, 430, 436, 437, 441, 442, 446, 447, 451, 452, 456, 457, 461, 462, 466, 467, 471, 472, 476, 477, 481, 482, 486, 487, 491, 492, 498, 499, 505, 506, 507, 513, 514, 520, 521, 525, 526, 532, 533, 539, 540, 544, 545, 551, 552, 556, 557, 563, 564, 568, 569, 573, 574, 580, 581, 585, 586, 592, 593, 597, 598, 604, 605, 609, 610, 616, 617, 623, 624, 628, 629, 635, 636, 640, 641, 647, 648, 654, 655, 661, 662, 668, 669, 675, 676, 682, 683, 689, 690, 696, 697, 703, 704, 710, 711, 717, 718, 724, 725, 731, 732, 738, 739, 745, 746, 752, 753, 759, 760, 766, 767, 773, 774, 780, 781]⟩
abbrev hk : PySem.W.Hook := hookV L0
def ob (s : PySem.W.SharedT) : AlV := obsVG L0 (HandSHeadRun.getT s)
theorem ob_eq (s : PySem.W.SharedT) : ob s = hk.obs s.abs := obsVG_eq (HandSHeadRun.getT_eq s)
def loose0 : List Str := sL ["is_integer", "is_between", "is_tuple", "is_rising", "is_ascending", "is_text", "is_one_of", "anew", "TongueError", "InvalidNumber", "InvalidRule", "InvalidBook", "InvalidGrammar", "Unreadable", "ALPHABET", "letters_of", "is_letters", "need_n", "is_word", "is_word_letters", "is_place", "is_machine", "MOST_ROWS", "MOST_ITEMS", "KINDS_patterns", "EDGE", "is_letter_item", "is_edge", "is_row", "is_pattern_of", "is_pattern", "WAYS", "FORCES", "MOST_TEXT_rules", "is_change", "are_changes", "is_rule_of", "is_rule", "is_rule_rules", "MOST_RULES_cascades"]
def loose1 : List Str := sL ["is_cascade", "MOST_TEXT_books", "MOST_TAG", "MOST_ENTRIES", "MOST_PARTS", "CAPITALS", "is_entry", "is_part", "are_links", "is_a_book", "is_book", "SMALL", "TAG_SIGNS", "VARIABLES", "MOST_NAMES", "MOST_VALUE", "MOST_RULES_trees", "MOST_WORDS", "is_name", "is_tag", "is_size", "are_sizes", "is_category", "is_mark", "is_sign", "ranges_of", "is_rule_trees", "is_word_trees", "is_any_grammar", "DIGITS", "MOST_DIGITS", "MOST_NESTED", "integer_from", "all_or_none", "items_from", "number_from", "text_from", "mark_from", "sign_from", "category_from"]
def loose2 : List Str := sL ["is_nested", "tree_end", "tree_in", "tree_from", "MARKS", "listed", "show_word", "item_text", "row_text", "show_pattern", "show_rule", "show_cascade", "place_text", "show_machine", "show_numbers", "part_text", "show_book", "show_sign", "show_grammar", "show_tree", "show_sentence", "KINDS_finding", "MOST_TAGS", "word_from", "item_from", "pattern_in", "pattern_from", "change_from", "rule_in", "rule_from", "cascade_from", "step_from", "place_from", "machine_from", "entry_from", "part_from", "link_from", "book_from", "shown_sign", "size_from"]
def loose3 : List Str := sL ["grammar_rule_from", "grammar_word_from", "grammar_from", "shown_tree", "sentence_from", "needed", "read_by", "read_with", "read_word", "read_pattern", "read_rule", "read_cascade", "read_machine", "read_book", "read_sign", "read_grammar", "read_tree", "read_sentence", "_law_well", "_law_draw", "_law_read", "_law_shown", "_law_texts", "_law_bent"]
def loose : List Str := loose0 ++ loose1 ++ loose2 ++ loose3
abbrev RunAt (w : World) : Prop := HandSHeadRun.RunEq RW (PySem.W.view RW.prog [160]) hk ob 40000 loose w
theorem run_f (w : World) : RunAt (w.withFollow "special-get-raises" false) := by
  intro os
  kernel_rfl
theorem run_t (w : World) : RunAt (w.withFollow "special-get-raises" true) := by
  intro os
  kernel_rfl
theorem run (w : World) : RunAt w := PySem.W.byRow2 "special-get-raises" (P := RunAt) run_f run_t w
end K75
end
section
set_option Elab.async false
set_option linter.all false
set_option autoImplicit false
set_option maxRecDepth 100000
/-! new tuples, known to the object: no dict of their own -/
namespace Tg
open PySem PySem.Spec PyProof.Rows L2
/-- a tuple that is known: its object has no dict -/
def PTu (H : Hp) (a : Addr) (xs : List V) : Prop := ∃ o, H a = some (.frz o (.tup xs)) ∧ o.dict = none
theorem PTu.sq {H : Hp} {a : Addr} {xs : List V} (K : PySem.W.Frag) (h : PTu H a xs) : SqT K H a xs := by
  obtain ⟨o, e, _⟩ := h
  exact .inl (.inr ⟨o, e⟩)
/-- what is asked of a new tuple -/
def NewT (xs : List V) (H : Hp) (Q : VK) : Prop := ∀ p o, H p = none → o.dict = none → Q (.ref p) (upd H p (.frz o (.tup xs)))
abbrev tupObj (us : List Value) : Obj := { cls := .type "tuple", data := .seq us.toArray }
section
variable {X : Cx} {pins : List (Addr × Obj)} {σ : L2.St} {H : Hp} {s : Shared}
theorem laidT {xs : List V} {us : List Value} (I : Inv X pins σ H s) (r : Vals xs us) (hz : xs.length ≤ sizeLine) (t' : Nat) :
    Inv X pins σ (upd H s.heap.objs.size (.frz (tupObj us) (.tup xs))) { s with heap := s.heap.push (tupObj us), toks := t' } :=
  I.laid (fun b u e => Heap.get?_push_of_some _ e) (Nat.le_refl _) ⟨Heap.get?_push_size _ rfl, hz, us, r, IsTup.new _ _⟩
theorem newT_end {xs : List V} {us : List Value} {Q : VK} {t' : Nat} (I : Inv X pins σ H s) (r : Vals xs us) (hz : xs.length ≤ sizeLine) (q : NewT xs H Q) : EP X pins σ Q (.ref s.heap.objs.size) { s with heap := s.heap.push (tupObj us), toks := t' } :=
  ⟨.ref s.heap.objs.size, _, laidT I r hz t', rfl, q _ _ (I.hok.fresh (Nat.le_refl _)) rfl⟩
end
section
variable {X : Cx}
def tTupF (t : TA) : TE := fun σ H Q => t σ H fun xs H1 => xs.length ≤ sizeLine ∧ NewT xs H1 Q
theorem pe_tupF {es : List Expr} {t : TA} {k : Nat} {pos : Pos} (h : PA X es t) : PE X (.Tuple es k pos) (tTupF t) := ⟨fun pins s σ H Q I hq =>
  wpAny_Tuple_spliced (thn (h.run pos pins s σ H _ I hq) fun us s1 ⟨xs, H1, I1, r, z, q⟩ => ⟨by rw [← r.length]; exact z, newT_end (t' := s1.toks) I1 r z q⟩)⟩
theorem call_tupleF : CallR X (.type "tuple") (fun xs H Q => ∃ p ys, xs = [.ref p] ∧ ((SqL X.K H p ys ∧ NewT ys H Q) ∨ (SqT X.K H p ys ∧ Q (.ref p) H))) := by
  intro pins s σ H xs us Q I r h
  obtain ⟨p, ys, rfl, h⟩ := h
  obtain ⟨u, rfl, rx⟩ := vals1 r
  cases rx
  rcases h with ⟨hq, q⟩ | ⟨hq, q⟩
  · obtain ⟨zs, r', pl, hz⟩ := I.list hq
    have hn := r'.length
    exact PySem.call_tuple_list pl.isList (fun h' kp => newT_end (t' := s.toks) (I.kept (t' := s.toks) kp) r' hz q) (by simp only [List.size_toArray]; omega)
  · obtain ⟨zs, _, pl, _⟩ := I.tuple hq
    exact PySem.call_tuple_same pl ⟨.ref p, _, I, rfl, q⟩
/-- t + u -/
def rCatF (K : PySem.W.Frag) : R2 := fun x y H Q => ∃ a b xs ys, x = .ref a ∧ y = .ref b ∧ (SqT K H a xs ∧ SqT K H b ys) ∧ xs.length + ys.length ≤ sizeLine ∧
  (xs = [] → Q (.ref b) H) ∧ (xs ≠ [] → ys = [] → Q (.ref a) H) ∧ (xs ≠ [] → ys ≠ [] → NewT (xs ++ ys) H Q)
theorem op_catF : OpR X (binaryOp .Add) (rCatF X.K) := by
  intro pins s σ H x y v u Q I rx ry h
  obtain ⟨a, b, xs, ys, rfl, rfl, ⟨ha, hb⟩, hz, q0, q1, q2⟩ := h
  by_cases hx : xs = []
  · exact op_catA pins s σ H _ _ v u Q I rx ry ⟨a, b, xs, ys, rfl, rfl, ha, hb, hz, q0, q1, fun z => absurd hx z⟩
  · cases rx
    cases ry
    obtain ⟨ts, r1, p1, _⟩ := I.tuple ha
    obtain ⟨zs, r2, p2, _⟩ := I.tuple hb
    exact HT.cat_tup p1 p2 (fun z => hx (r1.nil_iff.mp z)) (fun z => ⟨.ref a, _, I, rfl, q1 hx (r2.nil_iff.mp z)⟩)
      (fun z => newT_end (t' := s.toks) I (r1.append r2) (by rw [List.length_append]; exact hz) (q2 hx fun w => z (r2.nil_iff.mpr w))) (by rw [← r1.length, ← r2.length]; exact hz)
/-- t[lo:hi] -/
def rSlF (K : PySem.W.Frag) : V → Option Int → Option Int → Hp → VK → Prop := fun x lo hi H Q => ∃ a xs, x = .ref a ∧ SqT K H a xs ∧
  (HT.sIx xs.length 0 lo = 0 ∧ HT.sIx xs.length xs.length hi = xs.length → Q (.ref a) H) ∧ (¬ (HT.sIx xs.length 0 lo = 0 ∧ HT.sIx xs.length xs.length hi = xs.length) → NewT (cutV xs lo hi) H Q)
theorem sl_tupF : SlR X (rSlF X.K) := by
  intro pins s σ H x v vl vu lo hi sl Q I rx hs pl pu h
  obtain ⟨a, xs, rfl, hx, q1, q2⟩ := h
  by_cases hw : HT.sIx xs.length 0 lo = 0 ∧ HT.sIx xs.length xs.length hi = xs.length
  · exact sl_tupA pins s σ H _ v vl vu lo hi sl Q I rx hs pl pu ⟨a, xs, rfl, hx, q1, fun z => absurd hw z⟩
  · cases rx
    obtain ⟨ts, r, ht, hz⟩ := I.tuple hx
    have hn : xs.length = ts.toArray.size := by rw [List.size_toArray]; exact r.length
    refine ⟨"tuple", _, PyProof.Rows.slot_tuple_getitem.lookup, ht.typeIs, HT.getItem_tuple_cut ht hs pl pu (hn ▸ hw) ?_ (hn ▸ hz)⟩
    rw [← hn]
    exact newT_end (t' := s.toks) I ((r.drop (HT.sIx xs.length 0 lo)).take (HT.sIx xs.length xs.length hi - HT.sIx xs.length 0 lo)) (Nat.le_trans (cutV_length xs lo hi) hz) (q2 hw)
theorem relTx (x : Str) (t : Tok) : RelV (.str x) (.str x t) := ⟨t, rfl⟩
/-- x.partition(sep) -/
def partV (a b : Str) : List V := [.str (Txt.partition a b).1, .str (Txt.partition a b).2.1, .str (Txt.partition a b).2.2]
theorem mt_partF : MtR X "str.partition" (fun x xs H Q => ∃ a b, x = .str a ∧ xs = [.str b] ∧ ((b.length == 0) = false ∧ a.length ≤ sizeLine) ∧ NewT (partV a b) H Q) := by
  intro pins s σ H x xs v us Q I rx rs h
  obtain ⟨a, b, rfl, rfl, ⟨hb, hz⟩, h⟩ := h
  obtain ⟨t, rfl⟩ := rx
  cases rs with
  | cons r1 rs =>
    cases rs
    obtain ⟨u, rfl⟩ := r1
    refine call_meets PySem.F.slot_str_partition (typeIs_str _ _ _) PySem.F.entry_str_partition (PySem.F.args_str_partition_2 _ _) (meets_str_partition a b t u hb hz) ?_
    unfold partV Txt.partition at h
    revert h
    cases Builtin.Str.occurrences a b 0 a.length 1 with
    | nil => exact fun h => newT_end I (.cons (relTx _ _) (.cons (relTx _ _) (.cons (relTx _ _) .nil))) (by show 3 ≤ sizeLine; decide) h
    | cons i r => exact fun h => newT_end I (.cons (relTx _ _) (.cons (relTx _ _) (.cons (relTx _ _) .nil))) (by show 3 ≤ sizeLine; decide) h
end
/-! lists that stand as they were made: the script -/
/-- a list of the top -/
def KLst (K : PySem.W.Frag) (a : Addr) (xs : List V) : Prop := ∃ (its : List Value) (n : Nat), K.lookup a = some { cls := .type "list", data := .seq its.toArray n } ∧ its.length ≤ sizeLine ∧ Vals xs its
def LX (K : PySem.W.Frag) (H : Hp) (a : Addr) (xs : List V) : Prop := Rd H a (.lst xs) ∨ KLst K a xs
theorem LX.sq {K : PySem.W.Frag} {H : Hp} {a : Addr} {xs : List V} (h : LX K H a xs) : SqL K H a xs := by
  rcases h with h | ⟨its, n, e, l, r⟩
  · exact .inl h
  · exact .inr ⟨_, its.toArray, n, e, rfl, rfl, rfl, by rw [List.size_toArray]; exact l, by simpa using r⟩
theorem LX.at {X : Cx} {pins : List (Addr × Obj)} {σ : L2.St} {H : Hp} {s : Shared} {a : Addr} {xs : List V} (I : Inv X pins σ H s) (h : LX X.K H a xs) :
    ∃ (its : List Value) (n : Nat), Vals xs its ∧ xs.length = its.length ∧ s.heap.get? a = some { cls := .type "list", data := .seq its.toArray n } := by
  rcases h with h | ⟨its, n, e, l, r⟩
  · obtain ⟨z, its, n, r, e⟩ := h.ok I.hok
    exact ⟨its, n, r, r.length, e⟩
  · exact ⟨its, n, r, r.length, I.kIn _ _ e⟩
def rCatL (K : PySem.W.Frag) : R2 := fun x y H Q => ∃ l b xs zs, x = .ref l ∧ y = .ref b ∧ (LX K H l xs ∧ LX K H b zs) ∧ xs.length + zs.length ≤ sizeLine ∧ ∀ p, H p = none → Q (.ref p) (upd H p (.lst (xs ++ zs)))
theorem op_catL {X : Cx} : OpR X (binaryOp .Add) (rCatL X.K) := by
  rintro pins s σ H x y v u Q I rx ry ⟨l, b, xs, zs, rfl, rfl, ⟨h1, h2⟩, hz, q⟩
  obtain ⟨its, n, r, e1, e⟩ := h1.at I
  obtain ⟨its2, n2, r2, e3, e4⟩ := h2.at I
  cases rx
  cases ry
  have sz : its.toArray.size + its2.toArray.size ≤ sizeLine := by rw [List.size_toArray, List.size_toArray, ← e1, ← e3]; exact hz
  refine PySem.P.add_list e e4 ?_ sz
  rw [show its.toArray ++ its2.toArray = (its ++ its2).toArray by simp]
  exact ⟨.ref _, _, I.lnew (t' := s.toks) (r.append r2) (by rw [List.length_append]; exact hz), rfl, q _ I.fresh⟩
end Tg
end
section
set_option Elab.async false
set_option linter.all false
set_option autoImplicit false
set_option maxRecDepth 100000
/-! promises of defs that are called while nothing is being shown (repr asks who is around) -/
namespace Tg
open PySem PySem.Spec PyProof.Rows L2
/-- a def's promise, at any place around that is at rest -/
structure FnG (P : Program) (w : World) (K : PySem.W.Frag) (mg : Str → Option Value) (base : Heap) (CX : CXT) (k : Nat) (f : Addr) (fd : FuncData) (ps : List Str) (sp : Sp) : Prop where
  len : ∀ vs H Q E, sp vs H Q E → vs.length = ps.length
  run : ∀ (A : Around) (outer : List PySem.Env) (s : Shared) (H : Hp) (ar : Args) (us : List Value) (vs : List V) (Q : VK) (E : XK),
    A.guards = some [] → Room k A → Env0 P w K mg base A outer s H → BindsTo s fd ar (ps.zip us) → Vals vs us → sp vs H Q E →
      codeAny (model P w) A (.call (.ref f) ar) (CR CX outer P w H s Q E) s
section
variable {X : Cx} {CX : CXT} {k : Nat} {f : Addr} {fd : FuncData} {ps : List Str} {sp : Sp} {E : XK} {x : Str} {p pos : Pos} {e : Expr} {es : List Expr} {t : TA}
theorem runG {pins : List (Addr × Obj)} {σ : L2.St} {H : Hp} {s : Shared} {Q : VK} {us : List Value} {vs : List V} (hg : X.A.guards = some []) (F : FnG X.prog X.w X.K X.mg X.base CX k f fd ps sp)
    (hr : Room k X.A) (hb : Binds X.K fd ps []) (hx : Passes CX X E) (I : Inv X pins σ H s) (r : Vals vs us) (h : sp vs H Q E) :
    wpAny (model X.prog X.w) X.A (call (.ref f) us) (EP X pins σ Q) X.xe s := by
  have e1 : (us ++ []).length = ps.length := by
    rw [List.append_nil, ← r.length]
    exact F.len _ _ _ _ h
  have bd := hb s us I.kIn e1
  rw [List.append_nil] at bd
  have go := F.run X.A X.stack s H ⟨us, []⟩ us vs Q E hg hr I.env0 bd r h
  refine wpAny_call (codeAny_mono go ?_)
  rintro (er | (u | _ | _ | _)) s' hq
  · exact hx pins σ H s er s' I hq
  all_goals first | exact I.after hq | exact False.elim hq
theorem callG (gd : X.A.guards = some []) (F : FnG X.prog X.w X.K X.mg X.base CX k f fd ps sp) (hr : Room k X.A) (hg : Gl X x) (hm : X.mg x = some (.ref f))
    (hk : PySem.W.keepIn X.K (.ref f) = true) (hb : Binds X.K fd ps []) (hx : Passes CX X E) (ha : PA X (e :: es) t) (hdb : (x == ("__debug__" : Str)) = false)
    (he : starEach (e :: es) X.env = (false, eval e X.env) :: starEach es X.env) (hpl : (backTo pos (starEach es X.env)).any (·.1) = false) :
    PE X (.Call (.Name x p) (e :: es) [] pos) fun σ H Q => t σ H fun vs H1 => sp vs H1 Q E := by
  constructor
  intro pins s σ H Q I h
  refine wpAny_Call_Name_kw (ld_glob I hg hm ?_ hdb)
  have go := thn (ha.run pos pins s σ H _ I h) fun us s1 ⟨vs, H1, I1, r, q⟩ => (⟨I1.kIn, runG gd F hr hb hx I1 r q⟩ : X.K.In s1.heap ∧ _)
  exact PySem.W.callWith_K (h₀ := X.base) I.ok.mod.kin hk go he hpl
theorem call0G (gd : X.A.guards = some []) (F : FnG X.prog X.w X.K X.mg X.base CX k f fd ps sp) (hr : Room k X.A) (hg : Gl X x) (hm : X.mg x = some (.ref f))
    (hk : PySem.W.keepIn X.K (.ref f) = true) (hb : Binds X.K fd ps []) (hx : Passes CX X E) (hdb : (x == ("__debug__" : Str)) = false) :
    PE X (.Call (.Name x p) [] [] pos) fun σ H Q => sp [] H Q E := by
  constructor
  intro pins s σ H Q I h
  refine wpAny_Call_Name_kw (ld_glob I hg hm ?_ hdb)
  exact PySem.W.callWith_K0 I.kIn hk (runG (us := []) gd F hr hb hx I .nil h)
theorem callLG {i : Nat} (gd : X.A.guards = some []) (F : FnG X.prog X.w X.K X.mg X.base CX k f fd ps sp) (hr : Room k X.A) (hN : X.N[i]? = some x) (hv : Vis X.env.scope x)
    (hk : PySem.W.keepIn X.K (.ref f) = true) (hb : Binds X.K fd ps []) (hx : Passes CX X E) (ha : PA X (e :: es) t) (hdb : (x == ("__debug__" : Str)) = false) (hcd : (x == ("__classdict__" : Str)) = false)
    (he : starEach (e :: es) X.env = (false, eval e X.env) :: starEach es X.env) (hpl : (backTo pos (starEach es X.env)).any (·.1) = false) :
    PE X (.Call (.Name x p) (e :: es) [] pos) fun σ H Q => σ[i]? = some (some (.ref f)) ∧ t σ H fun vs H1 => sp vs H1 Q E := by
  constructor
  rintro pins s σ H Q I ⟨hs, ht⟩
  have ld := (pe_var (pos := p) hN hv hdb hcd).run pins s σ H (fun v H1 => v = .ref f ∧ H1 = H) I ⟨.ref f, hs, rfl, rfl⟩
  refine wpAny_Call_Name_kw (thn ld fun u s1 ⟨v, H1, I1, r1, q1⟩ => ?_)
  obtain ⟨rfl, rfl⟩ := q1
  cases r1
  have go := thn (ha.run pos pins s1 σ _ _ I1 ht) fun us s2 ⟨vs, H2, I2, r, q⟩ => (⟨I2.kIn, runG gd F hr hb hx I2 r q⟩ : X.K.In s2.heap ∧ _)
  exact PySem.W.callWith_K (h₀ := X.base) I.ok.mod.kin hk go he hpl
end
/-- from a body's walk -/
theorem fnG_of {CX : CXT} {P : Program} {w : World} {K : PySem.W.Frag} {mg : Str → Option Value} {base : Heap} {k : Nat} {f : Addr} {name qual : Str} {params : Arguments} {body : List Stmt} {scope : Scope} {dV kV doc pm cdv ct oc : Value}
    {an od : Option Addr} {osl : Array (Option Value)} {N ps : List Str} {sp : Sp} (lk : K.lookup f = some ⟨oc, od, .func (PySem.W.fnOf name qual params body scope dV kV doc pm an cdv ct), osl⟩)
    (hcd : PySem.W.codeIn K cdv qual = true) (S : FnScope N ps scope) (len : ∀ vs H Q E, sp vs H Q E → vs.length = ps.length)
    (hbody : ∀ (A : Around) (outer : List PySem.Env) (s : Shared) (H : Hp) (vs : List V) (Q : VK) (E : XK), A.guards = some [] → Room k (A.deeper (envOfC qual scope s.heap.objs.size f cdv)) → sp vs H Q E →
      ∃ t, PSs (cxOf CX P w K mg base N qual scope f cdv A outer s H E) body t ∧ t { nx := fun _ H' => Q .non H', rt := Q } (start N vs) H) :
    FnG P w K mg base CX (k + 1) f (PySem.W.fnOf name qual params body scope dV kV doc pm an cdv ct) ps sp where
  len := len
  run A outer s H ar us vs Q E gd hr e0 hb r hsp := by
    have inK : K.In s.heap := e0.mod.kin.keeps fun b o e => (e0.bs b o e).1
    have lim := e0.mod.nolimit.keeps fun b o e => (e0.bs b o e).1
    refine codeAny_call_function hr.depth (inK _ _ lk) rfl S.co S.gen rfl (PySem.W.codeRec_of inK hcd) (hb _ _ _ _ ?_)
    refine wpAny_newFunctionEnv_cells S.kind ?_ fun env he s1 x => ?_
    · rintro ⟨n, v⟩ hy
      exact (S.par n (List.of_mem_zip hy).1).imp id fun q => ⟨q, PySem.W.cellsFrom_some _ _ _ (.inl q)⟩
    subst he
    refine ⟨lim.keeps x.toInCall.keep, codeAny_func ?_⟩
    obtain ⟨t, ht, hq⟩ := hbody A outer s H vs Q E gd (hr.deeper _) hsp
    have I : Inv (cxOf CX P w K mg base N qual scope f cdv A outer s H E) [] (start N vs) H s1 := inv_start S hr.hd e0 (len _ _ _ _ hsp) r x
    refine wpAny_mono (ht.run [] s1 (start N vs) H _ I hq) ?_ fun _ _ z => z
    intro fl s' hs
    cases fl with
    | next =>
      obtain ⟨σ', H', J, q⟩ := hs
      exact ⟨V.non, H', J.os, J.bare, J.base, J.hok, rfl, q⟩
    | ret u =>
      obtain ⟨v, σ', H', J, rv, q⟩ := hs
      exact ⟨v, H', J.os, J.bare, J.base, J.hok, rv, q⟩
    | _ => exact False.elim hs.choose_spec.choose_spec.2
end Tg
end
section
set_option Elab.async false
set_option linter.all false
set_option autoImplicit false
set_option maxRecDepth 100000
namespace Tg
open PySem PySem.Spec PyProof.Rows L2

/-- what is fixed: the written part, where the defs and the classes stand -/
structure Wd where
  P : Program
  w : World
  K : PySem.W.Frag
  fa : Nat → Addr
  ca : Nat → Addr

/-- the ban: addresses that a value may not lean on -/
structure Bn where
  B : Addr → Prop
  m : List Addr
def Bn.no (b : Bn) (a : Addr) : Prop := b.B a ∨ a ∈ b.m

def KTup (K : PySem.W.Frag) (a : Addr) (xs : List V) : Prop := ∃ (o : Obj) (its : Array Value) (n : Nat), (K.lookup a = some o ∧ o.cls = .type "tuple" ∧ o.data = .seq its n ∧ its.size ≤ sizeLine ∧ Vals xs its.toList) ∧ o.dict = none
theorem KTup.sq {K : PySem.W.Frag} {H : Hp} {a : Addr} {xs : List V} (h : KTup K a xs) : SqT K H a xs := by
  obtain ⟨o, its, n, h, _⟩ := h
  exact .inr ⟨o, its, n, h⟩
/-- a dict of the top with text keys -/
def KDic (W : Wd) (a : Addr) (kvs : List (Key × V)) : Prop := (∃ o, W.K.lookup a = some o ∧ o.cls = .type "dict") ∧ (a == sysModules) = false ∧ kvs.length ≤ sizeLine ∧ ∃ vs, KV kvs vs ∧ ∀ h : Heap, W.K.In h → h.DictOf (mixKind W.P W.w) a vs

/-- the same, or a dict that is fixed now -/
def Kd (o o' : HO) : Prop := o' = o ∨ ∃ od kvs, o = .dK kvs ∧ o' = .frz od (.dK kvs)
theorem Kd.refl {o : HO} : Kd o o := .inl rfl
theorem Kd.trans {o o1 o2 : HO} (h : Kd o o1) (k : Kd o1 o2) : Kd o o2 := by
  rcases h with rfl | ⟨od, kvs, rfl, rfl⟩
  · exact k
  · rcases k with rfl | ⟨od', kvs', z, _⟩
    · exact .inr ⟨od, kvs, rfl, rfl⟩
    · cases z
theorem Kd.lst {xs : List V} {o : HO} (h : Kd (.lst xs) o) : o = .lst xs := by
  rcases h with h | ⟨_, _, z, _⟩
  · exact h
  · cases z
theorem Kd.tup {xs : List V} {o : HO} (h : Kd (.tup xs) o) : o = .tup xs := by
  rcases h with h | ⟨_, _, z, _⟩
  · exact h
  · cases z
theorem Kd.dict {H : Hp} {a : Addr} {kvs : List (Key × V)} {o o' : HO} (h : o = .dK kvs ∨ ∃ od, o = .frz od (.dK kvs)) (k : Kd o o') (e : H a = some o') : Rd H a (.dK kvs) := by
  rcases h with rfl | ⟨od, rfl⟩
  · rcases k with rfl | ⟨od, kvs', z, rfl⟩
    · exact .inl e
    · cases z; exact .inr ⟨od, e⟩
  · rcases k with rfl | ⟨od', kvs', z, _⟩
    · exact .inr ⟨od, e⟩
    · cases z
section
variable (W : Wd) (H : Hp) (b : Bn)
mutual
inductive Rep : PV → V → Prop
  | non : Rep .non .non
  | bl (x : Bool) : Rep (.bl x) (.bl x)
  | int (i : Int) : Rep (.int i) (.int i)
  | str (s : List Nat) : Rep (.str s) (.str ⟨s.toArray⟩)
  | tup {a : Addr} {xs : List V} {ps : List PV} : (¬ b.no a ∧ PTu H a xs) ∨ KTup W.K a xs → Reps ps xs → Rep (.tup ps) (.ref a)
  | lst {a : Addr} {xs : List V} {ps : List PV} : (¬ b.no a ∧ Rd H a (.lst xs)) ∨ KLst W.K a xs → Reps ps xs → Rep (.lst ps) (.ref a)
  | dct {a : Addr} {kvs : List (Key × V)} {ps : List (KP × PV)} : (¬ b.no a ∧ Rd H a (.dK kvs)) → RepK ps kvs → Rep (.dct ps) (.ref a)
  | kdc {a : Addr} {kvs : List (Key × V)} {ps : List (KP × PV)} : KDic W a kvs → RepK ps kvs → Rep (.kdc ps) (.ref a)
  | fn (i : Nat) : Rep (.fn i) (.ref (W.fa i))
  | cell {i : Nat} {a : Addr} : b.m[i]? = some a → Rep (.cell i) (.ref a)
inductive Reps : List PV → List V → Prop
  | nil : Reps [] []
  | cons {p : PV} {x : V} {ps : List PV} {xs : List V} : Rep p x → Reps ps xs → Reps (p :: ps) (x :: xs)
inductive RepK : List (KP × PV) → List (Key × V) → Prop
  | nil : RepK [] []
  | cons {k : KP} {p : PV} {x : V} {ps : List (KP × PV)} {xs : List (Key × V)} : Rep p x → RepK ps xs → RepK ((k, p) :: ps) ((kK k, x) :: xs)
end
end

/-- what an expression may do to the heap: the store's cells turn, new objects come -/
structure Stp (b b' : Bn) (H H' : Hp) : Prop where
  B : ∀ a, b'.B a ↔ b.B a
  m : ∃ l, b'.m = b.m ++ l
  new : ∀ a ∈ b'.m, a ∉ b.m → H a = none
  keep : ∀ a o, H a = some o → a ∉ b.m → ∃ o', H' a = some o' ∧ Kd o o' ∧ (b.B a → o' = o)

theorem Stp.refl {b : Bn} {H : Hp} : Stp b b H H := ⟨fun _ => Iff.rfl, ⟨[], by simp⟩, fun _ h n => absurd h n, fun _ o h _ => ⟨o, h, .refl, fun _ => rfl⟩⟩
theorem Stp.mem {b b' : Bn} {H H' : Hp} (s : Stp b b' H H') {a : Addr} (h : a ∈ b.m) : a ∈ b'.m := by
  obtain ⟨l, e⟩ := s.m
  rw [e]
  exact List.mem_append_left _ h
theorem Stp.trans {b b1 b2 : Bn} {H H1 H2 : Hp} (s : Stp b b1 H H1) (t : Stp b1 b2 H1 H2) : Stp b b2 H H2 where
  B := fun a => (t.B a).trans (s.B a)
  m := by
    obtain ⟨l, e⟩ := s.m
    obtain ⟨l', e'⟩ := t.m
    exact ⟨l ++ l', by rw [e', e, List.append_assoc]⟩
  new := fun a h n => by
    by_cases h1 : a ∈ b1.m
    · exact s.new a h1 n
    · have q := t.new a h h1
      cases e : H a with
      | none => rfl
      | some o =>
        obtain ⟨o', z, _⟩ := s.keep a o e n
        rw [z] at q; cases q
  keep := fun a o e n => by
    obtain ⟨o1, e1, k1, x1⟩ := s.keep a o e n
    have n1 : a ∉ b1.m := fun h => by
      have q := s.new a h n
      rw [e] at q; cases q
    obtain ⟨o2, e2, k2, x2⟩ := t.keep a o1 e1 n1
    exact ⟨o2, e2, k1.trans k2, fun h => (x2 ((s.B a).mpr h)).trans (x1 h)⟩
theorem Stp.ban {b b' : Bn} {H H' : Hp} (s : Stp b b' H H') {a : Addr} {o : HO} (e : H a = some o) (n : ¬ b.no a) : ¬ b'.no a := by
  intro h
  rcases h with h | h
  · exact n (.inl ((s.B a).mp h))
  · by_cases q : a ∈ b.m
    · exact n (.inr q)
    · have z := s.new a h q
      rw [e] at z; cases z
theorem Stp.keep' {b b' : Bn} {H H' : Hp} (s : Stp b b' H H') {a : Addr} {o : HO} (e : H a = some o) (n : a ∉ b.m) (h : ∀ o', Kd o o' → o' = o) : H' a = some o := by
  obtain ⟨o', q, k, _⟩ := s.keep a o e n
  rw [h o' k] at q
  exact q
theorem Stp.keepL {b b' : Bn} {H H' : Hp} (s : Stp b b' H H') {a : Addr} {xs : List V} (e : H a = some (.lst xs)) (n : a ∉ b.m) : H' a = some (.lst xs) := s.keep' e n fun _ k => k.lst
theorem Stp.keepT {b b' : Bn} {H H' : Hp} (s : Stp b b' H H') {a : Addr} {xs : List V} (e : H a = some (.tup xs)) (n : a ∉ b.m) : H' a = some (.tup xs) := s.keep' e n fun _ k => k.tup
theorem Kd.frz {od : Obj} {u o : HO} (h : Kd (.frz od u) o) : o = .frz od u := by
  rcases h with h | ⟨_, _, z, _⟩
  · exact h
  · cases z
theorem Stp.keepP {b b' : Bn} {H H' : Hp} (s : Stp b b' H H') {a : Addr} {xs : List V} (e : PTu H a xs) (n : ¬ b.no a) : ¬ b'.no a ∧ PTu H' a xs := by
  obtain ⟨o, e, hd⟩ := e
  exact ⟨s.ban e n, o, s.keep' e (fun h => n (.inr h)) fun _ k => k.frz, hd⟩
theorem Stp.keepR {b b' : Bn} {H H' : Hp} (s : Stp b b' H H') {a : Addr} {xs : List V} (e : Rd H a (.lst xs)) (n : ¬ b.no a) : ¬ b'.no a ∧ Rd H' a (.lst xs) := by
  rcases e with e | ⟨o, e⟩
  · exact ⟨s.ban e n, .inl (s.keepL e fun h => n (.inr h))⟩
  · exact ⟨s.ban e n, .inr ⟨o, s.keep' e (fun h => n (.inr h)) fun _ k => k.frz⟩⟩
theorem Stp.keepX {b b' : Bn} {H H' : Hp} (s : Stp b b' H H') {a : Addr} {o : HO} (e : H a = some o) (n : a ∉ b.m) (h : b.B a) : H' a = some o := by
  obtain ⟨o', q, _, x⟩ := s.keep a o e n
  rw [x h] at q
  exact q
theorem Stp.keepD {b b' : Bn} {H H' : Hp} (s : Stp b b' H H') {a : Addr} {kvs : List (Key × V)} (e : Rd H a (.dK kvs)) (n : a ∉ b.m) : Rd H' a (.dK kvs) := by
  rcases e with e | ⟨od, e⟩
  · obtain ⟨o', q, k, _⟩ := s.keep a _ e n
    exact Kd.dict (.inl rfl) k q
  · obtain ⟨o', q, k, _⟩ := s.keep a _ e n
    exact Kd.dict (.inr ⟨od, rfl⟩) k q
theorem Stp.there {b b' : Bn} {H H' : Hp} (s : Stp b b' H H') {a : Addr} {o : HO} (e : H a = some o) (n : a ∉ b.m) : ∃ o', H' a = some o' := by
  obtain ⟨o', q, _⟩ := s.keep a o e n
  exact ⟨o', q⟩

section
variable {W : Wd}
mutual
theorem Rep.step {b b' : Bn} {H H' : Hp} (s : Stp b b' H H') : ∀ {p : PV} {x : V}, Rep W H b p x → Rep W H' b' p x
  | _, _, .non => .non
  | _, _, .bl x => .bl x
  | _, _, .int i => .int i
  | _, _, .str z => .str z
  | _, _, .tup (.inl ⟨n, e⟩) r => .tup (.inl (s.keepP e n)) (Reps.step s r)
  | _, _, .tup (.inr k) r => .tup (.inr k) (Reps.step s r)
  | _, _, .lst (.inl ⟨n, e⟩) r => .lst (.inl (s.keepR e n)) (Reps.step s r)
  | _, _, .lst (.inr k) r => .lst (.inr k) (Reps.step s r)
  | _, _, .dct ⟨n, e⟩ r => .dct ⟨(by
      rcases e with e | ⟨_, e⟩
      · exact s.ban e n
      · exact s.ban e n), s.keepD e fun h => n (.inr h)⟩ (RepK.step s r)
  | _, _, .kdc k r => .kdc k (RepK.step s r)
  | _, _, .fn i => .fn i
  | _, _, .cell e => .cell (by
      obtain ⟨l, q⟩ := s.m
      rw [q]
      have := (List.getElem?_eq_some_iff.mp e).1
      rw [List.getElem?_append_left this]
      exact e)
theorem Reps.step {b b' : Bn} {H H' : Hp} (s : Stp b b' H H') : ∀ {p : List PV} {x : List V}, Reps W H b p x → Reps W H' b' p x
  | _, _, .nil => .nil
  | _, _, .cons r t => .cons (Rep.step s r) (Reps.step s t)
theorem RepK.step {b b' : Bn} {H H' : Hp} (s : Stp b b' H H') : ∀ {p : List (KP × PV)} {x : List (Key × V)}, RepK W H b p x → RepK W H' b' p x
  | _, _, .nil => .nil
  | _, _, .cons r t => .cons (Rep.step s r) (RepK.step s t)
end
/-- the cells of the store -/
def StoreOk (W : Wd) (H : Hp) (b : Bn) (S : Store) : Prop := b.m.length = S.length ∧ b.m.Nodup ∧ ∀ (i : Nat) (a : Addr) (ps : List PV), b.m[i]? = some a → S[i]? = some ps → ∃ xs, H a = some (.lst xs) ∧ Reps W H b ps xs
theorem Reps.length {H : Hp} {b : Bn} : ∀ {ps : List PV} {xs : List V}, Reps W H b ps xs → ps.length = xs.length
  | _, _, .nil => rfl
  | _, _, .cons _ t => by simp [Reps.length t]
theorem Reps.get {H : Hp} {b : Bn} : ∀ {ps : List PV} {xs : List V} {i : Nat} {p : PV}, Reps W H b ps xs → ps[i]? = some p → ∃ x, xs[i]? = some x ∧ Rep W H b p x
  | _, _, 0, _, .cons r _, e => by simp at e; subst e; exact ⟨_, rfl, r⟩
  | _, _, i + 1, _, .cons _ t, e => by
    obtain ⟨x, h1, h2⟩ := Reps.get (i := i) t (by simpa using e)
    exact ⟨x, by simpa using h1, h2⟩
end

/-- a step with the store -/
structure Adv (W : Wd) (b b' : Bn) (H H' : Hp) (S' : Store) : Prop where
  stp : Stp b b' H H'
  st : StoreOk W H' b' S'
theorem Adv.trans {W : Wd} {b b1 b2 : Bn} {H H1 H2 : Hp} {S1 S2 : Store} (s : Adv W b b1 H H1 S1) (t : Adv W b1 b2 H1 H2 S2) : Adv W b b2 H H2 S2 := ⟨s.stp.trans t.stp, t.st⟩

/-- the ghost of one def's run: the heap at its entry, the cells then, what was banned then -/
structure Gh where
  H0 : Hp
  m0 : List Addr
  B0 : Addr → Prop
  /-- what was owned then (by the same run: at a loop's begin) -/
  M0 : Addr → Prop

/-- an owned list, an owned dict -/
def Owns (W : Wd) (H : Hp) (b : Bn) : PV → Addr → Prop
  | .lst ps, a => ∃ xs, H a = some (.lst xs) ∧ Reps W H b ps xs
  | .dct ps, a => ∃ xs, H a = some (.dK xs) ∧ RepK W H b ps xs
  | _, _ => False
/-- a slot and what the frame holds there; O: the addresses that this run owns -/
def SlOk (W : Wd) (H : Hp) (b : Bn) (O : Addr → Prop) (s : Sl) (x : Option (Option V)) : Prop := match s with
  | .no => True
  | .val p => ∃ v, x = some (some v) ∧ Rep W H b p v
  | .own p => ∃ a, x = some (some (.ref a)) ∧ O a ∧ Owns W H b p a

structure EnvOk (W : Wd) (g : Gh) (ρ : Env) (S : Store) (b : Bn) (O : Addr → Prop) (σ : L2.St) (H : Hp) : Prop where
  len : ρ.length = σ.length
  slot : ∀ i, SlOk W H b O (look ρ i) σ[i]?
  inj : ∀ (i j : Nat) (p q : PV) (a : Addr), look ρ i = .own p → look ρ j = .own q → σ[i]? = some (some (.ref a)) → σ[j]? = some (some (.ref a)) → i = j
  oB : ∀ a, O a → b.B a ∧ (g.H0 a = none ∨ g.M0 a) ∧ a ∉ b.m
  Bo : ∀ a, b.B a ↔ (g.B0 a ∨ O a)
  B0t : ∀ a, g.B0 a → ∃ o, g.H0 a = some o
  BM : ∀ a, g.M0 a → ¬ g.B0 a
  tr : ∀ a, b.no a → ∃ o, H a = some o
  st : StoreOk W H b S
  m0 : ∃ l, b.m = g.m0 ++ l
  mn : ∀ a ∈ b.m, a ∉ g.m0 → g.H0 a = none
  mt : ∀ a, g.M0 a → ∃ o, H a = some o
  keep : ∀ a o, g.H0 a = some o → a ∉ g.m0 → ¬ g.M0 a → ∃ o', H a = some o' ∧ Kd o o' ∧ (g.B0 a → o' = o)

theorem Owns.step {W : Wd} {b b' : Bn} {H H' : Hp} (s : Stp b b' H H') {p : PV} {a : Addr} (hB : b.B a) (n : a ∉ b.m) (h : Owns W H b p a) : Owns W H' b' p a := by
  cases p with
  | lst ps =>
    obtain ⟨xs, e, r⟩ := h
    exact ⟨xs, s.keepX e n hB, r.step s⟩
  | dct ps =>
    obtain ⟨xs, e, r⟩ := h
    exact ⟨xs, s.keepX e n hB, r.step s⟩
  | _ => exact h.elim
theorem EnvOk.adv {W : Wd} {g : Gh} {ρ : Env} {S S' : Store} {b b' : Bn} {O : Addr → Prop} {σ : L2.St} {H H' : Hp} (e : EnvOk W g ρ S b O σ H) (d : Adv W b b' H H' S') : EnvOk W g ρ S' b' O σ H' where
  len := e.len
  slot := fun i => by
    have h := e.slot i
    unfold SlOk at h ⊢
    cases q : look ρ i with
    | no => trivial
    | val p =>
      rw [q] at h
      obtain ⟨v, e1, r⟩ := h
      exact ⟨v, e1, r.step d.stp⟩
    | own p =>
      rw [q] at h
      obtain ⟨a, e1, o, r⟩ := h
      exact ⟨a, e1, o, r.step d.stp (e.oB a o).1 (e.oB a o).2.2⟩
  inj := e.inj
  oB := fun a o => by
    obtain ⟨h1, h2, h3⟩ := e.oB a o
    refine ⟨(d.stp.B a).mpr h1, h2, fun h => ?_⟩
    have z := d.stp.new a h h3
    obtain ⟨o', q⟩ := e.tr a (.inl h1)
    rw [z] at q; cases q
  Bo := fun a => (d.stp.B a).trans (e.Bo a)
  B0t := e.B0t
  BM := e.BM
  tr := fun a h => by
    rcases h with h | h
    · have h1 := (d.stp.B a).mp h
      obtain ⟨o, q⟩ := e.tr a (.inl h1)
      by_cases hm : a ∈ b.m
      · obtain ⟨i, hi⟩ := List.getElem?_of_mem (d.stp.mem hm)
        have hl : i < S'.length := by rw [← d.st.1]; exact (List.getElem?_eq_some_iff.mp hi).1
        obtain ⟨xs, q, _⟩ := d.st.2.2 i a _ hi (List.getElem?_eq_getElem hl)
        exact ⟨_, q⟩
      · exact d.stp.there q hm
    · obtain ⟨i, hi⟩ := List.getElem?_of_mem h
      have hl : i < S'.length := by rw [← d.st.1]; exact (List.getElem?_eq_some_iff.mp hi).1
      obtain ⟨xs, q, _⟩ := d.st.2.2 i a _ hi (List.getElem?_eq_getElem hl)
      exact ⟨_, q⟩
  st := d.st
  m0 := by
    obtain ⟨l, q⟩ := e.m0
    obtain ⟨l', q'⟩ := d.stp.m
    exact ⟨l ++ l', by rw [q', q, List.append_assoc]⟩
  mn := fun a h n => by
    by_cases q : a ∈ b.m
    · exact e.mn a q n
    · have z := d.stp.new a h q
      cases r : g.H0 a with
      | none => rfl
      | some o =>
        by_cases hM : g.M0 a
        · obtain ⟨_, q⟩ := e.mt a hM
          rw [z] at q; cases q
        · obtain ⟨o', q', _⟩ := e.keep a o r n hM
          rw [q'] at z; cases z
  mt := fun a h => by
    obtain ⟨o, q⟩ := e.mt a h
    by_cases hm : a ∈ b.m
    · obtain ⟨i, hi⟩ := List.getElem?_of_mem (d.stp.mem hm)
      have hl : i < S'.length := by rw [← d.st.1]; exact (List.getElem?_eq_some_iff.mp hi).1
      obtain ⟨xs, q, _⟩ := d.st.2.2 i a _ hi (List.getElem?_eq_getElem hl)
      exact ⟨_, q⟩
    · exact d.stp.there q hm
  keep := fun a o h n hM => by
    obtain ⟨o1, q1, k1, x1⟩ := e.keep a o h n hM
    obtain ⟨o2, q2, k2, x2⟩ := d.stp.keep a o1 q1 fun q => by
      have z := e.mn a q n
      rw [h] at z; cases z
    exact ⟨o2, q2, k1.trans k2, fun z => (x2 ((e.Bo a).mpr (.inl z))).trans (x1 z)⟩

/-- a value that is weakly told: a value, or an owned list or dict -/
def RepW (W : Wd) (H : Hp) (b : Bn) (p : PV) (x : V) : Prop := Rep W H b p x ∨ ∃ a, x = .ref a ∧ (b.B a ∧ a ∉ b.m) ∧ Owns W H b p a
theorem Owns.there {W : Wd} {H : Hp} {b : Bn} {p : PV} {a : Addr} (h : Owns W H b p a) : ∃ o, H a = some o := by
  cases p with
  | lst ps => obtain ⟨xs, e, _⟩ := h; exact ⟨_, e⟩
  | dct ps => obtain ⟨xs, e, _⟩ := h; exact ⟨_, e⟩
  | _ => exact h.elim
theorem RepW.step {W : Wd} {b b' : Bn} {H H' : Hp} (s : Stp b b' H H') {v : PV} {x : V} (r : RepW W H b v x) : RepW W H' b' v x := by
  rcases r with r | ⟨a, e, o, r⟩
  · exact .inl (r.step s)
  · refine .inr ⟨a, e, ⟨(s.B a).mpr o.1, fun h => ?_⟩, r.step s o.1 o.2⟩
    have z := s.new a h o.2
    obtain ⟨_, q⟩ := r.there
    rw [z] at q; cases q

/-- an exception that is let out -/
def exE (W : Wd) (E : XK) (b : Bn) (H : Hp) (c : Nat) (v : PV) (S' : Store) : Prop := ∀ x d H' b', Adv W b b' H H' S' → Rep W H' b' v x → H' d = some (.xd [("value", x)]) → E (.ref (W.ca c)) (some d) H'


/-- what holds behind a meaning's end -/
def fin {α : Type} (W : Wd) (E : XK) (P : α → Store → Hp → Bn → Prop) (b : Bn) (H : Hp) (r : Rs α) : Prop := match r with
  | .ok v S' => ∀ H' b', Adv W b b' H H' S' → P v S' H' b'
  | .exc c v S' => exE W E b H c v S'
  | .bad => False
theorem fin.imp {α : Type} {W : Wd} {E : XK} {P P' : α → Store → Hp → Bn → Prop} {b : Bn} {H : Hp} {r : Rs α} (h : fin W E P b H r) (hi : ∀ v S' H' b', Adv W b b' H H' S' → P v S' H' b' → P' v S' H' b') : fin W E P' b H r := by
  cases r with
  | ok v S' => exact fun H' b' d => hi v S' H' b' d (h H' b' d)
  | exc c v S' => exact h
  | bad => exact h
theorem fin.adv {α : Type} {W : Wd} {E : XK} {P : α → Store → Hp → Bn → Prop} {b b1 : Bn} {H H1 : Hp} {S1 : Store} {r : Rs α} (d : Adv W b b1 H H1 S1) (h : fin W E P b H r) : fin W E P b1 H1 r := by
  cases r with
  | ok v S' => exact fun H' b' d' => h H' b' (d.trans d')
  | exc c v S' => exact fun x dd H' b' d' => h x dd H' b' (d.trans d')
  | bad => exact h
theorem fin.bnd {α β : Type} {W : Wd} {E : XK} {P : β → Store → Hp → Bn → Prop} {b : Bn} {H : Hp} {r : Rs α} {k : α → Store → Rs β} (h : fin W E P b H (r.bnd k)) : fin W E (fun v S1 H1 b1 => fin W E P b1 H1 (k v S1)) b H r := by
  cases r with
  | ok v S' => exact fun H' b' d => fin.adv d h
  | exc c v S' => exact h
  | bad => exact h

/-- a meaning run from the slots and the heap -/
def tF {α : Type} (W : Wd) (g : Gh) (E : XK) (d : Env → Store → Rs α) (P : α → Store → Hp → Bn → Prop) (σ : L2.St) (H : Hp) : Prop := ∃ ρ S b O, EnvOk W g ρ S b O σ H ∧ fin W E P b H (d ρ S)
theorem tF.imp {α : Type} {W : Wd} {g : Gh} {E : XK} {d : Env → Store → Rs α} {P P' : α → Store → Hp → Bn → Prop} {σ : L2.St} {H : Hp} (h : tF W g E d P σ H) (hi : ∀ v S' H' b', StoreOk W H' b' S' → P v S' H' b' → P' v S' H' b') : tF W g E d P' σ H := by
  obtain ⟨ρ, S, b, O, e, f⟩ := h
  exact ⟨ρ, S, b, O, e, f.imp fun v S' H' b' d q => hi v S' H' b' d.st q⟩
theorem tF.seq {α β : Type} {W : Wd} {g : Gh} {E : XK} {da : Env → Store → Rs α} {k : Env → α → Store → Rs β} {P : β → Store → Hp → Bn → Prop} {σ : L2.St} {H : Hp}
    (h : tF W g E (fun ρ S => (da ρ S).bnd (k ρ)) P σ H) : tF W g E da (fun v S1 H1 b1 => ∃ ρ O, EnvOk W g ρ S1 b1 O σ H1 ∧ fin W E P b1 H1 (k ρ v S1)) σ H := by
  obtain ⟨ρ, S, b, O, e, f⟩ := h
  exact ⟨ρ, S, b, O, e, f.bnd.imp fun v S1 H1 b1 d q => ⟨ρ, O, e.adv d, q⟩⟩

/-- the reading of an expression by its meaning: its value, fully or weakly told -/
def tEv (W : Wd) (g : Gh) (E : XK) (d : Den) : TE := fun σ H Q => tF W g E d (fun v _ H' b' => ∀ x, Rep W H' b' v x → Q x H') σ H
def tEw (W : Wd) (g : Gh) (E : XK) (d : Den) : TE := fun σ H Q => tF W g E d (fun v _ H' b' => ∀ x, RepW W H' b' v x → Q x H') σ H
/-- .. of arguments -/
def tEa (W : Wd) (g : Gh) (E : XK) (d : Den) : TA := fun σ H Q => tF W g E d (fun v _ H' b' => ∀ xs, Reps W H' b' (asL v) xs → Q xs H') σ H
/-- .. of a test -/
def tEt (W : Wd) (g : Gh) (E : XK) (d : Den) : TT := fun σ H Q => tF W g E d (fun v _ H' b' => ∃ c, truth v = some c ∧ Q c H') σ H

theorem tEw_of {W : Wd} {g : Gh} {E : XK} {d : Den} {σ : L2.St} {H : Hp} {Q : VK} (h : tEw W g E d σ H Q) : tEv W g E d σ H Q := h.imp fun _ _ _ _ _ q x r => q x (.inl r)

theorem peI {X : Cx} {e : Expr} {t t' : TE} (h : PE X e t) (hi : ∀ σ H Q, t' σ H Q → t σ H Q) : PE X e t' := ⟨fun pins s σ H Q I q => h.run pins s σ H Q I (hi σ H Q q)⟩
theorem ptI {X : Cx} {e : Expr} {t t' : TT} (h : PT X e t) (hi : ∀ σ H Q, t' σ H Q → t σ H Q) : PT X e t' := ⟨fun pins s σ H Q I q => h.run pins s σ H Q I (hi σ H Q q)⟩
theorem paI {X : Cx} {e : List Expr} {t t' : TA} (h : PA X e t) (hi : ∀ σ H Q, t' σ H Q → t σ H Q) : PA X e t' := ⟨fun pos pins s σ H Q I q => h.run pos pins s σ H Q I (hi σ H Q q)⟩
theorem psI {X : Cx} {e : Stmt} {t t' : TS} (h : PS X e t) (hi : ∀ D σ H, t' D σ H → t D σ H) : PS X e t' := ⟨fun pins s σ H D I q => h.run pins s σ H D I (hi D σ H q)⟩
theorem pssI {X : Cx} {e : List Stmt} {t t' : TS} (h : PSs X e t) (hi : ∀ D σ H, t' D σ H → t D σ H) : PSs X e t' := ⟨fun pins s σ H D I q => h.run pins s σ H D I (hi D σ H q)⟩
theorem pgI {X : Cx} {e : Expr} {t t' : TG} (h : PG X e t) (hi : ∀ v σ H Q, t' v σ H Q → t v σ H Q) : PG X e t' := ⟨fun pins s σ H v u Q I r q => h.run pins s σ H v u Q I r (hi v σ H Q q)⟩

/-- a new object -/
theorem StoreOk.step {W : Wd} {b : Bn} {H H' : Hp} {S : Store} (s : StoreOk W H b S) (k : ∀ a o, H a = some o → H' a = some o) : StoreOk W H' b S :=
  ⟨s.1, s.2.1, fun i a ps e1 e2 => by
    obtain ⟨xs, q, r⟩ := s.2.2 i a ps e1 e2
    exact ⟨xs, k _ _ q, r.step ⟨fun _ => Iff.rfl, ⟨[], by simp⟩, fun _ h n => absurd h n, fun a o e _ => ⟨o, k a o e, .refl, fun _ => rfl⟩⟩⟩⟩
theorem Adv.grow {W : Wd} {b : Bn} {H H' : Hp} {S : Store} (s : StoreOk W H b S) (k : ∀ a o, H a = some o → H' a = some o) : Adv W b b H H' S :=
  ⟨⟨fun _ => Iff.rfl, ⟨[], by simp⟩, fun _ h n => absurd h n, fun a o e _ => ⟨o, k a o e, .refl, fun _ => rfl⟩⟩, s.step k⟩
theorem same_upd {H : Hp} {p : Addr} {o : HO} (hp : H p = none) : ∀ a o', H a = some o' → upd H p o a = some o' := fun a o' e => by
  rw [upd_ne (ne_of_none e hp)]
  exact e
theorem Adv.new {W : Wd} {b : Bn} {H : Hp} {S : Store} {p : Addr} {o : HO} (s : StoreOk W H b S) (hp : H p = none) : Adv W b b H (upd H p o) S := .grow s (same_upd hp)
theorem Adv.refl {W : Wd} {b : Bn} {H : Hp} {S : Store} (s : StoreOk W H b S) : Adv W b b H H S := .grow s fun _ _ e => e
theorem Rep.grow {W : Wd} {b : Bn} {H H' : Hp} {p : PV} {x : V} (r : Rep W H b p x) (k : ∀ a o, H a = some o → H' a = some o) : Rep W H' b p x := r.step ⟨fun _ => Iff.rfl, ⟨[], by simp⟩, fun _ h n => absurd h n, fun a o e _ => ⟨o, k a o e, .refl, fun _ => rfl⟩⟩
theorem Reps.grow {W : Wd} {b : Bn} {H H' : Hp} {p : List PV} {x : List V} (r : Reps W H b p x) (k : ∀ a o, H a = some o → H' a = some o) : Reps W H' b p x := r.step ⟨fun _ => Iff.rfl, ⟨[], by simp⟩, fun _ h n => absurd h n, fun a o e _ => ⟨o, k a o e, .refl, fun _ => rfl⟩⟩

section
variable {X : Cx} {W : Wd} {g : Gh} {E : XK}

theorem EnvOk.fresh {ρ : Env} {S : Store} {b : Bn} {O : Addr → Prop} {σ : L2.St} {H : Hp} (e : EnvOk W g ρ S b O σ H) {p : Addr} (hp : H p = none) : ¬ b.no p := fun h => by
  obtain ⟨o, q⟩ := e.tr p h
  rw [hp] at q; cases q

/-! ### names, constants -/
theorem se_var {i : Nat} {x : Str} {pos : Pos} (hN : X.N[i]? = some x) (hv : Vis X.env.scope x) (hd : (x == ("__debug__" : Str)) = false) (hcd : (x == ("__classdict__" : Str)) = false) : PE X (.Name x pos) (tEv W g E (dVar i)) := by
  refine peI (pe_var hN hv hd hcd) ?_
  rintro σ H Q ⟨ρ, S, b, O, e, f⟩
  have h := e.slot i
  unfold dVar at f
  unfold SlOk at h
  cases q : look ρ i with
  | no => rw [q] at f; exact f.elim
  | own p => rw [q] at f; exact f.elim
  | val p =>
    rw [q] at f h
    obtain ⟨v, e1, r⟩ := h
    exact ⟨v, e1, f H b (.refl e.st) v r⟩
theorem se_bor {i : Nat} {x : Str} {pos : Pos} (hN : X.N[i]? = some x) (hv : Vis X.env.scope x) (hd : (x == ("__debug__" : Str)) = false) (hcd : (x == ("__classdict__" : Str)) = false) : PE X (.Name x pos) (tEw W g E (dBor i)) := by
  refine peI (pe_var hN hv hd hcd) ?_
  rintro σ H Q ⟨ρ, S, b, O, e, f⟩
  have h := e.slot i
  unfold dBor at f
  unfold SlOk at h
  cases q : look ρ i with
  | no => rw [q] at f; exact f.elim
  | own p =>
    rw [q] at f h
    obtain ⟨a, e1, o, r⟩ := h
    exact ⟨_, e1, f H b (.refl e.st) _ (.inr ⟨a, rfl, ⟨(e.oB a o).1, (e.oB a o).2.2⟩, r⟩)⟩
  | val p =>
    rw [q] at f h
    obtain ⟨v, e1, r⟩ := h
    exact ⟨v, e1, f H b (.refl e.st) v (.inl r)⟩
theorem se_c {e : Expr} {p : PV} {v : V} (h : PE X e (tC v)) (hr : ∀ H b, Rep W H b p v) : PE X e (tEv W g E (dC p)) := by
  refine peI h ?_
  rintro σ H Q ⟨ρ, S, b, O, e, f⟩
  exact f H b (.refl e.st) v (hr H b)

/-! ### arguments, displays -/
theorem sa_nil : PA X [] (tEa W g E dNil) := by
  refine paI pa_nil ?_
  rintro σ H Q ⟨ρ, S, b, O, e, f⟩
  exact f H b (.refl e.st) [] .nil
theorem sa_cons {e : Expr} {es : List Expr} {da dr : Den} (ha : PE X e (tEv W g E da)) (hr : PA X es (tEa W g E dr))
    (hs : starEach (e :: es) X.env = (false, eval e X.env) :: starEach es X.env := by rfl) : PA X (e :: es) (tEa W g E (dCons da dr)) := by
  refine paI (pa_cons ha hr hs) ?_
  intro σ H Q h
  refine (tF.seq (k := fun ρ v S1 => (dr ρ S1).bnd fun vs S2 => .ok (consV v vs) S2) h).imp fun v S1 H1 b1 s1 ⟨ρ, O, e1, f⟩ x rx => ?_
  exact ⟨ρ, S1, b1, O, e1, f.bnd.imp fun vs S2 H2 b2 d q xs rs => q H2 b2 (.refl d.st) (x :: xs) (.cons (rx.step d.stp) rs)⟩
theorem len_le {ps : List PV} {xs : List V} {H : Hp} {b : Bn} (r : Reps W H b ps xs) (h : ps.length ≤ sizeLine) : xs.length ≤ sizeLine := r.length ▸ h
theorem se_tup {es : List Expr} {dr : Den} {x1} {pos : Pos} (h : PA X es (tEa W g E dr)) : PE X (.Tuple es x1 pos) (tEv W g E (dTup dr)) := by
  refine peI (pe_tupF h) ?_
  intro σ H Q h
  refine (tF.seq (k := fun _ vs S1 => okN (asL vs) (.tup (asL vs)) S1) h).imp fun v S1 H1 b1 s1 ⟨ρ, O, e1, f⟩ xs rs => ?_
  unfold okN at f
  split at f
  · rename_i hl
    refine ⟨len_le rs hl, fun p o hp ho => f _ b1 (.new s1 hp) _ (.tup (.inl ⟨e1.fresh hp, o, upd_same, ho⟩) (rs.grow (same_upd hp)))⟩
  · exact f.elim
theorem se_lst {es : List Expr} {dr : Den} {pos : Pos} (h : PA X es (tEa W g E dr)) : PE X (.List es pos) (tEv W g E (dLst dr)) := by
  refine peI (pe_lst h) ?_
  intro σ H Q h
  refine (tF.seq (k := fun _ vs S1 => okN (asL vs) (.lst (asL vs)) S1) h).imp fun v S1 H1 b1 s1 ⟨ρ, O, e1, f⟩ xs rs => ?_
  unfold okN at f
  split at f
  · rename_i hl
    refine ⟨len_le rs hl, fun p hp => f _ b1 (.new s1 hp) _ (.lst (.inl ⟨e1.fresh hp, .inl upd_same⟩) (rs.grow (same_upd hp)))⟩
  · exact f.elim

/-! ### operators by values -/
abbrev RR := Hp → Bn → PV → V → Prop
abbrev RS (W : Wd) : RR := fun H b v x => Rep W H b v x
abbrev RW (W : Wd) : RR := fun H b v x => RepW W H b v x
def Stb (R : RR) : Prop := ∀ {b b' : Bn} {H H' : Hp} {v : PV} {x : V}, Stp b b' H H' → R H b v x → R H' b' v x
theorem stb_s : Stb (RS W) := fun s r => Rep.step s r
theorem stb_w : Stb (RW W) := fun s r => RepW.step s r
/-- a reading by a relation -/
def tEr (W : Wd) (g : Gh) (E : XK) (R : RR) (d : Den) : TE := fun σ H Q => tF W g E d (fun v _ H' b' => ∀ x, R H' b' v x → Q x H') σ H
/-- at a point -/
structure At (W : Wd) (g : Gh) (ρ : Env) (S : Store) (b : Bn) (O : Addr → Prop) (σ : L2.St) (H : Hp) : Prop where
  e : EnvOk W g ρ S b O σ H
theorem two {α : Type} {Ra Rb : RR} (sa : Stb Ra) {da db : Den} {k : Env → PV → PV → Store → Rs α} {P : α → Store → Hp → Bn → Prop} {σ : L2.St} {H : Hp}
    (h : tF W g E (fun ρ S => (da ρ S).bnd fun v S1 => (db ρ S1).bnd fun u S2 => k ρ v u S2) P σ H) :
    tEr W g E Ra da σ H fun x H1 => tEr W g E Rb db σ H1 fun y H2 => ∃ ρ S b O v u, EnvOk W g ρ S b O σ H2 ∧ Ra H2 b v x ∧ Rb H2 b u y ∧ fin W E P b H2 (k ρ v u S) := by
  refine (tF.seq (k := fun ρ v S1 => (db ρ S1).bnd fun u S2 => k ρ v u S2) h).imp fun v S1 H1 b1 s1 ⟨ρ, O, e1, f⟩ x rx => ?_
  exact ⟨ρ, S1, b1, O, e1, f.bnd.imp fun u S2 H2 b2 d q y ry => ⟨ρ, S2, b2, O, v, u, e1.adv d, sa d.stp rx, ry, q⟩⟩
theorem one {α : Type} {Ra : RR} {da : Den} {k : Env → PV → Store → Rs α} {P : α → Store → Hp → Bn → Prop} {σ : L2.St} {H : Hp}
    (h : tF W g E (fun ρ S => (da ρ S).bnd fun v S1 => k ρ v S1) P σ H) :
    tEr W g E Ra da σ H fun x H1 => ∃ ρ S b O v, EnvOk W g ρ S b O σ H1 ∧ Ra H1 b v x ∧ fin W E P b H1 (k ρ v S) :=
  (tF.seq h).imp fun v S1 H1 b1 _ ⟨ρ, O, e1, f⟩ _ rx => ⟨ρ, S1, b1, O, v, e1, rx, f⟩

/-- where a value function's rule stands: what is banned is tracked; what comes is new or nothing comes -/
def Op2 (W : Wd) (Ra Rb : RR) (f : PV → PV → Option PV) (r : R2) : Prop :=
  ∀ (v u w : PV) (x y : V) (H : Hp) (b : Bn) (Q : VK), (∀ p, H p = none → ¬ b.no p) → Ra H b v x → Rb H b u y → f v u = some w →
    (∀ z H', (∀ a o, H a = some o → H' a = some o) → Rep W H' b w z → Q z H') → r x y H Q
def Op1 (W : Wd) (Ra : RR) (f : PV → Option PV) (r : V → Hp → VK → Prop) : Prop :=
  ∀ (v w : PV) (x : V) (H : Hp) (b : Bn) (Q : VK), (∀ p, H p = none → ¬ b.no p) → Ra H b v x → f v = some w →
    (∀ z H', (∀ a o, H a = some o → H' a = some o) → Rep W H' b w z → Q z H') → r x H Q
theorem op2_end {Ra Rb : RR} {f : PV → PV → Option PV} {r : R2} (hf : Op2 W Ra Rb f r) {σ : L2.St} {H2 : Hp} {x y : V} {Q : VK}
    (h : ∃ ρ S b O v u, EnvOk W g ρ S b O σ H2 ∧ Ra H2 b v x ∧ Rb H2 b u y ∧ fin W E (fun w _ H' b' => ∀ z, Rep W H' b' w z → Q z H') b H2 (okv (f v u) S)) : r x y H2 Q := by
  obtain ⟨ρ, S, b, O, v, u, e, ra, rb, f0⟩ := h
  cases q : f v u with
  | none => rw [q] at f0; exact f0.elim
  | some w =>
    rw [q] at f0
    exact hf v u w x y H2 b Q (fun p hp => e.fresh hp) ra rb q fun z H' k rz => f0 H' b (.grow e.st k) z rz
theorem op1_end {Ra : RR} {f : PV → Option PV} {r : V → Hp → VK → Prop} (hf : Op1 W Ra f r) {σ : L2.St} {H2 : Hp} {x : V} {Q : VK}
    (h : ∃ ρ S b O v, EnvOk W g ρ S b O σ H2 ∧ Ra H2 b v x ∧ fin W E (fun w _ H' b' => ∀ z, Rep W H' b' w z → Q z H') b H2 (okv (f v) S)) : r x H2 Q := by
  obtain ⟨ρ, S, b, O, v, e, ra, f0⟩ := h
  cases q : f v with
  | none => rw [q] at f0; exact f0.elim
  | some w =>
    rw [q] at f0
    exact hf v w x H2 b Q (fun p hp => e.fresh hp) ra q fun z H' k rz => f0 H' b (.grow e.st k) z rz
section
variable {Ra Rb : RR} {a c : Expr} {da db : Den} {pos : Pos}
theorem se_bin {op : Operator} {f : PV → PV → Option PV} {r : R2} (sa : Stb Ra) (ho : OpR X (binaryOp op) r) (hf : Op2 W Ra Rb f r) (ha : PE X a (tEr W g E Ra da)) (hb : PE X c (tEr W g E Rb db)) :
    PE X (.BinOp a op c pos) (tEv W g E (dB2 f da db)) :=
  peI (pe_op ho ha hb) fun σ H Q h => (two (Ra := Ra) (Rb := Rb) (k := fun _ v u S => okv (f v u) S) sa h).imp fun _ _ _ _ _ q x rx => (q x rx).imp fun _ _ _ _ _ q' y ry => op2_end hf (q' y ry)
theorem se_cmp {op : CmpOp} {f : PV → PV → Option PV} {r : R2} (sa : Stb Ra) (ho : OpR X (compareOp op) r) (hf : Op2 W Ra Rb f r) (ha : PE X a (tEr W g E Ra da)) (hb : PE X c (tEr W g E Rb db)) (hm : behindInMarks op c = false) :
    PE X (.Compare a [op] [c] pos) (tEv W g E (dB2 f da db)) :=
  peI (pe_cmpR ho ha hb hm) fun σ H Q h => (two (Ra := Ra) (Rb := Rb) (k := fun _ v u S => okv (f v u) S) sa h).imp fun _ _ _ _ _ q x rx => (q x rx).imp fun _ _ _ _ _ q' y ry => op2_end hf (q' y ry)
/-- a test's end from a value's -/
theorem tt_of {d : Den} {σ : L2.St} {H : Hp} {Q : Bool → Hp → Prop} (hb : ∀ ρ S v S', d ρ S = .ok v S' → ∃ k, v = .bl k) (h : tEt W g E d σ H Q) : tEv W g E d σ H fun x H1 => ∃ k, x = .bl k ∧ Q k H1 := by
  obtain ⟨ρ, S, b, O, e, f⟩ := h
  refine ⟨ρ, S, b, O, e, ?_⟩
  cases q : d ρ S with
  | ok v S' =>
    rw [q] at f
    obtain ⟨k, rfl⟩ := hb ρ S v S' q
    intro H' b' dd x rx
    obtain ⟨c, h1, h2⟩ := f H' b' dd
    cases rx
    cases h1
    exact ⟨k, rfl, h2⟩
  | exc c v S' => rw [q] at f; exact f
  | bad => rw [q] at f; exact f
def BlF (f : PV → PV → Option PV) : Prop := ∀ v u w, f v u = some w → ∃ k, w = .bl k
theorem bl_b2 {f : PV → PV → Option PV} (hf : BlF f) : ∀ ρ S v S', dB2 f da db ρ S = .ok v S' → ∃ k, v = .bl k := by
  intro ρ S v S' h
  unfold dB2 at h
  cases q : da ρ S with
  | ok v1 S1 =>
    rw [q] at h
    cases q2 : db ρ S1 with
    | ok v2 S2 =>
      simp only [Rs.bnd, q2] at h
      cases q3 : f v1 v2 with
      | some w =>
        rw [q3] at h
        obtain ⟨k, rfl⟩ := hf _ _ _ q3
        cases h
        exact ⟨k, rfl⟩
      | none => rw [q3] at h; cases h
    | exc c v S' => simp only [Rs.bnd, q2] at h; cases h
    | bad => simp only [Rs.bnd, q2] at h; cases h
  | exc c v S' => rw [q] at h; cases h
  | bad => rw [q] at h; cases h
theorem st_cmp {op : CmpOp} {f : PV → PV → Option PV} {r : R2} (sa : Stb Ra) (ho : OpR X (compareOp op) r) (hf : Op2 W Ra Rb f r) (hk : BlF f) (ha : PE X a (tEr W g E Ra da)) (hb : PE X c (tEr W g E Rb db)) (hm : behindInMarks op c = false) :
    PT X (.Compare a [op] [c] pos) (tEt W g E (dB2 f da db)) :=
  ptI (pt_cmpR ho ha hb hm) fun σ H Q h => (two (Ra := Ra) (Rb := Rb) (k := fun _ v u S => okv (f v u) S) sa (tt_of (bl_b2 hk) h)).imp fun _ _ _ _ _ q x rx => (q x rx).imp fun _ _ _ _ _ q' y ry => op2_end hf (q' y ry)
end

/-! ### truth -/
theorem tru_of {H : Hp} {b : Bn} {v : PV} {x : V} {c : Bool} (hK : X.K = W.K) (r : RepW W H b v x) (hv : truth v = some c) : TruV X.K x H c := by
  have emp : ∀ {ps : List PV} {xs : List V}, Reps W H b ps xs → (!ps.isEmpty) = !xs.isEmpty := fun r => by cases r <;> rfl
  have empK : ∀ {ps : List (KP × PV)} {xs : List (Key × V)}, RepK W H b ps xs → (!ps.isEmpty) = !xs.isEmpty := fun r => by cases r <;> rfl
  rcases r with r | ⟨a, rfl, _, r⟩
  · cases r with
    | non => simp [truth] at hv; exact hv.symm ▸ rfl
    | bl x => simp [truth] at hv; exact hv.symm
    | int i => simp [truth] at hv; exact hv.symm
    | str z =>
      simp only [truth] at hv
      split at hv
      · rename_i hz
        refine ⟨hz, ?_⟩
        cases hv
        cases z with
        | nil => rfl
        | cons _ _ => simp [Str.length]; omega
      · cases hv
    | tup h r =>
      simp only [truth, Option.some.injEq] at hv
      refine .inr (.inl ⟨_, ?_, hv.symm.trans (emp r)⟩)
      rcases h with ⟨_, e⟩ | h
      · exact e.sq _
      · exact hK ▸ h.sq
    | lst h r =>
      simp only [truth, Option.some.injEq] at hv
      exact .inl ⟨_, hK ▸ (LX.sq (h.imp (·.2) id)), hv.symm.trans (emp r)⟩
    | dct n r => simp [truth] at hv
    | kdc n r => simp [truth] at hv
    | fn i => simp [truth] at hv
    | cell e => simp [truth] at hv
  · cases v with
    | lst ps =>
      obtain ⟨xs, e, r⟩ := r
      simp only [truth, Option.some.injEq] at hv
      exact .inl ⟨_, SqL.of e, hv.symm.trans (emp r)⟩
    | dct ps => simp [truth] at hv
    | _ => exact r.elim
theorem st_truth {a : Expr} {d : Den} (hK : X.K = W.K) (ha : PE X a (tEw W g E d)) (he : ∀ whole, isTrue a X.env whole = (do let v ← whole; standAt a.pos; holding [v] (truthy v))) : PT X a (tEt W g E d) := by
  refine ptI (pt_truth ha he) ?_
  rintro σ H Q ⟨ρ, S, b, O, e, f⟩
  refine ⟨ρ, S, b, O, e, ?_⟩
  cases q : d ρ S with
  | ok v S' =>
    rw [q] at f
    intro H' b' dd x rx
    obtain ⟨c, h1, h2⟩ := f H' b' dd
    exact ⟨c, tru_of hK rx h1, h2⟩
  | exc c v S' => rw [q] at f; exact f
  | bad => rw [q] at f; exact f

section
variable {t a c : Expr} {dt da db : Den} {pos : Pos} {rest : List Expr}
theorem se_ite (ht : PT X t (tEt W g E dt)) (ha : PE X a (tEv W g E da)) (hb : PE X c (tEv W g E db)) : PE X (.IfExp t a c pos) (tEv W g E (dIte dt da db)) := by
  refine peI (pe_ifExp ht ha hb) ?_
  intro σ H Q h
  refine (tF.seq (k := fun ρ v S1 => tst v fun c => if c = true then da ρ S1 else db ρ S1) h).imp fun v S1 H1 b1 s1 ⟨ρ, O, e1, f⟩ => ?_
  unfold tst at f
  cases q : truth v with
  | none => rw [q] at f; exact f.elim
  | some k =>
    rw [q] at f
    refine ⟨k, rfl, ?_⟩
    cases k with
    | true => exact ⟨ρ, S1, b1, O, e1, f⟩
    | false => exact ⟨ρ, S1, b1, O, e1, f⟩
theorem se_one {op : BoolOp} (ha : PE X a (tEv W g E da)) : PE X (.BoolOp op [a] pos) (tEv W g E da) := pe_one ha
theorem se_and (ha : PE X a (tEv W g E da)) (hb : PE X (.BoolOp .And (c :: rest) pos) (tEv W g E db)) : PE X (.BoolOp .And (a :: c :: rest) pos) (tEv W g E (dAnd da db)) := by
  refine peI (pe_and ha hb) ?_
  intro σ H Q h
  refine (tF.seq (k := fun ρ v S1 => onBl v fun c => if c = true then db ρ S1 else .ok (.bl false) S1) h).imp fun v S1 H1 b1 s1 ⟨ρ, O, e1, f⟩ x rx => ?_
  cases v with
  | bl k =>
    cases rx
    refine ⟨k, rfl, ?_⟩
    cases k with
    | true => exact ⟨ρ, S1, b1, O, e1, f⟩
    | false => exact f H1 b1 (.refl s1) _ (.bl false)
  | _ => exact f.elim
theorem se_or (ha : PE X a (tEv W g E da)) (hb : PE X (.BoolOp .Or (c :: rest) pos) (tEv W g E db)) : PE X (.BoolOp .Or (a :: c :: rest) pos) (tEv W g E (dOr da db)) := by
  refine peI (pe_or ha hb) ?_
  intro σ H Q h
  refine (tF.seq (k := fun ρ v S1 => onBl v fun c => if c = true then .ok (.bl true) S1 else db ρ S1) h).imp fun v S1 H1 b1 s1 ⟨ρ, O, e1, f⟩ x rx => ?_
  cases v with
  | bl k =>
    cases rx
    refine ⟨k, rfl, ?_⟩
    cases k with
    | false => exact ⟨ρ, S1, b1, O, e1, f⟩
    | true => exact f H1 b1 (.refl s1) _ (.bl true)
  | _ => exact f.elim
theorem se_not (ha : PE X a (tEv W g E da)) : PE X (.UnaryOp .Not a pos) (tEv W g E (dNot da)) := by
  refine peI (pe_not ha) ?_
  intro σ H Q h
  refine (tF.seq (k := fun _ v S1 => onBl v fun c => .ok (.bl (!c)) S1) h).imp fun v S1 H1 b1 s1 ⟨ρ, O, e1, f⟩ x rx => ?_
  cases v with
  | bl k =>
    cases rx
    exact ⟨k, rfl, f H1 b1 (.refl s1) _ (.bl _)⟩
  | _ => exact f.elim
theorem st_and (ha : PT X a (tEt W g E da)) (hb : PW X (.BoolOp .And (c :: rest) pos) (tEt W g E db)) : PW X (.BoolOp .And (a :: c :: rest) pos) (tEt W g E (dAnd da db)) := by
  refine ⟨fun wh pins s σ H Q I h => (pw_and ha hb).run wh pins s σ H Q I ?_⟩
  refine (tF.seq (k := fun ρ v S1 => onBl v fun c => if c = true then db ρ S1 else .ok (.bl false) S1) h).imp fun v S1 H1 b1 s1 ⟨ρ, O, e1, f⟩ => ?_
  cases v with
  | bl k =>
    refine ⟨k, rfl, ?_⟩
    cases k with
    | true => exact ⟨ρ, S1, b1, O, e1, f⟩
    | false =>
      obtain ⟨c, h1, h2⟩ := f H1 b1 (.refl s1)
      cases h1
      exact h2
  | _ => exact f.elim
theorem st_or (ha : PT X a (tEt W g E da)) (hb : PW X (.BoolOp .Or (c :: rest) pos) (tEt W g E db)) : PW X (.BoolOp .Or (a :: c :: rest) pos) (tEt W g E (dOr da db)) := by
  refine ⟨fun wh pins s σ H Q I h => (pw_or ha hb).run wh pins s σ H Q I ?_⟩
  refine (tF.seq (k := fun ρ v S1 => onBl v fun c => if c = true then .ok (.bl true) S1 else db ρ S1) h).imp fun v S1 H1 b1 s1 ⟨ρ, O, e1, f⟩ => ?_
  cases v with
  | bl k =>
    refine ⟨k, rfl, ?_⟩
    cases k with
    | false => exact ⟨ρ, S1, b1, O, e1, f⟩
    | true =>
      obtain ⟨c, h1, h2⟩ := f H1 b1 (.refl s1)
      cases h1
      exact h2
  | _ => exact f.elim
theorem st_not (ha : PT X a (tEt W g E da)) : PT X (.UnaryOp .Not a pos) (tEt W g E (dNot da)) := by
  refine ptI (pt_not ha) ?_
  intro σ H Q h
  refine (tF.seq (k := fun _ v S1 => onBl v fun c => .ok (.bl (!c)) S1) h).imp fun v S1 H1 b1 s1 ⟨ρ, O, e1, f⟩ => ?_
  cases v with
  | bl k =>
    obtain ⟨c, h1, h2⟩ := f H1 b1 (.refl s1)
    cases h1
    exact ⟨k, rfl, h2⟩
  | _ => exact f.elim
end

/-! ### calls of defs -/
/-- what a def promises by its meaning -/
def spOf (W : Wd) (C : CallT) (i : Nat) : Sp := fun vs H Q E => ∃ (ps : List PV) (S : Store) (b : Bn), Reps W H b ps vs ∧ StoreOk W H b S ∧ (∀ a, b.no a → ∃ o, H a = some o) ∧
  fin W E (fun v _ H' b' => ∀ x, Rep W H' b' v x → Q x H') b H (C i ps S)
theorem se_call {C : CallT} {i k : Nat} {fd : FuncData} {ps : List Str} {x : Str} {p pos : Pos} {e : Expr} {es : List Expr} {dr : Den} (gd : X.A.guards = some []) (F : FnG X.prog X.w X.K X.mg X.base (CX X.prog X.w) k (W.fa i) fd ps (spOf W C i)) (hr : Room k X.A) (hg : Gl X x)
    (hm : X.mg x = some (.ref (W.fa i))) (hk : PySem.W.keepIn X.K (.ref (W.fa i)) = true) (hb : Binds X.K fd ps []) (hx : Passes (CX X.prog X.w) X E) (ha : PA X (e :: es) (tEa W g E dr)) (hdb : (x == ("__debug__" : Str)) = false)
    (he : starEach (e :: es) X.env = (false, eval e X.env) :: starEach es X.env := by rfl) (hpl : (backTo pos (starEach es X.env)).any (·.1) = false := by rfl) :
    PE X (.Call (.Name x p) (e :: es) [] pos) (tEv W g E (dCall C i dr)) := by
  refine peI (callG (E := E) gd F hr hg hm hk hb hx ha hdb he hpl) ?_
  intro σ H Q h
  refine (tF.seq (k := fun _ vs S1 => C i (asL vs) S1) h).imp fun v S1 H1 b1 s1 ⟨ρ, O, e1, f⟩ xs rs => ?_
  exact ⟨asL v, S1, b1, rs, s1, e1.tr, f⟩
theorem se_call0 {C : CallT} {i k : Nat} {fd : FuncData} {ps : List Str} {x : Str} {p pos : Pos} (gd : X.A.guards = some []) (F : FnG X.prog X.w X.K X.mg X.base (CX X.prog X.w) k (W.fa i) fd ps (spOf W C i)) (hr : Room k X.A) (hg : Gl X x)
    (hm : X.mg x = some (.ref (W.fa i))) (hk : PySem.W.keepIn X.K (.ref (W.fa i)) = true) (hb : Binds X.K fd ps []) (hx : Passes (CX X.prog X.w) X E) (hdb : (x == ("__debug__" : Str)) = false) :
    PE X (.Call (.Name x p) [] [] pos) (tEv W g E (dCall C i dNil)) := by
  refine peI (call0G (E := E) gd F hr hg hm hk hb hx hdb) ?_
  rintro σ H Q ⟨ρ, S, b, O, e, f⟩
  exact ⟨[], S, b, .nil, e.st, e.tr, f⟩
end
end Tg
end
section
set_option Elab.async false
set_option linter.all false
set_option autoImplicit false
set_option maxRecDepth 100000
namespace Tg
open PySem PySem.Spec PyProof.Rows L2

section
variable {W : Wd} {H : Hp} {b : Bn} {x : V}
theorem rw_int {i : Int} (r : RepW W H b (.int i) x) : x = .int i := by
  rcases r with r | ⟨a, _, _, r⟩
  · cases r; rfl
  · exact r.elim
theorem rw_bl {i : Bool} (r : RepW W H b (.bl i) x) : x = .bl i := by
  rcases r with r | ⟨a, _, _, r⟩
  · cases r; rfl
  · exact r.elim
theorem rw_non (r : RepW W H b .non x) : x = .non := by
  rcases r with r | ⟨a, _, _, r⟩
  · cases r; rfl
  · exact r.elim
theorem rw_str {s : List Nat} (r : RepW W H b (.str s) x) : x = .str ⟨s.toArray⟩ := by
  rcases r with r | ⟨a, _, _, r⟩
  · cases r; rfl
  · exact r.elim
theorem rw_fn {s : Nat} (r : RepW W H b (.fn s) x) : x = .ref (W.fa s) := by
  rcases r with r | ⟨a, _, _, r⟩
  · cases r; rfl
  · exact r.elim
theorem lst_lx {a : Addr} {xs : List V} (h : (¬ b.no a ∧ Rd H a (.lst xs)) ∨ KLst W.K a xs) : LX W.K H a xs := h.imp (·.2) id
theorem lst_sq {a : Addr} {xs : List V} (h : (¬ b.no a ∧ Rd H a (.lst xs)) ∨ KLst W.K a xs) : SqL W.K H a xs := (lst_lx h).sq
theorem rw_lx {ps : List PV} (r : RepW W H b (.lst ps) x) : ∃ a xs, x = .ref a ∧ LX W.K H a xs ∧ Reps W H b ps xs := by
  rcases r with r | ⟨a, rfl, _, xs, e, r⟩
  · cases r with
    | lst e r => exact ⟨_, _, rfl, lst_lx e, r⟩
  · exact ⟨a, xs, rfl, .inl (.inl e), r⟩
theorem rw_lst {ps : List PV} (r : RepW W H b (.lst ps) x) : ∃ a xs, x = .ref a ∧ SqL W.K H a xs ∧ Reps W H b ps xs := by
  obtain ⟨a, xs, e, h, r⟩ := rw_lx r
  exact ⟨a, xs, e, h.sq, r⟩
theorem rw_dct {ps : List (KP × PV)} (r : RepW W H b (.dct ps) x) : ∃ a xs, x = .ref a ∧ (Rd H a (.dK xs) ∨ KDic W a xs) ∧ RepK W H b ps xs := by
  rcases r with r | ⟨a, rfl, _, xs, e, r⟩
  · cases r with
    | dct n r => exact ⟨_, _, rfl, .inl n.2, r⟩
  · exact ⟨a, xs, rfl, .inl (.inl e), r⟩
theorem rw_kdc {ps : List (KP × PV)} (r : RepW W H b (.kdc ps) x) : ∃ a xs, x = .ref a ∧ (Rd H a (.dK xs) ∨ KDic W a xs) ∧ RepK W H b ps xs := by
  rcases r with r | ⟨a, rfl, _, r⟩
  · cases r with
    | kdc n r => exact ⟨_, _, rfl, .inr n, r⟩
  · exact r.elim
theorem rw_tup {ps : List PV} (r : RepW W H b (.tup ps) x) : ∃ a xs, x = .ref a ∧ SqT W.K H a xs ∧ Reps W H b ps xs ∧ Rep W H b (.tup ps) (.ref a) := by
  rcases r with r | ⟨a, rfl, _, r⟩
  · cases id r with
    | tup h r' =>
      refine ⟨_, _, rfl, ?_, r', r⟩
      rcases h with ⟨_, e⟩ | h
      · exact e.sq _
      · exact h.sq
  · exact r.elim
theorem isz_some {n : Nat} {v w : PV} (h : isz n v = some w) : n ≤ sizeLine ∧ w = v := by
  unfold isz at h
  split at h
  · rename_i q; cases h; exact ⟨q, rfl⟩
  · cases h
theorem sL {s t : List Nat} : (⟨s.toArray⟩ : Str) ++ ⟨t.toArray⟩ = ⟨(s ++ t).toArray⟩ := by
  show Str.append _ _ = _
  simp [Str.append]
theorem lenL (s : List Nat) : (⟨s.toArray⟩ : Str).length = s.length := by simp [Str.length]
theorem tlL (s : List Nat) : (⟨s.toArray⟩ : Str).cps.toList = s := by simp
theorem strL {s t : List Nat} : (⟨s.toArray⟩ : Str) = ⟨t.toArray⟩ ↔ s = t := by
  constructor
  · intro h
    have := congrArg (fun z : Str => z.cps.toList) h
    simpa using this
  · rintro rfl; rfl
theorem Reps.app {ps qs : List PV} {xs ys : List V} : Reps W H b ps xs → Reps W H b qs ys → Reps W H b (ps ++ qs) (xs ++ ys)
  | .nil, s => s
  | .cons r t, s => .cons r (Reps.app t s)
end

section
variable {X : Cx} {W : Wd}
def r_add (K : PySem.W.Frag) : R2 := fun x y H Q => rI0 (fun i j => .int (i + j)) x y H Q ∨ ((∃ i j, x = .str i ∧ y = .str j ∧ i.length + j.length ≤ sizeLine ∧ Q (.str (i ++ j)) H) ∨ (rCatF K x y H Q ∨ rCatL K x y H Q))
theorem o_add (hK : X.K = W.K) : OpR X (binaryOp .Add) (r_add W.K) := hK ▸ OpR.or op_add (OpR.or op_add_str (OpR.or op_catF op_catL))
theorem f_add : Op2 W (RW W) (RW W) vAdd (r_add W.K) := by
  intro v u w x y H b Q hf rv ru hw k
  unfold vAdd at hw
  split at hw
  · cases rw_int rv; cases rw_int ru; cases hw
    exact .inl ⟨_, _, rfl, rfl, k _ H (fun _ _ e => e) (.int _)⟩
  · cases rw_str rv; cases rw_str ru
    obtain ⟨h1, rfl⟩ := isz_some hw
    refine .inr (.inl ⟨_, _, rfl, rfl, by simpa [lenL] using h1, ?_⟩)
    rw [sL]
    exact k _ H (fun _ _ e => e) (.str _)
  · obtain ⟨a, xs, rfl, e1, r1⟩ := rw_lx rv
    obtain ⟨c, ys, rfl, e2, r2⟩ := rw_lx ru
    obtain ⟨h1, rfl⟩ := isz_some hw
    refine .inr (.inr (.inr ⟨_, _, xs, ys, rfl, rfl, ⟨e1, e2⟩, by rw [← r1.length, ← r2.length]; exact h1, fun p hp => ?_⟩))
    exact k _ _ (same_upd hp) (.lst (.inl ⟨hf p hp, .inl upd_same⟩) ((r1.app r2).grow (same_upd hp)))
  · rename_i ps qs
    obtain ⟨a, xs, rfl, e1, r1, rr⟩ := rw_tup rv
    obtain ⟨c, ys, rfl, e2, r2, rr2⟩ := rw_tup ru
    obtain ⟨h1, rfl⟩ := isz_some hw
    have n1 := r1.length
    have n2 := r2.length
    refine .inr (.inr (.inl ⟨_, _, xs, ys, rfl, rfl, ⟨e1, e2⟩, by rw [← n1, ← n2]; exact h1, ?_, ?_, ?_⟩))
    · rintro rfl
      cases r1
      exact k _ H (fun _ _ e => e) rr2
    · rintro _ rfl
      cases r2
      rw [List.append_nil] at k
      exact k _ H (fun _ _ e => e) rr
    · intro _ _ p o hp ho
      exact k _ _ (same_upd hp) (.tup (.inl ⟨hf p hp, o, upd_same, ho⟩) ((r1.app r2).grow (same_upd hp)))
  · cases hw
theorem f_sub : Op2 W (RW W) (RW W) vSub (rI0 fun i j => .int (i - j)) := by
  intro v u w x y H b Q hf rv ru hw k
  unfold vSub at hw
  split at hw
  · cases rw_int rv; cases rw_int ru; cases hw
    exact ⟨_, _, rfl, rfl, k _ H (fun _ _ e => e) (.int _)⟩
  · cases hw
def r_mul : R2 := fun x y H Q => rI CMul (fun i j => .int (i * j)) x y H Q ∨ rI CMulW (fun i j => .int (i * j)) x y H Q
theorem o_mul : OpR X (binaryOp .Mult) r_mul := OpR.or op_mul op_mulW
theorem f_mul : Op2 W (RW W) (RW W) vMul r_mul := by
  intro v u w x y H b Q hf rv ru hw k
  unfold vMul at hw
  split at hw
  · rename_i i j
    cases rw_int rv; cases rw_int ru
    split at hw
    · rename_i h
      cases hw
      have q := k (.int (i * j)) H (fun _ _ e => e) (.int _)
      unfold mulOk small at h
      simp only [Bool.or_eq_true, Bool.and_eq_true, decide_eq_true_eq] at h
      rcases h with h | h | h
      · exact .inl ⟨_, _, rfl, rfl, .inl h, q⟩
      · exact .inl ⟨_, _, rfl, rfl, .inr h, q⟩
      · exact .inr ⟨_, _, rfl, rfl, h, q⟩
    · cases hw
  · cases hw
theorem f_div : Op2 W (RW W) (RW W) vDiv (rI CDivW fun i j => .int (i / j)) := by
  intro v u w x y H b Q hf rv ru hw k
  unfold vDiv at hw
  split at hw
  · cases rw_int rv; cases rw_int ru
    split at hw
    · rename_i h
      cases hw
      exact ⟨_, _, rfl, rfl, h, k _ H (fun _ _ e => e) (.int _)⟩
    · cases hw
  · cases hw
theorem f_mod : Op2 W (RW W) (RW W) vMod (rI (fun _ j => 0 < j) fun i j => .int (i % j)) := by
  intro v u w x y H b Q hf rv ru hw k
  unfold vMod at hw
  split at hw
  · cases rw_int rv; cases rw_int ru
    split at hw
    · rename_i h
      cases hw
      exact ⟨_, _, rfl, rfl, h, k _ H (fun _ _ e => e) (.int _)⟩
    · cases hw
  · cases hw
theorem f_pow : Op2 W (RW W) (RW W) vPow (rI CPow fun i j => .int (i ^ j.toNat)) := by
  intro v u w x y H b Q hf rv ru hw k
  unfold vPow at hw
  split at hw
  · cases rw_int rv; cases rw_int ru
    split at hw
    · rename_i h
      cases hw
      exact ⟨_, _, rfl, rfl, h, k _ H (fun _ _ e => e) (.int _)⟩
    · cases hw
  · cases hw

/-! ### == and != -/
mutual
theorem dp_of {H : Hp} {b : Bn} : ∀ {p : PV} {x : V} {d : PyData}, Rep W H b p x → toD p = some d → Dp W.K H x d
  | _, _, _, .non, e => by cases e; exact .non
  | _, _, _, .bl x, e => by cases e; exact .bl x
  | _, _, _, .int i, e => by cases e; exact .int i
  | _, _, _, .str s, e => by cases e; exact .str _
  | .tup ps, _, d, .tup h r, e => by
    unfold toD at e
    cases q : toDs ps with
    | none => rw [q] at e; cases e
    | some ds =>
      rw [q] at e; cases e
      refine .tup ?_ (dps_of r q)
      rcases h with ⟨_, h⟩ | h
      · exact h.sq _
      · exact h.sq
  | .lst ps, _, d, .lst h r, e => by
    unfold toD at e
    cases q : toDs ps with
    | none => rw [q] at e; cases e
    | some ds =>
      rw [q] at e; cases e
      exact .lst (lst_sq h) (dps_of r q)
  | _, _, _, .dct h r, e => by cases e
  | _, _, _, .kdc h r, e => by cases e
  | _, _, _, .fn i, e => by cases e
  | _, _, _, .cell h, e => by cases e
theorem dps_of {H : Hp} {b : Bn} : ∀ {ps : List PV} {xs : List V} {ds : List PyData}, Reps W H b ps xs → toDs ps = some ds → DpAll W.K H xs ds
  | _, _, _, .nil, e => by cases e; exact .nil
  | p :: ps, _, _, .cons r t, e => by
    unfold toDs at e
    cases q : toD p with
    | none => rw [q] at e; cases e
    | some d =>
      cases q2 : toDs ps with
      | none => rw [q, q2] at e; cases e
      | some ds =>
        rw [q, q2] at e; cases e
        exact .cons (dp_of r q) (dps_of t q2)
end
theorem dpw_of {H : Hp} {b : Bn} {p : PV} {x : V} {d : PyData} (r : RepW W H b p x) (e : toD p = some d) : Dp W.K H x d := by
  rcases r with r | ⟨a, rfl, _, r⟩
  · exact dp_of r e
  · cases p with
    | lst ps =>
      obtain ⟨xs, h, r⟩ := r
      unfold toD at e
      cases q : toDs ps with
      | none => rw [q] at e; cases e
      | some ds =>
        rw [q] at e; cases e
        exact .lst (SqL.of h) (dps_of r q)
    | dct ps => cases e
    | _ => exact r.elim
def r_eq (K : PySem.W.Frag) : R2 := fun x y H Q => rEq x y H Q ∨ rEqD K x y H Q
def r_ne (K : PySem.W.Frag) : R2 := fun x y H Q => rNe x y H Q ∨ rNeD K x y H Q
theorem o_eq (hK : X.K = W.K) (hu : X.A.units + 64 < cLine) : OpR X (compareOp .Eq) (r_eq W.K) := hK ▸ OpR.or op_eq (op_eqD hu)
theorem o_ne (hK : X.K = W.K) (hu : X.A.units + 64 < cLine) : OpR X (compareOp .NotEq) (r_ne W.K) := hK ▸ OpR.or op_ne (op_neD hu)
theorem eqB_of {v u : PV} {x y : V} {H : Hp} {b : Bn} {c : Bool} (rv : RepW W H b v x) (ru : RepW W H b u y) (h : eqB v u = some c) :
    (scal x y = true ∧ decide (x = y) = c) ∨ ∃ d e, Dp W.K H x d ∧ Dp W.K H y e ∧ SeqAt.shaped d = true ∧ SeqAt.shaped e = true ∧ PyData.eqv d e = c := by
  have gen : vEqD v u = some c → ∃ d e, Dp W.K H x d ∧ Dp W.K H y e ∧ SeqAt.shaped d = true ∧ SeqAt.shaped e = true ∧ PyData.eqv d e = c := by
    intro h
    unfold vEqD at h
    cases q1 : toD v with
    | none => rw [q1] at h; cases h
    | some d =>
      cases q2 : toD u with
      | none => rw [q1, q2] at h; cases h
      | some e =>
        rw [q1, q2] at h
        simp only at h
        split at h
        · rename_i hs
          simp only [Bool.and_eq_true] at hs
          cases h
          exact ⟨d, e, dpw_of rv q1, dpw_of ru q2, hs.1, hs.2, rfl⟩
        · cases h
  unfold eqB at h
  split at h
  · rename_i s t
    cases rw_str rv; cases rw_str ru; cases h
    refine .inl ⟨rfl, ?_⟩
    by_cases q : s = t
    · subst q; simp
    · have : ¬ (V.str ⟨s.toArray⟩ = V.str ⟨t.toArray⟩) := fun z => q (strL.mp (V.str.inj z))
      rw [decide_eq_false this, decide_eq_false q]
  · rename_i s t
    cases rw_int rv; cases rw_int ru; cases h
    refine .inl ⟨rfl, ?_⟩
    by_cases q : s = t
    · subst q; simp
    · have : ¬ (V.int s = V.int t) := fun z => q (V.int.inj z)
      rw [decide_eq_false this, decide_eq_false q]
  · rename_i s t
    cases rw_bl rv; cases rw_bl ru; cases h
    refine .inl ⟨rfl, ?_⟩
    by_cases q : s = t
    · subst q; simp
    · have : ¬ (V.bl s = V.bl t) := fun z => q (V.bl.inj z)
      rw [decide_eq_false this, decide_eq_false q]
  · cases rw_non rv; cases rw_non ru; cases h
    exact .inl ⟨rfl, rfl⟩
  · exact .inr (gen h)
theorem f_eq : Op2 W (RW W) (RW W) vEq (r_eq W.K) := by
  intro v u w x y H b Q hf rv ru hw k
  unfold vEq at hw
  cases q : eqB v u with
  | none => rw [q] at hw; cases hw
  | some c =>
    rw [q] at hw; cases hw
    have kk := k (.bl c) H (fun _ _ e => e) (.bl c)
    rcases eqB_of rv ru q with ⟨h1, h2⟩ | ⟨d, e, h1, h2, h3, h4, h5⟩
    · exact .inl ⟨h1, by rw [h2]; exact kk⟩
    · exact .inr ⟨d, e, h1, h2, h3, h4, by rw [h5]; exact kk⟩
theorem f_ne : Op2 W (RW W) (RW W) vNe (r_ne W.K) := by
  intro v u w x y H b Q hf rv ru hw k
  unfold vNe at hw
  cases q : eqB v u with
  | none => rw [q] at hw; cases hw
  | some c =>
    rw [q] at hw; cases hw
    have kk := k (.bl (!c)) H (fun _ _ e => e) (.bl _)
    rcases eqB_of rv ru q with ⟨h1, h2⟩ | ⟨d, e, h1, h2, h3, h4, h5⟩
    · exact .inl ⟨h1, by rw [h2]; exact kk⟩
    · exact .inr ⟨d, e, h1, h2, h3, h4, by rw [h5]; exact kk⟩
theorem blf_eq : BlF vEq := fun v u w h => by
  unfold vEq at h
  cases q : eqB v u with
  | none => rw [q] at h; cases h
  | some c => rw [q] at h; cases h; exact ⟨c, rfl⟩
theorem blf_ne : BlF vNe := fun v u w h => by
  unfold vNe at h
  cases q : eqB v u with
  | none => rw [q] at h; cases h
  | some c => rw [q] at h; cases h; exact ⟨_, rfl⟩

/-! ### < and the like -/
theorem asInts_of {H : Hp} {b : Bn} : ∀ {ps : List PV} {xs : List V} {ns : List Int}, Reps W H b ps xs → asInts ps = some ns → xs = ns.map V.int
  | _, _, _, .nil, e => by cases e; rfl
  | .int i :: ps, _, _, .cons r t, e => by
    unfold asInts at e
    cases q : asInts ps with
    | none => rw [q] at e; cases e
    | some ns =>
      rw [q] at e; cases e
      cases r
      rw [asInts_of t q]; rfl
  | .non :: ps, _, _, .cons r t, e => by cases e
  | .bl _ :: ps, _, _, .cons r t, e => by cases e
  | .str _ :: ps, _, _, .cons r t, e => by cases e
  | .tup _ :: ps, _, _, .cons r t, e => by cases e
  | .lst _ :: ps, _, _, .cons r t, e => by cases e
  | .dct _ :: ps, _, _, .cons r t, e => by cases e
  | .kdc _ :: ps, _, _, .cons r t, e => by cases e
  | .fn _ :: ps, _, _, .cons r t, e => by cases e
  | .cell _ :: ps, _, _, .cons r t, e => by cases e
theorem lexB_eq : ∀ (a c : List Int), lexB a c = HT.lexLt a c
  | [], [] => rfl
  | [], _ :: _ => rfl
  | _ :: _, [] => rfl
  | x :: xs, y :: ys => by
    rw [HT.lexLt_cons, ← lexB_eq xs ys]; rfl
def rLtD (K : PySem.W.Frag) : R2 := fun x y H Q => ∃ d e, Dp K H x d ∧ Dp K H y e ∧ PySem.W.alike d e = true ∧ d ≠ .none ∧ d.depth < 60 ∧ Q (.bl (PySem.W.dataLt d e)) H
theorem op_ltD (hu : X.A.units + 64 < cLine) : OpR X (compareOp .Lt) (rLtD X.K) := by
  intro pins s σ H x y v u Q I rx ry h
  obtain ⟨d, e, hd, he, ha, hn, hdp, q⟩ := h
  obtain ⟨as, r1⟩ := Dp.reads I d x v hd rx
  obtain ⟨bs, r2⟩ := Dp.reads I e y u he ry
  exact PySem.W.rcLt_alike d e X.A s v u as bs r1 r2 ha hn (by have := Nat.min_le_left d.depth e.depth; omega) X.prog X.w X.xe _ ⟨.bl _, H, I, rfl, q⟩
def r_lt (K : PySem.W.Frag) : R2 := fun x y H Q => rI0 (fun i j => .bl (decide (i < j))) x y H Q ∨ ((∃ i j, x = .str i ∧ y = .str j ∧ Q (.bl (decide (i.cps.toList < j.cps.toList))) H) ∨ (rLtT K x y H Q ∨ rLtD K x y H Q))
theorem o_lt (hK : X.K = W.K) (hu : X.A.units + 64 < cLine) : OpR X (compareOp .Lt) (r_lt W.K) := hK ▸ OpR.or op_lt (OpR.or op_lt_str (OpR.or (op_ltT (by omega)) (op_ltD hu)))
theorem ltD_of {v u : PV} {x y : V} {H : Hp} {b : Bn} {c : Bool} {Q : VK} (rv : RepW W H b v x) (ru : RepW W H b u y) (h : ltD v u = some c) (kk : Q (.bl c) H) : rLtD W.K x y H Q := by
  unfold ltD at h
  cases q1 : toD v with
  | none => rw [q1] at h; cases h
  | some d =>
    cases q2 : toD u with
    | none => rw [q1, q2] at h; cases h
    | some e =>
      rw [q1, q2] at h
      simp only at h
      split at h
      · rename_i hs
        simp only [Bool.and_eq_true, decide_eq_true_eq] at hs
        cases h
        refine ⟨d, e, dpw_of rv q1, dpw_of ru q2, hs.1, ?_, hs.2.2, kk⟩
        rintro rfl
        exact absurd hs.2.1 (by decide)
      · cases h
theorem f_lt : Op2 W (RW W) (RW W) vLt (r_lt W.K) := by
  intro v u w x y H b Q hf rv ru hw k
  unfold vLt at hw
  cases q : ltB v u with
  | none => rw [q] at hw; cases hw
  | some c =>
    rw [q] at hw; cases hw
    have kk := k (.bl c) H (fun _ _ e => e) (.bl c)
    unfold ltB at q
    split at q
    · cases rw_int rv; cases rw_int ru; cases q
      exact .inl ⟨_, _, rfl, rfl, kk⟩
    · cases rw_str rv; cases rw_str ru; cases q
      exact .inr (.inl ⟨_, _, rfl, rfl, kk⟩)
    · split at q
      · rename_i ns ms h1 h2
        obtain ⟨a, xs, rfl, e1, r1, _⟩ := rw_tup rv
        obtain ⟨c, ys, rfl, e2, r2, _⟩ := rw_tup ru
        cases q
        rw [lexB_eq] at kk
        exact .inr (.inr (.inl ⟨_, _, ns, ms, rfl, rfl, by rw [← asInts_of r1 h1]; exact e1, by rw [← asInts_of r2 h2]; exact e2, kk⟩))
      · exact .inr (.inr (.inr (ltD_of rv ru q kk)))
    · exact .inr (.inr (.inr (ltD_of rv ru q kk)))
theorem blf_lt : BlF vLt := fun v u w h => by
  unfold vLt at h
  cases q : ltB v u with
  | none => rw [q] at h; cases h
  | some c => rw [q] at h; cases h; exact ⟨_, rfl⟩
theorem f_le : Op2 W (RW W) (RW W) vLe (rI0 fun i j => .bl (decide (i ≤ j))) := by
  intro v u w x y H b Q hf rv ru hw k
  unfold vLe at hw
  split at hw
  · cases rw_int rv; cases rw_int ru; cases hw
    exact ⟨_, _, rfl, rfl, k _ H (fun _ _ e => e) (.bl _)⟩
  · cases hw
theorem f_gt : Op2 W (RW W) (RW W) vGt (rI0 fun i j => .bl (decide (j < i))) := by
  intro v u w x y H b Q hf rv ru hw k
  unfold vGt at hw
  split at hw
  · cases rw_int rv; cases rw_int ru; cases hw
    exact ⟨_, _, rfl, rfl, k _ H (fun _ _ e => e) (.bl _)⟩
  · cases hw
theorem f_ge : Op2 W (RW W) (RW W) vGe (rI0 fun i j => .bl (decide (j ≤ i))) := by
  intro v u w x y H b Q hf rv ru hw k
  unfold vGe at hw
  split at hw
  · cases rw_int rv; cases rw_int ru; cases hw
    exact ⟨_, _, rfl, rfl, k _ H (fun _ _ e => e) (.bl _)⟩
  · cases hw
theorem blf_le : BlF vLe := fun v u w h => by
  unfold vLe at h
  split at h
  · cases h; exact ⟨_, rfl⟩
  · cases h
theorem blf_gt : BlF vGt := fun v u w h => by
  unfold vGt at h
  split at h
  · cases h; exact ⟨_, rfl⟩
  · cases h
theorem blf_ge : BlF vGe := fun v u w h => by
  unfold vGe at h
  split at h
  · cases h; exact ⟨_, rfl⟩
  · cases h

/-! ### is None -/
theorem non_of {H : Hp} {b : Bn} {v : PV} {x : V} (r : RepW W H b v x) : decide (x = .non) = isNonP v := by
  rcases r with r | ⟨a, rfl, _, r⟩
  · cases r <;> simp [isNonP]
  · cases v with
    | lst _ => simp [isNonP]
    | dct _ => simp [isNonP]
    | _ => exact r.elim
theorem vIs_eq {v u w : PV} (h : vIs v u = some w) : u = .non ∧ w = .bl (isNonP v) := by
  unfold vIs at h
  split at h
  · cases h; exact ⟨rfl, rfl⟩
  · rename_i z
    cases h
    refine ⟨rfl, ?_⟩
    cases v <;> first | rfl | exact absurd rfl z
  · cases h
theorem vIsN_eq {v u w : PV} (h : vIsN v u = some w) : u = .non ∧ w = .bl (!isNonP v) := by
  unfold vIsN at h
  split at h
  · cases h; exact ⟨rfl, rfl⟩
  · rename_i z
    cases h
    refine ⟨rfl, ?_⟩
    cases v <;> first | rfl | exact absurd rfl z
  · cases h
theorem f_is : Op2 W (RW W) (RW W) vIs (fun x y H Q => y = .non ∧ Q (.bl (decide (x = .non))) H) := by
  intro v u w x y H b Q hf rv ru hw k
  obtain ⟨rfl, rfl⟩ := vIs_eq hw
  refine ⟨rw_non ru, ?_⟩
  rw [non_of rv]
  exact k _ H (fun _ _ e => e) (.bl _)
theorem f_isN : Op2 W (RW W) (RW W) vIsN (fun x y H Q => y = .non ∧ Q (.bl (!decide (x = .non))) H) := by
  intro v u w x y H b Q hf rv ru hw k
  obtain ⟨rfl, rfl⟩ := vIsN_eq hw
  refine ⟨rw_non ru, ?_⟩
  rw [non_of rv]
  exact k _ H (fun _ _ e => e) (.bl _)
theorem blf_is : BlF vIs := fun v u w h => ⟨_, (vIs_eq h).2⟩
theorem blf_isN : BlF vIsN := fun v u w h => ⟨_, (vIsN_eq h).2⟩

/-! ### in -/
theorem flat_of {H : Hp} {b : Bn} {v : PV} {x : V} (r : Rep W H b v x) (h : flatP v = true) : flatV x = true := by
  cases r <;> first | rfl | cases h
theorem flats_of {H : Hp} {b : Bn} : ∀ {ps : List PV} {xs : List V}, Reps W H b ps xs → ps.all flatP = true → xs.all flatV = true
  | _, _, .nil, _ => rfl
  | _, _, .cons r t, h => by
    simp only [List.all_cons, Bool.and_eq_true] at h ⊢
    exact ⟨flat_of r h.1, flats_of t h.2⟩
theorem eqP_of {H : Hp} {b : Bn} {v u : PV} {x y : V} (rv : Rep W H b v x) (ru : Rep W H b u y) (hv : flatP v = true) (hu : flatP u = true) : eqV x y = eqP v u := by
  cases rv <;> first | (cases hv; done) | skip
  all_goals (cases ru <;> first | (cases hu; done) | rfl | skip)
  rename_i s t
  show ((⟨s.toArray⟩ : Str) == ⟨t.toArray⟩) = decide (s = t)
  by_cases q : s = t
  · subst q; simp
  · rw [decide_eq_false q]
    exact beq_eq_false_iff_ne.mpr fun z => q (strL.mp z)
theorem any_of {H : Hp} {b : Bn} {v : PV} {x : V} (rv : Rep W H b v x) (hv : flatP v = true) : ∀ {ps : List PV} {xs : List V}, Reps W H b ps xs → ps.all flatP = true → inV x xs = ps.any fun y => eqP y v
  | _, _, .nil, _ => rfl
  | _, _, .cons r t, h => by
    simp only [List.all_cons, Bool.and_eq_true] at h
    have := any_of rv hv t h.2
    unfold inV at this ⊢
    rw [List.any_cons, List.any_cons, this, eqP_of r rv h.1 hv]
/-- a dict that may be read: tracked, or of the top -/
def DRd (W : Wd) (H : Hp) (a : Addr) (kvs : List (Key × V)) : Prop := Rd H a (.dK kvs) ∨ KDic W a kvs
theorem kK_inj {a b : KP} : (kK a = kK b) ↔ a = b := by
  constructor
  · intro h
    cases a <;> cases b
    · rw [Sum.inl.inj h]
    · cases h
    · cases h
    · rw [strL.mp (Sum.inr.inj h)]
  · rintro rfl; rfl
theorem drd_at {pins : List (Addr × Obj)} {σ : L2.St} {H : Hp} {s : Shared} {a : Addr} {kvs : List (Key × V)} (hP : X.prog = W.P) (hw : X.w = W.w) (hK : X.K = W.K) (I : Inv X pins σ H s) (h : DRd W H a kvs) :
    kvs.length ≤ sizeLine ∧ (a == sysModules) = false ∧ ∃ vs, KV kvs vs ∧ s.heap.DictOf (mixKind X.prog X.w) a vs := by
  rcases h with h | ⟨_, h1, h2, vs, h3, h4⟩
  · obtain ⟨z, hd, vs, rel, dd⟩ := dk_rd I.hok h
    exact ⟨z, hd, vs, rel, dd⟩
  · exact ⟨h2, h1, vs, h3, by rw [hP, hw]; exact h4 _ (hK ▸ I.kIn)⟩
def rInDc (W : Wd) (neg : Bool) : R2 := fun x y H Q => ∃ a kvs k, y = .ref a ∧ x = kV k ∧ DRd W H a kvs ∧ Q (.bl (if neg then !(valV kvs k).isSome else (valV kvs k).isSome)) H
theorem op_inDc (hP : X.prog = W.P) (hw : X.w = W.w) (hK : X.K = W.K) : OpR X (compareOp .In) (rInDc W false) := by
  intro pins s σ H x y v u Q I rx ry h
  obtain ⟨a, kvs, k, rfl, rfl, hd, q⟩ := h
  cases (show u = Value.ref a from ry)
  obtain ⟨z, h1, vs, rel, dd⟩ := drd_at hP hw hK I hd
  refine wpAny_in_of (kV_is rx) h1 dd.mapOf ?_
  rw [← (rel.val k).isSome_eq]
  exact ⟨.bl _, _, I.tok _, rfl, q⟩
theorem op_notInDc (hP : X.prog = W.P) (hw : X.w = W.w) (hK : X.K = W.K) : OpR X (compareOp .NotIn) (rInDc W true) := by
  intro pins s σ H x y v u Q I rx ry h
  obtain ⟨a, kvs, k, rfl, rfl, hd, q⟩ := h
  cases (show u = Value.ref a from ry)
  obtain ⟨z, h1, vs, rel, dd⟩ := drd_at hP hw hK I hd
  refine wpAny_notIn_of (kV_is rx) h1 dd.mapOf ?_
  rw [← (rel.val k).isSome_eq]
  exact ⟨.bl _, _, I.tok _, rfl, q⟩
def r_in0 (W : Wd) (neg : Bool) : R2 := fun x y H Q => (∃ (c : Nat) (z : Str), x = .str ⟨#[c]⟩ ∧ y = .str z ∧ Q (.bl (if neg then !decide (c ∈ z.cps.toList) else decide (c ∈ z.cps.toList))) H) ∨ (rIn W.K neg x y H Q ∨ ((if neg then rNotInD W.K x y H Q else rInD W.K x y H Q) ∨ rInDc W neg x y H Q))
/-- among a tuple's data -/
def rInT (K : PySem.W.Frag) (neg : Bool) : R2 := fun x y H Q => ∃ d ds, Dp K H x d ∧ Dp K H y (.tuple ds) ∧ SeqAt.shaped d = true ∧ SeqAt.shaped (.list ds) = true ∧ Q (.bl (if neg then !(ds.any fun z => PyData.eqv z d) else ds.any fun z => PyData.eqv z d)) H
def r_in (W : Wd) (neg : Bool) : R2 := fun x y H Q => r_in0 W neg x y H Q ∨ rInT W.K neg x y H Q
theorem op_inT (hu : X.A.units + 65 < cLine) : OpR X (compareOp .In) (rInT X.K false) := by
  rintro pins s σ H x y v u Q I rx ry ⟨d, ds, hd, he, sd, se, q⟩
  obtain ⟨bs, r2⟩ := Dp.reads I (.tuple ds) y u he ry
  obtain ⟨as, r1⟩ := Dp.reads I d x v hd rx
  refine SeqAt.in_tuple_reads r2 r1 (SeqAt.canLay_of_shaped se) (SeqAt.canLay_of_shaped sd) (room_in_shaped sd hu) ?_
  exact ⟨.bl _, H, I, rfl, q⟩
theorem op_notInT (hu : X.A.units + 65 < cLine) : OpR X (compareOp .NotIn) (rInT X.K true) := by
  rintro pins s σ H x y v u Q I rx ry ⟨d, ds, hd, he, sd, se, q⟩
  obtain ⟨bs, r2⟩ := Dp.reads I (.tuple ds) y u he ry
  obtain ⟨as, r1⟩ := Dp.reads I d x v hd rx
  refine SeqAt.notIn_tuple_reads r2 r1 (SeqAt.canLay_of_shaped se) (SeqAt.canLay_of_shaped sd) (room_in_shaped sd hu) ?_
  exact ⟨.bl _, H, I, rfl, q⟩
theorem o_in (hP : X.prog = W.P) (hw : X.w = W.w) (hK : X.K = W.K) (hu : X.A.units + 65 < cLine) : OpR X (compareOp .In) (r_in W false) := by
  unfold r_in r_in0
  rw [← hK]
  exact OpR.or (OpR.or op_in_sign (OpR.or op_in_seq (OpR.or (op_inD hu) (op_inDc hP hw hK)))) (op_inT hu)
theorem o_notIn (hP : X.prog = W.P) (hw : X.w = W.w) (hK : X.K = W.K) (hu : X.A.units + 65 < cLine) : OpR X (compareOp .NotIn) (r_in W true) := by
  unfold r_in r_in0
  rw [← hK]
  exact OpR.or (OpR.or op_notIn_sign (OpR.or op_notIn_seq (OpR.or (op_notInD hu) (op_notInDc hP hw hK)))) (op_notInT hu)
theorem val_of {H : Hp} {b : Bn} (k : KP) : ∀ {ps : List (KP × PV)} {xs : List (Key × V)}, RepK W H b ps xs → (valV xs (kK k)).isSome = ps.any fun kv => decide (kv.1 = k)
  | _, _, .nil => rfl
  | _, _, .cons (k := j) r t => by
    rw [← valV_any, List.any_cons, List.any_cons, valV_any, val_of k t]
    congr 1
    by_cases q : j = k
    · subst q; simp
    · rw [decide_eq_false q]
      exact decide_eq_false fun z => q (kK_inj.mp z)
def vInN (neg : Bool) (a c : PV) : Option PV := (inB a c).map fun k => .bl (if neg then !k else k)
theorem vIn_eq : vIn = vInN false := by funext a c; rfl
theorem vNotIn_eq : vNotIn = vInN true := by funext a c; rfl
theorem f_in (neg : Bool) : Op2 W (RW W) (RW W) (vInN neg) (r_in W neg) := by
  intro v u w x y H b Q hf rv ru hw k
  unfold vInN at hw
  cases q : inB v u with
  | none => rw [q] at hw; cases hw
  | some c =>
    rw [q] at hw
    have ew : w = .bl (if neg then !c else c) := (Option.some.inj hw).symm
    subst ew
    have kk := k _ H (fun _ _ e => e) (.bl _)
    have flat : ∀ (ps : List PV) (a : Addr) (xs : List V), (SqL W.K H a xs ∨ SqT W.K H a xs) → y = .ref a → Reps W H b ps xs → flatIn v ps = true → c = inF v ps → r_in0 W neg x y H Q := by
      intro ps a xs hs ey r hfl hc
      unfold flatIn at hfl
      simp only [Bool.and_eq_true] at hfl
      have rv' : Rep W H b v x := by
        rcases rv with rv | ⟨a', _, _, rv⟩
        · exact rv
        · cases v <;> first | exact rv.elim | (cases hfl.1)
      refine .inr (.inl ⟨a, xs, ey, hs, flat_of rv' hfl.1, flats_of r hfl.2, ?_⟩)
      rw [any_of rv' hfl.1 r hfl.2]
      subst hc
      exact kk
    unfold inB at q
    split at q
    · rename_i c0 z
      cases rw_str rv; cases rw_str ru; cases q
      exact .inl (.inl ⟨c0, _, rfl, rfl, kk⟩)
    · rename_i l
      obtain ⟨a, xs, rfl, e1, r1⟩ := rw_lst ru
      split at q
      · rename_i hfl
        exact .inl (flat _ a xs (.inl e1) rfl r1 hfl (Option.some.inj q).symm)
      · unfold inD at q
        cases q1 : toD v with
        | none => rw [q1] at q; cases q
        | some d =>
          cases q2 : toDs l with
          | none => rw [q1, q2] at q; cases q
          | some ds =>
            rw [q1, q2] at q
            simp only at q
            split at q
            · rename_i hsh
              simp only [Bool.and_eq_true] at hsh
              have hd := dpw_of rv q1
              have hds := dps_of r1 q2
              refine .inl (.inr (.inr (.inl ?_)))
              cases q
              cases neg with
              | true => exact ⟨d, ds, hd, .lst e1 hds, hsh.1, hsh.2, kk⟩
              | false => exact ⟨d, ds, hd, .lst e1 hds, hsh.1, hsh.2, kk⟩
            · cases q
    · obtain ⟨a, xs, rfl, e1, r1, _⟩ := rw_tup ru
      split at q
      · rename_i hfl
        exact .inl (flat _ a xs (.inr e1) rfl r1 hfl (Option.some.inj q).symm)
      · rename_i l _ _
        unfold inD at q
        cases q1 : toD v with
        | none => rw [q1] at q; cases q
        | some d =>
          cases q2 : toDs l with
          | none => rw [q1, q2] at q; cases q
          | some ds =>
            rw [q1, q2] at q
            simp only at q
            split at q
            · rename_i hsh
              simp only [Bool.and_eq_true] at hsh
              refine .inr ⟨d, ds, dpw_of rv q1, .tup e1 (dps_of r1 q2), hsh.1, hsh.2, ?_⟩
              cases q
              exact kk
            · cases q
    · rename_i z kvs
      cases rw_str rv
      obtain ⟨a, xs, rfl, e1, r1⟩ := rw_dct ru
      cases q
      refine .inl (.inr (.inr (.inr ⟨a, xs, kK (.s z), rfl, rfl, e1, ?_⟩)))
      rw [val_of (.s z) r1]
      exact kk
    · rename_i z kvs
      cases rw_int rv
      obtain ⟨a, xs, rfl, e1, r1⟩ := rw_dct ru
      cases q
      refine .inl (.inr (.inr (.inr ⟨a, xs, kK (.i z), rfl, rfl, e1, ?_⟩)))
      rw [val_of (.i z) r1]
      exact kk
    · rename_i z kvs
      cases rw_str rv
      obtain ⟨a, xs, rfl, e1, r1⟩ := rw_kdc ru
      cases q
      refine .inl (.inr (.inr (.inr ⟨a, xs, kK (.s z), rfl, rfl, e1, ?_⟩)))
      rw [val_of (.s z) r1]
      exact kk
    · cases q
theorem blf_in (neg : Bool) : BlF (vInN neg) := fun v u w h => by
  unfold vInN at h
  cases q : inB v u with
  | none => rw [q] at h; cases h
  | some c => rw [q] at h; cases h; exact ⟨_, rfl⟩
end
end Tg
end
section
set_option Elab.async false
set_option linter.all false
set_option autoImplicit false
set_option maxRecDepth 100000
namespace Tg
open PySem PySem.Spec PyProof.Rows L2

/-! ### built-in functions of one thing -/
def OpC (W : Wd) (f : PV → Option PV) (r : List V → Hp → VK → Prop) : Prop :=
  ∀ (v w : PV) (x : V) (H : Hp) (b : Bn) (Q : VK), (∀ p, H p = none → ¬ b.no p) → RepW W H b v x → f v = some w →
    (∀ z H', (∀ a o, H a = some o → H' a = some o) → Rep W H' b w z → Q z H') → r [x] H Q
section
variable {X : Cx} {W : Wd} {g : Gh} {E : XK}
theorem opc_end {f : PV → Option PV} {r : List V → Hp → VK → Prop} (hf : OpC W f r) {σ : L2.St} {H2 : Hp} {x : V} {Q : VK}
    (h : ∃ ρ S b O v, EnvOk W g ρ S b O σ H2 ∧ RW W H2 b v x ∧ fin W E (fun w _ H' b' => ∀ z, Rep W H' b' w z → Q z H') b H2 (okv (f v) S)) : r [x] H2 Q := by
  obtain ⟨ρ, S, b, O, v, e, ra, f0⟩ := h
  cases q : f v with
  | none => rw [q] at f0; exact f0.elim
  | some w =>
    rw [q] at f0
    exact hf v w x H2 b Q (fun p hp => e.fresh hp) ra q fun z H' k rz => f0 H' b (.grow e.st k) z rz
section
variable {x : Str} {p pos : Pos} {e : Expr} {da : Den} {f : PV → Option PV} {r : List V → Hp → VK → Prop} {id T : String}
theorem sb_fun (hc : CallR X (.builtin id) r) (hf : OpC W f r) (hg : Gl X x) (hm : X.mg x = none) (hv : bootBuiltins x = some (.builtin id)) (ha : PE X e (tEr W g E (RW W) da)) (hn : x ≠ "__name__") (hdb : (x == ("__debug__" : Str)) = false)
    (hs : starEach [e] X.env = (false, eval e X.env) :: starEach [] X.env := by rfl) (hpl : (backTo pos (starEach ([] : List Expr) X.env)).any (·.1) = false := by rfl) : PE X (.Call (.Name x p) [e] [] pos) (tEv W g E (dB1 f da)) :=
  peI (pe_callB hc hg hm hv (pa_cons ha pa_nil hs) hn hdb hs hpl) fun σ H Q h => (one (Ra := RW W) (k := fun _ v S => okv (f v) S) h).imp fun _ _ _ _ _ q y ry => opc_end hf (q y ry)
theorem sb_ty (hc : CallR X (.type T) r) (hf : OpC W f r) (hg : Gl X x) (hm : X.mg x = none) (hv : bootBuiltins x = some (.type T)) (ha : PE X e (tEr W g E (RW W) da)) (hn : x ≠ "__name__") (hdb : (x == ("__debug__" : Str)) = false)
    (hs : starEach [e] X.env = (false, eval e X.env) :: starEach [] X.env := by rfl) (hpl : (backTo pos (starEach ([] : List Expr) X.env)).any (·.1) = false := by rfl) : PE X (.Call (.Name x p) [e] [] pos) (tEv W g E (dB1 f da)) :=
  peI (pe_callTy hc hg hm hv (pa_cons ha pa_nil hs) hn hdb hs hpl) fun σ H Q h => (one (Ra := RW W) (k := fun _ v S => okv (f v) S) h).imp fun _ _ _ _ _ q y ry => opc_end hf (q y ry)
end

/-! len -/
def rLenD (W : Wd) : List V → Hp → VK → Prop := fun xs H Q => ∃ a kvs, xs = [.ref a] ∧ DRd W H a kvs ∧ Q (.int kvs.length) H
theorem call_lenDc (hP : X.prog = W.P) (hw : X.w = W.w) (hK : X.K = W.K) : CallR X (.builtin "len") (rLenD W) := by
  intro pins s σ H xs us Q I r h
  obtain ⟨a, kvs, rfl, hd, q⟩ := h
  obtain ⟨u, rfl, ru⟩ := vals1 r
  cases (show u = Value.ref a from ru)
  obtain ⟨z, h1, vs, rel, dd⟩ := drd_at hP hw hK I hd
  refine call_len_dict h1 dd (by rw [← rel.length]; rw [sizeLine_eq] at z; omega) ?_
  rw [← rel.length]
  exact ⟨.int _, _, I.tok _, ⟨_, rfl⟩, q⟩
theorem RepK.length {H : Hp} {b : Bn} : ∀ {ps : List (KP × PV)} {xs : List (Key × V)}, RepK W H b ps xs → ps.length = xs.length
  | _, _, .nil => rfl
  | _, _, .cons _ t => by simp [RepK.length t]
def r_len (W : Wd) : List V → Hp → VK → Prop := fun xs H Q => (∃ p ys, xs = [.ref p] ∧ (SqL W.K H p ys ∨ SqT W.K H p ys) ∧ Q (.int ys.length) H) ∨ ((∃ z, xs = [.str z] ∧ z.length ≤ sizeLine ∧ Q (.int z.length) H) ∨ rLenD W xs H Q)
theorem o_len (hP : X.prog = W.P) (hw : X.w = W.w) (hK : X.K = W.K) : CallR X (.builtin "len") (r_len W) := by
  unfold r_len
  rw [← hK]
  exact CallR.or call_len_seq (CallR.or call_len_str (call_lenDc hP hw hK))
theorem f_len : OpC W uLen (r_len W) := by
  intro v w x H b Q hf rv hw k
  unfold uLen at hw
  split at hw
  · rename_i s
    split at hw
    · rename_i hl
      cases hw; cases rw_str rv
      refine .inr (.inl ⟨_, rfl, by simpa [lenL] using hl, ?_⟩)
      rw [lenL]
      exact k _ H (fun _ _ e => e) (.int _)
    · cases hw
  · cases hw
    obtain ⟨a, xs, rfl, e1, r1⟩ := rw_lst rv
    exact .inl ⟨a, xs, rfl, .inl (e1), r1.length ▸ k _ H (fun _ _ e => e) (.int _)⟩
  · cases hw
    obtain ⟨a, xs, rfl, e1, r1, _⟩ := rw_tup rv
    exact .inl ⟨a, xs, rfl, .inr e1, r1.length ▸ k _ H (fun _ _ e => e) (.int _)⟩
  · cases hw
    obtain ⟨a, xs, rfl, e1, r1⟩ := rw_dct rv
    exact .inr (.inr ⟨a, xs, rfl, e1, r1.length ▸ k _ H (fun _ _ e => e) (.int _)⟩)
  · cases hw
/-! tuple, list -/
def r_tuple (W : Wd) : List V → Hp → VK → Prop := fun xs H Q => ∃ p ys, xs = [.ref p] ∧ ((SqL W.K H p ys ∧ NewT ys H Q) ∨ (SqT W.K H p ys ∧ Q (.ref p) H))
theorem o_tuple (hK : X.K = W.K) : CallR X (.type "tuple") (r_tuple W) := by
  unfold r_tuple
  rw [← hK]
  exact call_tupleF
theorem f_tuple : OpC W uTuple (r_tuple W) := by
  intro v w x H b Q hf rv hw k
  unfold uTuple at hw
  split at hw
  · cases hw
    obtain ⟨a, xs, rfl, e1, r1⟩ := rw_lst rv
    exact ⟨a, xs, rfl, .inl ⟨e1, fun p o hp ho => k _ _ (same_upd hp) (.tup (.inl ⟨hf p hp, o, upd_same, ho⟩) (r1.grow (same_upd hp)))⟩⟩
  · cases hw
    obtain ⟨a, xs, rfl, e1, r1, rr⟩ := rw_tup rv
    exact ⟨a, xs, rfl, .inr ⟨e1, k _ H (fun _ _ e => e) rr⟩⟩
  · cases hw
def r_list (W : Wd) : List V → Hp → VK → Prop := fun xs H Q => ∃ p ys, xs = [.ref p] ∧ (SqL W.K H p ys ∨ SqT W.K H p ys) ∧ ∀ l, H l = none → Q (.ref l) (upd H l (.lst ys))
theorem o_list (hK : X.K = W.K) : CallR X (.type "list") (r_list W) := by
  unfold r_list
  rw [← hK]
  exact call_list_of
theorem f_list : OpC W uList (r_list W) := by
  intro v w x H b Q hf rv hw k
  unfold uList at hw
  split at hw
  · cases hw
    obtain ⟨a, xs, rfl, e1, r1⟩ := rw_lst rv
    exact ⟨a, xs, rfl, .inl (e1), fun p hp => k _ _ (same_upd hp) (.lst (.inl ⟨hf p hp, .inl upd_same⟩) (r1.grow (same_upd hp)))⟩
  · cases hw
    obtain ⟨a, xs, rfl, e1, r1, rr⟩ := rw_tup rv
    exact ⟨a, xs, rfl, .inr e1, fun p hp => k _ _ (same_upd hp) (.lst (.inl ⟨hf p hp, .inl upd_same⟩) (r1.grow (same_upd hp)))⟩
  · cases hw
/-! all, any, sum, min, max -/
theorem asBls_of {H : Hp} {b : Bn} : ∀ {ps : List PV} {xs : List V} {bs : List Bool}, Reps W H b ps xs → asBls ps = some bs → xs = bs.map V.bl
  | _, _, _, .nil, e => by cases e; rfl
  | .bl i :: ps, _, _, .cons r t, e => by
    unfold asBls at e
    cases q : asBls ps with
    | none => rw [q] at e; cases e
    | some ns =>
      rw [q] at e; cases e
      cases r
      rw [asBls_of t q]; rfl
  | .non :: ps, _, _, .cons r t, e => by cases e
  | .int _ :: ps, _, _, .cons r t, e => by cases e
  | .str _ :: ps, _, _, .cons r t, e => by cases e
  | .tup _ :: ps, _, _, .cons r t, e => by cases e
  | .lst _ :: ps, _, _, .cons r t, e => by cases e
  | .dct _ :: ps, _, _, .cons r t, e => by cases e
  | .kdc _ :: ps, _, _, .cons r t, e => by cases e
  | .fn _ :: ps, _, _, .cons r t, e => by cases e
  | .cell _ :: ps, _, _, .cons r t, e => by cases e
theorem asStrs_of {H : Hp} {b : Bn} : ∀ {ps : List PV} {xs : List V} {bs : List (List Nat)}, Reps W H b ps xs → asStrs ps = some bs → xs = (bs.map SX.S).map V.str
  | _, _, _, .nil, e => by cases e; rfl
  | .str i :: ps, _, _, .cons r t, e => by
    unfold asStrs at e
    cases q : asStrs ps with
    | none => rw [q] at e; cases e
    | some ns =>
      rw [q] at e; cases e
      cases r
      rw [asStrs_of t q]; rfl
  | .non :: ps, _, _, .cons r t, e => by cases e
  | .int _ :: ps, _, _, .cons r t, e => by cases e
  | .bl _ :: ps, _, _, .cons r t, e => by cases e
  | .tup _ :: ps, _, _, .cons r t, e => by cases e
  | .lst _ :: ps, _, _, .cons r t, e => by cases e
  | .dct _ :: ps, _, _, .cons r t, e => by cases e
  | .kdc _ :: ps, _, _, .cons r t, e => by cases e
  | .fn _ :: ps, _, _, .cons r t, e => by cases e
  | .cell _ :: ps, _, _, .cons r t, e => by cases e
theorem f_all : OpC W uAll (rAll W.K) := by
  intro v w x H b Q hf rv hw k
  unfold uAll at hw
  split at hw
  · rename_i l
    cases q : asBls l with
    | none => rw [q] at hw; cases hw
    | some bs =>
      rw [q] at hw; cases hw
      obtain ⟨a, xs, rfl, e1, r1⟩ := rw_lst rv
      have := asBls_of r1 q
      subst this
      exact ⟨a, bs, rfl, e1, k _ H (fun _ _ e => e) (.bl _)⟩
  · cases hw
theorem f_any : OpC W uAny (rAny W.K) := by
  intro v w x H b Q hf rv hw k
  unfold uAny at hw
  split at hw
  · rename_i l
    cases q : asBls l with
    | none => rw [q] at hw; cases hw
    | some bs =>
      rw [q] at hw; cases hw
      obtain ⟨a, xs, rfl, e1, r1⟩ := rw_lst rv
      have := asBls_of r1 q
      subst this
      exact ⟨a, bs, rfl, e1, k _ H (fun _ _ e => e) (.bl _)⟩
  · cases hw
theorem f_sum : OpC W uSum (rSum W.K) := by
  intro v w x H b Q hf rv hw k
  unfold uSum at hw
  split at hw
  · rename_i l
    cases q : asInts l with
    | none => rw [q] at hw; cases hw
    | some bs =>
      rw [q] at hw; cases hw
      obtain ⟨a, xs, rfl, e1, r1⟩ := rw_lst rv
      have := asInts_of r1 q
      subst this
      exact ⟨a, bs, rfl, e1, k _ H (fun _ _ e => e) (.int _)⟩
  · cases hw
theorem leastOf_spec : ∀ (r : List Int) (n : Int), leastOf n r ∈ n :: r ∧ ∀ y ∈ n :: r, leastOf n r ≤ y
  | [], n => by simp [leastOf]
  | c :: r, n => by
    have h := leastOf_spec r (if c < n then c else n)
    have e : leastOf n (c :: r) = leastOf (if c < n then c else n) r := rfl
    rw [e]
    by_cases q : c < n
    · rw [if_pos q] at h ⊢
      refine ⟨List.mem_cons_of_mem _ h.1, fun y hy => ?_⟩
      have h0 := h.2 c (List.mem_cons_self ..)
      rcases List.mem_cons.mp hy with rfl | hy
      · omega
      · exact h.2 y hy
    · rw [if_neg q] at h ⊢
      refine ⟨?_, fun y hy => ?_⟩
      · rcases List.mem_cons.mp h.1 with h1 | h1
        · rw [h1]; exact List.mem_cons_self ..
        · exact List.mem_cons_of_mem _ (List.mem_cons_of_mem _ h1)
      · have h0 := h.2 n (List.mem_cons_self ..)
        rcases List.mem_cons.mp hy with rfl | hy
        · exact h0
        · rcases List.mem_cons.mp hy with rfl | hy
          · omega
          · exact h.2 y (List.mem_cons_of_mem _ hy)
theorem mostOf_spec : ∀ (r : List Int) (n : Int), mostOf n r ∈ n :: r ∧ ∀ y ∈ n :: r, y ≤ mostOf n r
  | [], n => by simp [mostOf]
  | c :: r, n => by
    have h := mostOf_spec r (if n < c then c else n)
    have e : mostOf n (c :: r) = mostOf (if n < c then c else n) r := rfl
    rw [e]
    by_cases q : n < c
    · rw [if_pos q] at h ⊢
      refine ⟨List.mem_cons_of_mem _ h.1, fun y hy => ?_⟩
      have h0 := h.2 c (List.mem_cons_self ..)
      rcases List.mem_cons.mp hy with rfl | hy
      · omega
      · exact h.2 y hy
    · rw [if_neg q] at h ⊢
      refine ⟨?_, fun y hy => ?_⟩
      · rcases List.mem_cons.mp h.1 with h1 | h1
        · rw [h1]; exact List.mem_cons_self ..
        · exact List.mem_cons_of_mem _ (List.mem_cons_of_mem _ h1)
      · have h0 := h.2 n (List.mem_cons_self ..)
        rcases List.mem_cons.mp hy with rfl | hy
        · exact h0
        · rcases List.mem_cons.mp hy with rfl | hy
          · omega
          · exact h.2 y (List.mem_cons_of_mem _ hy)
theorem f_min : OpC W uMin (rMin W.K) := by
  intro v w x H b Q hf rv hw k
  unfold uMin at hw
  split at hw
  · rename_i l
    split at hw
    · rename_i n r q
      cases hw
      obtain ⟨a, xs, rfl, e1, r1⟩ := rw_lst rv
      have := asInts_of r1 q
      subst this
      have sp := leastOf_spec r n
      refine ⟨a, _, rfl, e1, by simp, fun m h1 h2 => ?_⟩
      have : m = leastOf n r := Int.le_antisymm (h2 _ sp.1) (sp.2 _ h1)
      rw [this]
      exact k _ H (fun _ _ e => e) (.int _)
    · cases hw
  · cases hw
theorem f_max : OpC W uMax (rMax W.K) := by
  intro v w x H b Q hf rv hw k
  unfold uMax at hw
  split at hw
  · rename_i l
    split at hw
    · rename_i n r q
      cases hw
      obtain ⟨a, xs, rfl, e1, r1⟩ := rw_lst rv
      have := asInts_of r1 q
      subst this
      have sp := mostOf_spec r n
      refine ⟨a, _, rfl, e1, by simp, fun m h1 h2 => ?_⟩
      have : m = mostOf n r := Int.le_antisymm (sp.2 _ h1) (h2 _ sp.1)
      rw [this]
      exact k _ H (fun _ _ e => e) (.int _)
    · cases hw
  · cases hw
/-! str, int, abs, bool -/
def r_str : List V → Hp → VK → Prop := fun xs H Q => (∃ i, xs = [.int i] ∧ i.natAbs.log2 < 1920 ∧ Q (.str (toString i)) H) ∨ (∃ a, xs = [.str a] ∧ Q (.str a) H)
theorem o_str : CallR X (.type "str") r_str := CallR.or call_str_int SkE.call_str_str
theorem f_str : OpC W uStr r_str := by
  intro v w x H b Q hf rv hw k
  unfold uStr at hw
  split at hw
  · rename_i n
    split at hw
    · rename_i hl
      cases hw; cases rw_int rv
      refine .inl ⟨_, rfl, hl, ?_⟩
      have e : (toString (Int.ofNat n) : Str) = SX.S (TL.numL n) := SX.num_S n
      rw [e]
      exact k _ H (fun _ _ e => e) (.str _)
    · cases hw
  · cases hw; cases rw_str rv
    exact .inr ⟨_, rfl, k _ H (fun _ _ e => e) (.str _)⟩
  · cases hw
def r_int : List V → Hp → VK → Prop := fun xs H Q => ((∃ i, xs = [.int i] ∧ Q (.int i) H) ∨ ∃ k, xs = [.bl k] ∧ Q (.int (if k then 1 else 0)) H) ∨ (∃ a n, xs = [.str a] ∧ PySem.intText? a = some n ∧ a.length ≤ 640 ∧ Q (.int n) H)
theorem o_int : CallR X (.type "int") r_int := CallR.or call_int1 call_int_str
theorem f_int : OpC W uInt r_int := by
  intro v w x H b Q hf rv hw k
  unfold uInt at hw
  split at hw
  · cases hw; cases rw_int rv
    exact .inl (.inl ⟨_, rfl, k _ H (fun _ _ e => e) (.int _)⟩)
  · cases hw; cases rw_bl rv
    exact .inl (.inr ⟨_, rfl, k _ H (fun _ _ e => e) (.int _)⟩)
  · rename_i s
    split at hw
    · rename_i hc
      cases hw; cases rw_str rv
      simp only [Bool.and_eq_true, decide_eq_true_eq, Bool.not_eq_true', List.isEmpty_eq_false_iff] at hc
      refine .inr ⟨_, _, rfl, SX.int_S (a := s) ?_ hc.1.1 (by omega), by rw [lenL]; exact hc.2, k _ H (fun _ _ e => e) (.int _)⟩
      exact hc.1.2
    · cases hw
  · cases hw
theorem f_abs : OpC W uAbs (fun xs H Q => ∃ i, xs = [.int i] ∧ Q (.int (if i < 0 then -i else i)) H) := by
  intro v w x H b Q hf rv hw k
  unfold uAbs at hw
  split at hw
  · cases hw; cases rw_int rv
    exact ⟨_, rfl, k _ H (fun _ _ e => e) (.int _)⟩
  · cases hw
theorem f_bool : OpC W uBool (fun xs H Q => (∃ i, xs = [.int i] ∧ Q (.bl (i != 0)) H) ∨ ∃ k, xs = [.bl k] ∧ Q (.bl k) H) := by
  intro v w x H b Q hf rv hw k
  unfold uBool at hw
  split at hw
  · cases hw; cases rw_int rv
    exact .inl ⟨_, rfl, k _ H (fun _ _ e => e) (.bl _)⟩
  · cases hw; cases rw_bl rv
    exact .inr ⟨_, rfl, k _ H (fun _ _ e => e) (.bl _)⟩
  · cases hw
end
end Tg
end
section
set_option Elab.async false
set_option linter.all false
set_option autoImplicit false
set_option maxRecDepth 100000
namespace Tg
open PySem PySem.Spec PyProof.Rows L2
section
variable {X : Cx} {W : Wd} {g : Gh} {E : XK}
/-! ### isinstance(e, T) -/
theorem tyx_of {H : Hp} {b : Bn} {v : PV} {x : V} {t : String} (r : RepW W H b v x) (h : tyOf v = some t) : TyX W.K H x (.type t) := by
  cases v with
  | non => cases h; cases rw_non r; exact .base .non
  | bl k => cases h; cases rw_bl r; exact .base (.bl k)
  | int k => cases h; cases rw_int r; exact .base (.int k)
  | str k => cases h; cases rw_str r; exact .base (.str _)
  | tup ps =>
    cases h
    obtain ⟨a, xs, rfl, e, _⟩ := rw_tup r
    rcases e with (e | ⟨o, e⟩) | ⟨o, its, n, e1, e2, _⟩
    · exact .base (.tup e)
    · exact .fTuple e
    · exact .kTuple e1 e2
  | lst ps =>
    cases h
    obtain ⟨a, xs, rfl, e, _⟩ := rw_lx r
    rcases e with (e | ⟨o, e⟩) | ⟨its, n, e, _, _⟩
    · exact .base (.lst e)
    · exact .base (.frz e)
    · exact .kList e rfl
  | dct ps =>
    cases h
    obtain ⟨a, xs, rfl, e, _⟩ := rw_dct r
    rcases e with e | ⟨⟨o, e1, e2⟩, _⟩
    · rcases e with e | ⟨od, e⟩
      · exact .base (.dK e)
      · exact .fDict e
    · exact .kDict e1 e2
  | kdc ps => cases h
  | fn i => cases h
  | cell i => cases h
theorem kit_all : ∀ t ∈ ["NoneType", "bool", "int", "str", "tuple", "list", "dict"], ∀ T ∈ ["int", "str", "tuple", "list", "bool"], kitB t T = some (t == T || (t == "bool" && T == "int")) := by decide +kernel
theorem ty_mem {v : PV} {t : String} (h : tyOf v = some t) : t ∈ ["NoneType", "bool", "int", "str", "tuple", "list", "dict"] := by
  cases v <;> first | (cases h; decide) | cases h
theorem se_isi {p pT pos : Pos} {e : Expr} {da : Den} {T : Str} {TT : String} (hK : X.K = W.K) (hT : T = Str.ofString TT) (hTm : TT ∈ ["int", "str", "tuple", "list", "bool"]) (hg : Gl X "isinstance") (hm : X.mg "isinstance" = none) (hgT : Gl X T) (hmT : X.mg T = none) (hvT : bootBuiltins T = some (.type TT))
    (ha : PE X e (tEr W g E (RW W) da)) (hn : T ≠ "__name__") (hd : (T == ("__debug__" : Str)) = false)
    (hs : starEach [e, .Name T pT] X.env = (false, eval e X.env) :: starEach [.Name T pT] X.env := by rfl) (hs2 : starEach [.Name T pT] X.env = (false, eval (.Name T pT) X.env) :: starEach [] X.env := by rfl) (hpl : (backTo pos (starEach [.Name T pT] X.env)).any (·.1) = false := by rfl) :
    PE X (.Call (.Name "isinstance" p) [e, .Name T pT] [] pos) (tEv W g E (dB1 (uIsi TT) da)) := by
  refine peI (pe_callB (r := rIsi X.K) call_isi hg hm (by decide +kernel) (pa_cons ha (pa_cons (pe_bltn (v := .ty TT) hgT hmT hvT rfl hn hd) pa_nil hs2) hs) (by decide) (by decide) hs hpl) ?_
  intro σ H Q h
  refine (one (Ra := RW W) (k := fun _ v S => okv (uIsi TT v) S) h).imp fun _ _ _ _ _ q y ry => ?_
  obtain ⟨ρ, S, b, O, v, e1, ra, f0⟩ := q y ry
  unfold uIsi at f0
  cases ht : tyOf v with
  | none => rw [ht] at f0; exact f0.elim
  | some t =>
    rw [ht] at f0
    have hk := kit_all t (ty_mem ht) TT hTm
    have hc : (["int", "str", "tuple", "list", "bool"].contains TT) = true := by simpa using hTm
    refine ⟨y, .ty TT, .type t, .type TT, _, rfl, .ty TT, hK ▸ tyx_of ra ht, kit_ty hk, ?_⟩
    simp only [uIsi.kitB', if_pos hc] at f0
    exact f0 _ b (.refl e1.st) _ (.bl _)

/-! ### subscripts -/
def rIxDc (W : Wd) : R2 := fun x y H Q => ∃ a kvs k v, x = .ref a ∧ y = kV k ∧ DRd W H a kvs ∧ valV kvs k = some v ∧ Q v H
theorem ix_dc (hP : X.prog = W.P) (hw : X.w = W.w) (hK : X.K = W.K) : IxR X (rIxDc W) := by
  intro value slice pins s σ H x y v u Q I rx ry h hs
  obtain ⟨a, kvs, k, z, rfl, rfl, hd, hl, q⟩ := h
  cases (show v = Value.ref a from rx)
  obtain ⟨_, h1, vs, rel, dd⟩ := drd_at hP hw hK I hd
  obtain ⟨w', hw', rw'⟩ := RelO.some_of (v := z) (o := valueAt vs k) (by rw [← hl]; exact rel.val k)
  exact tail_any dd.typeIs slot_dict_getitem.lookup (wpAny_getItem_of (kV_is ry) dd.mapOf hw' ⟨z, H, I.tok _, rw', q⟩) hs
def r_idx (W : Wd) : R2 := fun x y H Q => rIx W.K x y H Q ∨ rIxDc W x y H Q
theorem o_idx (hP : X.prog = W.P) (hw : X.w = W.w) (hK : X.K = W.K) : IxR X (r_idx W) := by
  unfold r_idx
  rw [← hK]
  exact IxR.or ix_seq (ix_dc hP hw hK)
theorem dLook_of {H : Hp} {b : Bn} (k : KP) : ∀ {ps : List (KP × PV)} {xs : List (Key × V)} {w : PV}, RepK W H b ps xs → dLook k ps = some w → ∃ z, valV xs (kK k) = some z ∧ Rep W H b w z
  | _, _, _, .nil, e => by cases e
  | _, _, w, .cons (k := j) (x := x) (xs := xs) r t, e => by
    unfold dLook at e
    split at e
    · rename_i h
      cases e
      subst h
      exact ⟨x, valV_pos rfl, r⟩
    · rename_i h
      obtain ⟨z, h1, h2⟩ := dLook_of k t e
      exact ⟨z, (valV_neg (κ := Key) (p := (kK j, x)) (r := xs) (k := kK k) (fun q => h (kK_inj.mp q))).trans h1, h2⟩
theorem dLook_none {H : Hp} {b : Bn} (k : KP) : ∀ {ps : List (KP × PV)} {xs : List (Key × V)}, RepK W H b ps xs → dLook k ps = none → valV xs (kK k) = none
  | _, _, .nil, e => rfl
  | _, _, .cons (k := j) (x := x) (xs := xs) r t, e => by
    unfold dLook at e
    split at e
    · cases e
    · rename_i h
      exact (valV_neg (κ := Key) (p := (kK j, x)) (r := xs) (k := kK k) (fun q => h (kK_inj.mp q))).trans (dLook_none k t e)
theorem atP_of {H : Hp} {b : Bn} {ps : List PV} {xs : List V} {i : Int} {w : PV} (r : Reps W H b ps xs) (h : atP ps i = some w) : ∃ z, atI xs i = some z ∧ Rep W H b w z := by
  have hl := r.length
  unfold atP at h
  unfold atI ixN
  rw [← hl]
  split at h
  · rename_i h0
    rw [if_pos h0]
    obtain ⟨z, h1, h2⟩ := r.get h
    have : i.toNat < ps.length := (List.getElem?_eq_some_iff.mp h).1
    rw [if_pos (by omega)]
    exact ⟨z, h1, h2⟩
  · rename_i h0
    split at h
    · rename_i h3
      rw [if_neg h0, if_pos h3]
      obtain ⟨z, h1, h2⟩ := r.get h
      exact ⟨z, h1, h2⟩
    · cases h
theorem atC_of {s : List Nat} {i : Int} {c : Nat} (h : atC s i = some c) : atI s i = some c := by
  unfold atC at h
  unfold atI ixN
  split at h
  · rename_i h0
    rw [if_pos h0]
    have : i.toNat < s.length := (List.getElem?_eq_some_iff.mp h).1
    rw [if_pos (by omega)]
    exact h
  · rename_i h0
    split at h
    · rename_i h3
      rw [if_neg h0, if_pos h3]
      exact h
    · cases h
theorem f_idx : Op2 W (RW W) (RW W) vIdx (r_idx W) := by
  intro v u w x y H b Q hf rv ru hw k
  unfold vIdx at hw
  split at hw
  · rename_i s i
    split at hw
    · rename_i hl
      cases q : atC s i with
      | none => rw [q] at hw; cases hw
      | some c =>
        rw [q] at hw; cases hw
        cases rw_str rv; cases rw_int ru
        exact .inl (.inr (.inr ⟨_, _, c, rfl, rfl, by simpa [lenL] using hl, atC_of q, k _ H (fun _ _ e => e) (.str [c])⟩))
    · cases hw
  · obtain ⟨a, xs, rfl, e1, r1⟩ := rw_lst rv
    cases rw_int ru
    obtain ⟨z, h1, h2⟩ := atP_of r1 hw
    exact .inl (.inl ⟨a, xs, _, z, rfl, rfl, e1, h1, k _ H (fun _ _ e => e) h2⟩)
  · obtain ⟨a, xs, rfl, e1, r1, _⟩ := rw_tup rv
    cases rw_int ru
    obtain ⟨z, h1, h2⟩ := atP_of r1 hw
    exact .inl (.inr (.inl ⟨a, xs, _, z, rfl, rfl, e1, h1, k _ H (fun _ _ e => e) h2⟩))
  · obtain ⟨a, xs, rfl, e1, r1⟩ := rw_dct rv
    cases rw_str ru
    obtain ⟨z, h1, h2⟩ := dLook_of _ r1 hw
    exact .inr ⟨a, xs, kK (.s _), z, rfl, rfl, e1, h1, k _ H (fun _ _ e => e) h2⟩
  · obtain ⟨a, xs, rfl, e1, r1⟩ := rw_dct rv
    cases rw_int ru
    obtain ⟨z, h1, h2⟩ := dLook_of _ r1 hw
    exact .inr ⟨a, xs, kK (.i _), z, rfl, rfl, e1, h1, k _ H (fun _ _ e => e) h2⟩
  · obtain ⟨a, xs, rfl, e1, r1⟩ := rw_kdc rv
    cases rw_str ru
    obtain ⟨z, h1, h2⟩ := dLook_of _ r1 hw
    exact .inr ⟨a, xs, kK (.s _), z, rfl, rfl, e1, h1, k _ H (fun _ _ e => e) h2⟩
  · cases hw
section
variable {a c d : Expr} {da db dc : Den} {pos p2 : Pos}
theorem se_idx (hP : X.prog = W.P) (hw : X.w = W.w) (hK : X.K = W.K) (ha : PE X a (tEr W g E (RW W) da)) (hb : PE X c (tEr W g E (RW W) db)) (hs : PlainIx c) : PE X (.Subscript a c pos) (tEv W g E (dB2 vIdx da db)) :=
  peI (pe_ix (o_idx hP hw hK) ha hb hs) fun σ H Q h => (two (Ra := RW W) (Rb := RW W) (k := fun _ v u S => okv (vIdx v u) S) stb_w h).imp fun _ _ _ _ _ q x rx => (q x rx).imp fun _ _ _ _ _ q' y ry => op2_end f_idx (q' y ry)

/-! ### slices -/
theorem sPl_eq (n d : Nat) (o : Option Int) : sPl n d o = HT.sIx n d o := by cases o <;> rfl
theorem Reps.drop {H : Hp} {b : Bn} : ∀ {ps : List PV} {xs : List V} (n : Nat), Reps W H b ps xs → Reps W H b (ps.drop n) (xs.drop n)
  | _, _, 0, r => r
  | _, _, _ + 1, .nil => .nil
  | _, _, n + 1, .cons _ t => Reps.drop n t
theorem Reps.take {H : Hp} {b : Bn} : ∀ {ps : List PV} {xs : List V} (n : Nat), Reps W H b ps xs → Reps W H b (ps.take n) (xs.take n)
  | _, _, 0, _ => .nil
  | _, _, _ + 1, .nil => .nil
  | _, _, n + 1, .cons r t => .cons r (Reps.take n t)
theorem cut_of {H : Hp} {b : Bn} {ps : List PV} {xs : List V} (r : Reps W H b ps xs) (lo hi : Option Int) : Reps W H b (cutP ps lo hi) (cutV xs lo hi) := by
  unfold cutP cutV
  rw [sPl_eq, sPl_eq, r.length]
  exact (r.drop _).take _
def r_cut (W : Wd) : V → Option Int → Option Int → Hp → VK → Prop := fun x lo hi H Q => rSlS x lo hi H Q ∨ (rSlL W.K x lo hi H Q ∨ rSlF W.K x lo hi H Q)
theorem o_cut (hK : X.K = W.K) : SlR X (r_cut W) := by
  unfold r_cut
  rw [← hK]
  exact SlR.or sl_str (SlR.or sl_list sl_tupF)
theorem f_cut {v w : PV} {x : V} {H : Hp} {b : Bn} {lo hi : Option Int} {Q : VK} (hf : ∀ p, H p = none → ¬ b.no p) (rv : RepW W H b v x) (hw : vCut v lo hi = some w) (k : ∀ z H', (∀ a o, H a = some o → H' a = some o) → Rep W H' b w z → Q z H') : r_cut W x lo hi H Q := by
  unfold vCut at hw
  split at hw
  · rename_i s
    split at hw
    · rename_i hl
      cases hw; cases rw_str rv
      refine .inl ⟨_, rfl, by simpa [lenL] using hl, ?_⟩
      have e : cutS ⟨s.toArray⟩ lo hi = ⟨(cutP s lo hi).toArray⟩ := by
        unfold cutS cutP
        rw [sPl_eq, sPl_eq, lenL]
      rw [e]
      exact k _ H (fun _ _ e => e) (.str _)
    · cases hw
  · cases hw
    obtain ⟨a, xs, rfl, e1, r1⟩ := rw_lst rv
    exact .inr (.inl ⟨a, xs, rfl, e1, fun p hp => k _ _ (same_upd hp) (.lst (.inl ⟨hf p hp, .inl upd_same⟩) ((cut_of r1 lo hi).grow (same_upd hp)))⟩)
  · rename_i ps
    cases hw
    obtain ⟨a, xs, rfl, e1, r1, rr⟩ := rw_tup rv
    refine .inr (.inr ⟨a, xs, rfl, e1, fun ⟨h1, h2⟩ => ?_, fun _ p o hp ho => k _ _ (same_upd hp) (.tup (.inl ⟨hf p hp, o, upd_same, ho⟩) ((cut_of r1 lo hi).grow (same_upd hp)))⟩)
    have e : cutP ps lo hi = ps := by
      unfold cutP
      rw [sPl_eq, sPl_eq, r1.length, h1, h2, Nat.sub_zero, List.drop_zero, ← r1.length, List.take_length]
    rw [e] at k
    exact k _ H (fun _ _ e => e) rr
  · cases hw
theorem cut_end {σ : L2.St} {H2 : Hp} {x : V} {Q : VK} {lo hi : Option Int} {ρ : Env} {S : Store} {b : Bn} {O : Addr → Prop} {v : PV} (e : EnvOk W g ρ S b O σ H2) (ra : RW W H2 b v x) (f0 : fin W E (fun w _ H' b' => ∀ z, Rep W H' b' w z → Q z H') b H2 (okv (vCut v lo hi) S)) : r_cut W x lo hi H2 Q := by
  cases q : vCut v lo hi with
  | none => rw [q] at f0; exact f0.elim
  | some w =>
    rw [q] at f0
    exact f_cut (fun p hp => e.fresh hp) ra q fun z H' k rz => f0 H' b (.grow e.st k) z rz
theorem se_cutL (hK : X.K = W.K) (ha : PE X a (tEr W g E (RW W) da)) (hl : PE X c (tEr W g E (RW W) db)) : PE X (.Subscript a (.Slice (some c) none none p2) pos) (tEv W g E (dCutL da db)) :=
  peI (pe_slice (o_cut hK) ha (po_some hl) po_none) fun σ H Q h => (two (Ra := RW W) (Rb := RW W) (k := fun _ v u S => onI u fun i => okv (vCut v (some i) none) S) stb_w h).imp fun _ _ _ _ _ q x rx => (q x rx).imp fun _ _ _ _ _ q' y ry => by
    obtain ⟨ρ, S, b, O, v, u, e1, ra, rb, f0⟩ := q' y ry
    cases u with
    | int i => cases rw_int rb; exact ⟨i, rfl, cut_end e1 ra f0⟩
    | _ => exact f0.elim
theorem se_cutH (hK : X.K = W.K) (ha : PE X a (tEr W g E (RW W) da)) (hl : PE X c (tEr W g E (RW W) db)) : PE X (.Subscript a (.Slice none (some c) none p2) pos) (tEv W g E (dCutH da db)) :=
  peI (pe_slice (o_cut hK) ha po_none (po_some hl)) fun σ H Q h => (two (Ra := RW W) (Rb := RW W) (k := fun _ v u S => onI u fun i => okv (vCut v none (some i)) S) stb_w h).imp fun _ _ _ _ _ q x rx => (q x rx).imp fun _ _ _ _ _ q' y ry => by
    obtain ⟨ρ, S, b, O, v, u, e1, ra, rb, f0⟩ := q' y ry
    cases u with
    | int i => cases rw_int rb; exact ⟨i, rfl, cut_end e1 ra f0⟩
    | _ => exact f0.elim
theorem se_cutB (hK : X.K = W.K) (ha : PE X a (tEr W g E (RW W) da)) (hl : PE X c (tEr W g E (RW W) db)) (hh : PE X d (tEr W g E (RW W) dc)) : PE X (.Subscript a (.Slice (some c) (some d) none p2) pos) (tEv W g E (dCutB da db dc)) :=
  peI (pe_slice (o_cut hK) ha (po_some hl) (po_some hh)) fun σ H Q h => (two (Ra := RW W) (Rb := RW W) (k := fun ρ v u S => onI u fun i => (dc ρ S).bnd fun w S3 => onI w fun j => okv (vCut v (some i) (some j)) S3) stb_w h).imp fun _ _ _ _ _ q x rx => (q x rx).imp fun _ _ _ _ _ q' y ry => by
    obtain ⟨ρ, S, b, O, v, u, e1, ra, rb, f0⟩ := q' y ry
    cases u with
    | int i =>
      cases rw_int rb
      refine ⟨i, rfl, ρ, S, b, O, e1, f0.bnd.imp fun w S3 H3 b3 dd q3 z rz => ?_⟩
      cases w with
      | int j => cases rw_int rz; exact ⟨j, rfl, cut_end (e1.adv dd) (stb_w dd.stp ra) q3⟩
      | _ => exact q3.elim
    | _ => exact f0.elim

/-! ### chains -/
theorem se_chain {op op' : CmpOp} {f f' : PV → PV → Option PV} {r r' : R2} (ho : OpR X (compareOp op) r) (ho' : OpR X (compareOp op') r') (hf : Op2 W (RW W) (RW W) f r) (hf' : Op2 W (RW W) (RW W) f' r') (hk : BlF f)
    (ha : PE X a (tEr W g E (RW W) da)) (hb : PE X c (tEr W g E (RW W) db)) (hc : PE X d (tEr W g E (RW W) dc)) (hm : lastMarks [op, op'] [c, d] = false) : PE X (.Compare a [op, op'] [c, d] pos) (tEv W g E (dChain f f' da db dc)) := by
  refine peI (pe_chain ho ho' ha hb hc hm) ?_
  intro σ H Q h
  refine (two (Ra := RW W) (Rb := RW W) (k := fun ρ v u S2 => match f v u with
    | some k => onBl k fun k => if k = true then (dc ρ S2).bnd fun w S3 => okv (f' u w) S3 else .ok (.bl false) S2
    | none => .bad) stb_w h).imp fun _ _ _ _ _ q x rx => (q x rx).imp fun _ _ H2 _ _ q' y ry => ?_
  obtain ⟨ρ, S, b, O, v, u, e1, ra, rb, f0⟩ := q' y ry
  cases hq : f v u with
  | none => rw [hq] at f0; exact f0.elim
  | some k =>
    rw [hq] at f0
    obtain ⟨c0, rfl⟩ := hk _ _ _ hq
    refine hf v u (.bl c0) x y H2 b _ (fun p hp => e1.fresh hp) ra rb hq fun z H' kk rz => ?_
    cases rz
    refine ⟨c0, rfl, ?_⟩
    have e2 := e1.adv (.grow e1.st kk)
    have f2 := fin.adv (.grow e1.st kk) f0
    have rb2 : RW W H' b u y := stb_w (Adv.grow e1.st kk).stp rb
    cases c0 with
    | true =>
      rw [if_pos rfl]
      refine ⟨ρ, S, b, O, e2, f2.bnd.imp fun w S3 H3 b3 dd q3 z rz => ?_⟩
      exact op2_end (g := g) (E := E) hf' ⟨ρ, S3, b3, O, u, w, e2.adv dd, stb_w dd.stp rb2, rz, q3⟩
    | false =>
      rw [if_neg Bool.false_ne_true]
      exact f2 H' b (.refl e2.st) _ (.bl false)
theorem bl_chain {f f' : PV → PV → Option PV} (hk : BlF f) (hk' : BlF f') : ∀ ρ S v S', dChain f f' da db dc ρ S = .ok v S' → ∃ k, v = .bl k := by
  intro ρ S v S' h
  unfold dChain at h
  cases q : da ρ S with
  | exc c v S' => rw [q] at h; cases h
  | bad => rw [q] at h; cases h
  | ok v1 S1 =>
    rw [q] at h
    cases q2 : db ρ S1 with
    | exc c v S' => simp only [Rs.bnd, q2] at h; cases h
    | bad => simp only [Rs.bnd, q2] at h; cases h
    | ok v2 S2 =>
      simp only [Rs.bnd, q2] at h
      cases q3 : f v1 v2 with
      | none => rw [q3] at h; cases h
      | some w =>
        rw [q3] at h
        obtain ⟨k, rfl⟩ := hk _ _ _ q3
        cases k with
        | false =>
          simp only [onBl, Bool.false_eq_true, if_false] at h
          cases h
          exact ⟨_, rfl⟩
        | true =>
          simp only [onBl, if_true] at h
          cases q4 : dc ρ S2 with
          | exc c v S' => rw [q4] at h; cases h
          | bad => rw [q4] at h; cases h
          | ok v3 S3 =>
            rw [q4] at h
            simp only at h
            cases q5 : f' v2 v3 with
            | none => rw [q5] at h; cases h
            | some w' =>
              rw [q5] at h
              obtain ⟨k, rfl⟩ := hk' _ _ _ q5
              cases h
              exact ⟨_, rfl⟩
theorem st_chain {op op' : CmpOp} {f f' : PV → PV → Option PV} {r r' : R2} (ho : OpR X (compareOp op) r) (ho' : OpR X (compareOp op') r') (hf : Op2 W (RW W) (RW W) f r) (hf' : Op2 W (RW W) (RW W) f' r') (hk : BlF f) (hk' : BlF f')
    (ha : PE X a (tEr W g E (RW W) da)) (hb : PE X c (tEr W g E (RW W) db)) (hc : PE X d (tEr W g E (RW W) dc)) (hm : lastMarks [op, op'] [c, d] = false) : PT X (.Compare a [op, op'] [c, d] pos) (tEt W g E (dChain f f' da db dc)) := by
  refine ptI (pt_chain ho ho' ha hb hc hm) ?_
  intro σ H Q h
  have h1 := tt_of (bl_chain hk hk') h
  refine (two (Ra := RW W) (Rb := RW W) (k := fun ρ v u S2 => match f v u with
    | some k => onBl k fun k => if k = true then (dc ρ S2).bnd fun w S3 => okv (f' u w) S3 else .ok (.bl false) S2
    | none => .bad) stb_w h1).imp fun _ _ _ _ _ q x rx => (q x rx).imp fun _ _ H2 _ _ q' y ry => ?_
  obtain ⟨ρ, S, b, O, v, u, e1, ra, rb, f0⟩ := q' y ry
  cases hq : f v u with
  | none => rw [hq] at f0; exact f0.elim
  | some k =>
    rw [hq] at f0
    obtain ⟨c0, rfl⟩ := hk _ _ _ hq
    refine hf v u (.bl c0) x y H2 b _ (fun p hp => e1.fresh hp) ra rb hq fun z H' kk rz => ?_
    cases rz
    refine ⟨c0, rfl, ?_⟩
    have e2 := e1.adv (.grow e1.st kk)
    have f2 := fin.adv (.grow e1.st kk) f0
    have rb2 : RW W H' b u y := stb_w (Adv.grow e1.st kk).stp rb
    cases c0 with
    | true =>
      rw [if_pos rfl]
      refine ⟨ρ, S, b, O, e2, f2.bnd.imp fun w S3 H3 b3 dd q3 z rz => ?_⟩
      exact op2_end (g := g) (E := E) hf' ⟨ρ, S3, b3, O, u, w, e2.adv dd, stb_w dd.stp rb2, rz, q3⟩
    | false =>
      rw [if_neg Bool.false_ne_true]
      exact f2 H' b (.refl e2.st) _ (.bl false)
end
/-! ### built-in functions of two things, methods of texts -/
def OpC2 (W : Wd) (f : PV → PV → Option PV) (r : List V → Hp → VK → Prop) : Prop :=
  ∀ (v u w : PV) (x y : V) (H : Hp) (b : Bn) (Q : VK), (∀ p, H p = none → ¬ b.no p) → RepW W H b v x → RepW W H b u y → f v u = some w →
    (∀ z H', (∀ a o, H a = some o → H' a = some o) → Rep W H' b w z → Q z H') → r [x, y] H Q
def OpM (W : Wd) (f : PV → PV → Option PV) (r : V → List V → Hp → VK → Prop) : Prop :=
  ∀ (v u w : PV) (x y : V) (H : Hp) (b : Bn) (Q : VK), (∀ p, H p = none → ¬ b.no p) → RepW W H b v x → RepW W H b u y → f v u = some w →
    (∀ z H', (∀ a o, H a = some o → H' a = some o) → Rep W H' b w z → Q z H') → r x [y] H Q
theorem opc2_end {f : PV → PV → Option PV} {r : List V → Hp → VK → Prop} (hf : OpC2 W f r) {σ : L2.St} {H2 : Hp} {x y : V} {Q : VK}
    (h : ∃ ρ S b O v u, EnvOk W g ρ S b O σ H2 ∧ RW W H2 b v x ∧ RW W H2 b u y ∧ fin W E (fun w _ H' b' => ∀ z, Rep W H' b' w z → Q z H') b H2 (okv (f v u) S)) : r [x, y] H2 Q := by
  obtain ⟨ρ, S, b, O, v, u, e, ra, rb, f0⟩ := h
  cases q : f v u with
  | none => rw [q] at f0; exact f0.elim
  | some w =>
    rw [q] at f0
    exact hf v u w x y H2 b Q (fun p hp => e.fresh hp) ra rb q fun z H' k rz => f0 H' b (.grow e.st k) z rz
theorem opm_end {f : PV → PV → Option PV} {r : V → List V → Hp → VK → Prop} (hf : OpM W f r) {σ : L2.St} {H2 : Hp} {x y : V} {Q : VK}
    (h : ∃ ρ S b O v u, EnvOk W g ρ S b O σ H2 ∧ RW W H2 b v x ∧ RW W H2 b u y ∧ fin W E (fun w _ H' b' => ∀ z, Rep W H' b' w z → Q z H') b H2 (okv (f v u) S)) : r x [y] H2 Q := by
  obtain ⟨ρ, S, b, O, v, u, e, ra, rb, f0⟩ := h
  cases q : f v u with
  | none => rw [q] at f0; exact f0.elim
  | some w =>
    rw [q] at f0
    exact hf v u w x y H2 b Q (fun p hp => e.fresh hp) ra rb q fun z H' k rz => f0 H' b (.grow e.st k) z rz
section
variable {x : Str} {p pos : Pos} {e c : Expr} {da db : Den} {f : PV → PV → Option PV} {r : List V → Hp → VK → Prop} {id : String}
theorem sb_fun2 (hc : CallR X (.builtin id) r) (hf : OpC2 W f r) (hg : Gl X x) (hm : X.mg x = none) (hv : bootBuiltins x = some (.builtin id)) (ha : PE X e (tEr W g E (RW W) da)) (hb : PE X c (tEr W g E (RW W) db)) (hn : x ≠ "__name__") (hdb : (x == ("__debug__" : Str)) = false)
    (hs : starEach [e, c] X.env = (false, eval e X.env) :: starEach [c] X.env := by rfl) (hs2 : starEach [c] X.env = (false, eval c X.env) :: starEach [] X.env := by rfl) (hpl : (backTo pos (starEach [c] X.env)).any (·.1) = false := by rfl) : PE X (.Call (.Name x p) [e, c] [] pos) (tEv W g E (dB2 f da db)) :=
  peI (pe_callB hc hg hm hv (pa_cons ha (pa_cons hb pa_nil hs2) hs) hn hdb hs hpl) fun σ H Q h => (two (Ra := RW W) (Rb := RW W) (k := fun _ v u S => okv (f v u) S) stb_w h).imp fun _ _ _ _ _ q x rx => (q x rx).imp fun _ _ _ _ _ q' y ry => opc2_end hf (q' y ry)
theorem sb_m1 {r : V → List V → Hp → VK → Prop} {name : Str} {apos : Pos} (slot : Slot "str" name id) (ty : typeOf (.builtin id) = pure (.type "method_descriptor")) (rule : MtR X id r) (hf : OpM W f r)
    (ha : PE X e (tEr W g E (RW W) da)) (hb : PE X c (tEr W g E (RW W) db)) (hline : (apos.endLine == pos.line) = true) (hbase : attributeBase e name X.env (eval e X.env) = eval e X.env)
    (hs : starEach [c] X.env = [(false, eval c X.env)] := by rfl) : PE X (.Call (.Attribute e name apos) [c] [] pos) (tEv W g E (dM1 f da db)) := by
  refine peI (pe_m1 slot ty rule ha hb hs hbase hline) ?_
  intro σ H Q h
  refine (tF.seq (k := fun ρ v S1 => onS v ((db ρ S1).bnd fun u S2 => okv (f v u) S2)) h).imp fun v S1 H1 b1 s1 ⟨ρ, O, e1, f0⟩ x rx => ?_
  cases v with
  | str s =>
    refine ⟨⟨_, rw_str rx⟩, ρ, S1, b1, O, e1, f0.bnd.imp fun u S2 H2 b2 dd q y ry => ?_⟩
    exact opm_end hf ⟨ρ, S2, b2, O, .str s, u, e1.adv dd, stb_w dd.stp rx, ry, q⟩
  | _ => exact f0.elim
/-! d.get(k), d.get(k, e) -/
theorem rw_dd {H : Hp} {b : Bn} {v : PV} {x : V} {ps : List (KP × PV)} (h : dOf v = some ps) (r : RepW W H b v x) : ∃ a xs, x = .ref a ∧ DRd W H a xs ∧ RepK W H b ps xs := by
  cases v <;> try cases h
  · exact rw_dct r
  · exact rw_kdc r
theorem kOf_of {H : Hp} {b : Bn} {u : PV} {y : V} {k : KP} (h : kOf u = some k) (r : RepW W H b u y) : y = kV (kK k) := by
  cases u <;> try cases h
  · exact rw_int r
  · exact rw_str r
/-- what a look finds -/
theorem get_end {H : Hp} {b : Bn} {v u d w : PV} {x y z : V} {Q : VK} (h : mGet2 v u d = some w) (rv : RepW W H b v x) (ru : RepW W H b u y) (rd : Rep W H b d z) (q : ∀ z', Rep W H b w z' → Q z' H) :
    ∀ a, x = .ref a → ∃ kvs k, y = kV k ∧ DRd W H a kvs ∧ Q ((valV kvs k).getD z) H := by
  rintro a rfl
  unfold mGet2 at h
  cases q1 : dOf v with
  | none => simp only [q1] at h; cases h
  | some ps =>
    cases q2 : kOf u with
    | none => simp only [q1, q2] at h; cases h
    | some k =>
      simp only [q1, q2, Option.some.injEq] at h
      obtain ⟨a', xs, e, e2, r2⟩ := rw_dd q1 rv
      cases e
      refine ⟨xs, kK k, kOf_of q2 ru, e2, ?_⟩
      cases hq : dLook k ps with
      | none =>
        rw [dLook_none k r2 hq]
        rw [hq] at h
        exact q _ (h ▸ rd)
      | some w' =>
        obtain ⟨z', hz, rz⟩ := dLook_of k r2 hq
        rw [hz]
        rw [hq] at h
        exact q _ (h ▸ rz)
theorem sb_get {apos : Pos} (hP : X.prog = W.P) (hw : X.w = W.w) (hK : X.K = W.K) (ha : PE X e (tEr W g E (RW W) da)) (hb : PE X c (tEr W g E (RW W) db)) (m : M1 X e "get" apos c pos) :
    PE X (.Call (.Attribute e "get" apos) [c] [] pos) (tEv W g E (dMD mGet da db)) := by
  refine ⟨fun pins s σ H Q I h => ?_⟩
  have h1 := (tF.seq (k := fun ρ v S1 => onD v ((db ρ S1).bnd fun u S2 => okv (mGet v u) S2)) h)
  have h2 : tEr W g E (RW W) da σ H fun x H1 => ∃ a, x = .ref a ∧ (∃ kvs, DRd W H1 a kvs) ∧ tEr W g E (RW W) db σ H1 fun y H2 => ∃ kvs k, y = kV k ∧ DRd W H2 a kvs ∧ Q ((valV kvs k).getD .non) H2 := by
    refine h1.imp fun v S1 H1 b1 s1 ⟨ρ, O, e1, f0⟩ x rx => ?_
    unfold onD at f0
    cases q1 : dOf v with
    | none => simp only [q1] at f0; exact f0.elim
    | some ps =>
      simp only [q1] at f0
      obtain ⟨a, xs, rfl, e2, r2⟩ := rw_dd q1 rx
      refine ⟨a, rfl, ⟨xs, e2⟩, ρ, S1, b1, O, e1, f0.bnd.imp fun u S2 H2 b2 dd q y ry => ?_⟩
      cases hm : mGet v u with
      | none => rw [hm] at q; exact q.elim
      | some w =>
        rw [hm] at q
        exact get_end hm (stb_w dd.stp rx) ry .non (fun z rz => q H2 b2 (.refl dd.st) z rz) a rfl
  refine wpAny_Call_method m.base m.few m.line PySem.F.plainAttrs_dict PySem.F.slot_dict_get PySem.F.type_dict_get (thn (ha.run pins s σ H _ I h2) fun u s1 ⟨x, H1, I1, rx, a, ex, ⟨kvs0, d⟩, q1⟩ => ?_)
  subst ex
  obtain rfl : u = Value.ref a := rx
  obtain ⟨_, _, vs0, _, dd0⟩ := drd_at hP hw hK I1 d
  refine ⟨dd0.typeIs, ?_, ?_⟩
  · intro c' hc'
    cases hc'
    obtain ⟨ob, _, _, o1, o2, _⟩ := dd0
    exact ⟨ob, o1, o2.2.1⟩
  rw [m.trees]
  refine Calls.callWith_builtin rfl (Calls.evalArgs_plain (Calls.spliced_cons (thn (hb.run pins s1 σ H1 _ I1 q1) fun iv s2 ⟨y, H2, I2, ry, kvs, k, ey, d2, q2⟩ => Calls.spliced_nil ?_)))
  subst ey
  obtain ⟨_, h1', vs, rel, dd⟩ := drd_at hP hw hK I2 d2
  exact call_meetsIn PySem.F.slot_dict_get dd.typeIs PySem.F.entry_dict_get (PySem.F.args_dict_get_2 _ _) (meets_dict_get (mixKind X.prog X.w) a (kV_is ry) h1') ⟨_, dd.mapOf, ⟨_, H2, I2.tok _, (rel.val k).getD (d := V.non) (d' := Value.none) rfl, q2⟩⟩
theorem sb_get2 {apos : Pos} {f : Expr} {df : Den} (hP : X.prog = W.P) (hw : X.w = W.w) (hK : X.K = W.K) (ha : PE X e (tEr W g E (RW W) da)) (hb : PE X c (tEr W g E (RW W) db)) (hf : PE X f (tEr W g E (RS W) df)) (m : M2 X e "get" apos c f pos) :
    PE X (.Call (.Attribute e "get" apos) [c, f] [] pos) (tEv W g E (dMD2 mGet2 da db df)) := by
  refine ⟨fun pins s σ H Q I h => ?_⟩
  have h1 := (tF.seq (k := fun ρ v S1 => onD v ((db ρ S1).bnd fun u S2 => (df ρ S2).bnd fun w S3 => okv (mGet2 v u w) S3)) h)
  have h2 : tEr W g E (RW W) da σ H fun x H1 => ∃ a, x = .ref a ∧ (∃ kvs, DRd W H1 a kvs) ∧ tEr W g E (RW W) db σ H1 fun y H2 => tEr W g E (RS W) df σ H2 fun z H3 => ∃ kvs k, y = kV k ∧ DRd W H3 a kvs ∧ Q ((valV kvs k).getD z) H3 := by
    refine h1.imp fun v S1 H1 b1 s1 ⟨ρ, O, e1, f0⟩ x rx => ?_
    unfold onD at f0
    cases q1 : dOf v with
    | none => simp only [q1] at f0; exact f0.elim
    | some ps =>
      simp only [q1] at f0
      obtain ⟨a, xs, rfl, e2, r2⟩ := rw_dd q1 rx
      refine ⟨a, rfl, ⟨xs, e2⟩, ?_⟩
      refine ⟨ρ, S1, b1, O, e1, f0.bnd.imp fun u S2 H2 b2 dd q y ry => ⟨ρ, S2, b2, O, e1.adv dd, q.bnd.imp fun w S3 H3 b3 d3 q3 z rz => ?_⟩⟩
      cases hm : mGet2 v u w with
      | none => rw [hm] at q3; exact q3.elim
      | some r =>
        rw [hm] at q3
        exact get_end hm (stb_w d3.stp (stb_w dd.stp rx)) (stb_w d3.stp ry) rz (fun z rz => q3 H3 b3 (.refl d3.st) z rz) a rfl
  refine wpAny_Call_method m.base m.few m.line PySem.F.plainAttrs_dict PySem.F.slot_dict_get PySem.F.type_dict_get (thn (ha.run pins s σ H _ I h2) fun u s1 ⟨x, H1, I1, rx, a, ex, ⟨kvs0, d⟩, q1⟩ => ?_)
  subst ex
  obtain rfl : u = Value.ref a := rx
  obtain ⟨_, _, vs0, _, dd0⟩ := drd_at hP hw hK I1 d
  refine ⟨dd0.typeIs, ?_, ?_⟩
  · intro c' hc'
    cases hc'
    obtain ⟨ob, _, _, o1, o2, _⟩ := dd0
    exact ⟨ob, o1, o2.2.1⟩
  rw [m.trees]
  refine Calls.callWith_builtin rfl (Calls.evalArgs_plain (Calls.spliced_cons (thn (hb.run pins s1 σ H1 _ I1 q1) fun iv s2 ⟨y, H2, I2, ry, q2⟩ => Calls.spliced_cons (thn (hf.run pins s2 σ H2 _ I2 q2) fun jv s3 ⟨z, H3, I3, rz, kvs, k, ey, d2, q3⟩ => Calls.spliced_nil ?_))))
  subst ey
  obtain ⟨_, h1', vs, rel, dd⟩ := drd_at hP hw hK I3 d2
  exact call_meetsIn PySem.F.slot_dict_get dd.typeIs PySem.F.entry_dict_get (PySem.F.args_dict_get_3 _ _ _) (meets_dict_get_default (mixKind X.prog X.w) a (kV_is ry) h1' jv) ⟨_, dd.mapOf, ⟨_, H3, I3.tok _, (rel.val k).getD rz, q3⟩⟩
end
/-! ### the methods -/
def r_join (W : Wd) : V → List V → Hp → VK → Prop := fun x xs H Q => ∃ a p, ∃ ys : List Str, x = .str a ∧ xs = [.ref p] ∧ (SqL W.K H p (ys.map V.str) ∨ SqT W.K H p (ys.map V.str)) ∧ (ys.map (·.length)).sum + ys.length * a.length ≤ 16777216 ∧ Q (.str (Txt.join a ys)) H
theorem o_join (hK : X.K = W.K) : MtR X "str.join" (r_join W) := by
  unfold r_join
  rw [← hK]
  exact mt_join
theorem f_join : OpM W mJoin (r_join W) := by
  intro v u w x y H b Q hf rv ru hw k
  unfold mJoin at hw
  split at hw
  · split at hw
    · rename_i ys hy
      split at hw
      · rename_i hl
        cases hw; cases rw_str rv
        obtain ⟨a, xs, rfl, e1, r1⟩ := rw_lst ru
        have := asStrs_of r1 hy
        subst this
        refine ⟨_, a, ys.map SX.S, rfl, rfl, .inl (e1), by rw [SX.lens, List.length_map, lenL]; exact hl, ?_⟩
        rw [show (⟨_⟩ : Str) = SX.S _ from rfl, SX.join_S]
        exact k _ H (fun _ _ e => e) (.str _)
      · cases hw
    · cases hw
  · split at hw
    · rename_i ys hy
      split at hw
      · rename_i hl
        cases hw; cases rw_str rv
        obtain ⟨a, xs, rfl, e1, r1, _⟩ := rw_tup ru
        have := asStrs_of r1 hy
        subst this
        refine ⟨_, a, ys.map SX.S, rfl, rfl, .inr e1, by rw [SX.lens, List.length_map, lenL]; exact hl, ?_⟩
        rw [show (⟨_⟩ : Str) = SX.S _ from rfl, SX.join_S]
        exact k _ H (fun _ _ e => e) (.str _)
      · cases hw
    · cases hw
  · cases hw
theorem reps_strs {H : Hp} {b : Bn} : ∀ l : List (List Nat), Reps W H b (l.map PV.str) ((l.map SX.S).map V.str)
  | [] => .nil
  | s :: r => .cons (.str s) (reps_strs r)
def r_split : V → List V → Hp → VK → Prop := fun x xs H Q => ∃ a b, x = .str a ∧ xs = [.str b] ∧ (b.length == 0) = false ∧ a.length + 2 ≤ sizeLine ∧ rNewStrs (Txt.split a b) H Q
theorem f_split : OpM W mSplit r_split := by
  intro v u w x y H b Q hf rv ru hw k
  unfold mSplit at hw
  split at hw
  · rename_i a c
    split at hw
    · rename_i hl
      simp only [Bool.and_eq_true, decide_eq_true_eq, Bool.not_eq_true', List.isEmpty_eq_false_iff] at hl
      cases hw; cases rw_str rv; cases rw_str ru
      refine ⟨_, _, rfl, rfl, ?_, by rw [lenL]; exact hl.2, ?_⟩
      · rw [lenL]
        have := hl.1.1
        cases c with
        | nil => exact absurd rfl this
        | cons _ _ => rfl
      · rw [show (⟨a.toArray⟩ : Str) = SX.S a from rfl, show (⟨c.toArray⟩ : Str) = SX.S c from rfl, SX.split_S hl.1.1 hl.1.2]
        intro p hp
        exact k _ _ (same_upd hp) (.lst (.inl ⟨hf p hp, .inl upd_same⟩) (reps_strs _))
    · cases hw
  · cases hw
def r_part : V → List V → Hp → VK → Prop := fun x xs H Q => ∃ a b, x = .str a ∧ xs = [.str b] ∧ ((b.length == 0) = false ∧ a.length ≤ sizeLine) ∧ NewT (partV a b) H Q
theorem f_part : OpM W mPart r_part := by
  intro v u w x y H b Q hf rv ru hw k
  unfold mPart at hw
  split at hw
  · rename_i a c
    split at hw
    · rename_i hl
      simp only [Bool.and_eq_true, decide_eq_true_eq, Bool.not_eq_true', List.isEmpty_eq_false_iff] at hl
      cases rw_str rv; cases rw_str ru
      refine ⟨_, _, rfl, rfl, ⟨?_, by rw [lenL]; exact hl.2⟩, ?_⟩
      · rw [lenL]
        have := hl.1
        cases c with
        | nil => exact absurd rfl this
        | cons _ _ => rfl
      · intro p o hp ho
        unfold partV
        cases hq : TL.par c [] a with
        | none =>
          rw [hq] at hw; cases hw
          rw [show (⟨a.toArray⟩ : Str) = SX.S a from rfl, show (⟨c.toArray⟩ : Str) = SX.S c from rfl, SX.partition_none hl.1 hq]
          exact k _ _ (same_upd hp) (.tup (.inl ⟨hf p hp, o, upd_same, ho⟩) (.cons (.str a) (.cons (.str []) (.cons (.str []) .nil))))
        | some pq =>
          obtain ⟨p1, q1⟩ := pq
          rw [hq] at hw; cases hw
          rw [show (⟨a.toArray⟩ : Str) = SX.S a from rfl, show (⟨c.toArray⟩ : Str) = SX.S c from rfl, SX.partition_some hl.1 hq]
          exact k _ _ (same_upd hp) (.tup (.inl ⟨hf p hp, o, upd_same, ho⟩) (.cons (.str p1) (.cons (.str c) (.cons (.str q1) .nil))))
    · cases hw
  · cases hw
theorem f_max2 : OpC2 W vMax (fun xs H Q => ∃ i j, xs = [.int i, .int j] ∧ Q (.int (if j > i then j else i)) H) := by
  intro v u w x y H b Q hf rv ru hw k
  unfold vMax at hw
  split at hw
  · cases hw; cases rw_int rv; cases rw_int ru
    exact ⟨_, _, rfl, k _ H (fun _ _ e => e) (.int _)⟩
  · cases hw
theorem f_min2 : OpC2 W vMin (fun xs H Q => ∃ i j, xs = [.int i, .int j] ∧ Q (.int (if j < i then j else i)) H) := by
  intro v u w x y H b Q hf rv ru hw k
  unfold vMin at hw
  split at hw
  · cases hw; cases rw_int rv; cases rw_int ru
    exact ⟨_, _, rfl, k _ H (fun _ _ e => e) (.int _)⟩
  · cases hw
end
end Tg
end
section
set_option Elab.async false
set_option linter.all false
set_option autoImplicit false
set_option maxRecDepth 100000
/-! what is walked -/
namespace Tg
open PySem PySem.Spec PyProof.Rows L2
/-- what stands unbanned stays so -/
structure Kp (b b' : Bn) (H H' : Hp) : Prop where
  k : ∀ a o, H a = some o → ¬ b.no a → (∃ o', H' a = some o' ∧ Kd o o') ∧ ¬ b'.no a
  m : ∃ l, b'.m = b.m ++ l
theorem Kp.of {b b' : Bn} {H H' : Hp} (k : ∀ a o, H a = some o → ¬ b.no a → H' a = some o ∧ ¬ b'.no a) (m : ∃ l, b'.m = b.m ++ l) : Kp b b' H H' := ⟨fun a o e n => ⟨⟨o, (k a o e n).1, .refl⟩, (k a o e n).2⟩, m⟩
theorem Kp.ban {b b' : Bn} {H H' : Hp} (s : Kp b b' H H') {a : Addr} {o : HO} (e : H a = some o) (n : ¬ b.no a) : ¬ b'.no a := (s.k a o e n).2
theorem Kp.keepL {b b' : Bn} {H H' : Hp} (s : Kp b b' H H') {a : Addr} {xs : List V} (e : H a = some (.lst xs)) (n : ¬ b.no a) : H' a = some (.lst xs) := by
  obtain ⟨⟨o', q, k⟩, _⟩ := s.k a _ e n
  rw [k.lst] at q; exact q
theorem Kp.keepT {b b' : Bn} {H H' : Hp} (s : Kp b b' H H') {a : Addr} {xs : List V} (e : H a = some (.tup xs)) (n : ¬ b.no a) : H' a = some (.tup xs) := by
  obtain ⟨⟨o', q, k⟩, _⟩ := s.k a _ e n
  rw [k.tup] at q; exact q
theorem Kp.keepP {b b' : Bn} {H H' : Hp} (s : Kp b b' H H') {a : Addr} {xs : List V} (e : PTu H a xs) (n : ¬ b.no a) : ¬ b'.no a ∧ PTu H' a xs := by
  obtain ⟨o, e, hd⟩ := e
  obtain ⟨⟨o', q, k⟩, h⟩ := s.k a _ e n
  rw [k.frz] at q
  exact ⟨h, o, q, hd⟩
theorem Kp.keepR {b b' : Bn} {H H' : Hp} (s : Kp b b' H H') {a : Addr} {xs : List V} (e : Rd H a (.lst xs)) (n : ¬ b.no a) : ¬ b'.no a ∧ Rd H' a (.lst xs) := by
  rcases e with e | ⟨o, e⟩
  · exact ⟨(s.k a _ e n).2, .inl (s.keepL e n)⟩
  · obtain ⟨⟨o', q, k⟩, h⟩ := s.k a _ e n
    rw [k.frz] at q
    exact ⟨h, .inr ⟨o, q⟩⟩
theorem Kp.keepD {b b' : Bn} {H H' : Hp} (s : Kp b b' H H') {a : Addr} {kvs : List (Key × V)} (e : Rd H a (.dK kvs)) (n : ¬ b.no a) : ¬ b'.no a ∧ Rd H' a (.dK kvs) := by
  rcases e with e | ⟨od, e⟩
  · obtain ⟨⟨o', q, k⟩, h⟩ := s.k a _ e n
    exact ⟨h, Kd.dict (.inl rfl) k q⟩
  · obtain ⟨⟨o', q, k⟩, h⟩ := s.k a _ e n
    exact ⟨h, Kd.dict (.inr ⟨od, rfl⟩) k q⟩
section
variable {W : Wd}
mutual
theorem Rep.kp {b b' : Bn} {H H' : Hp} (s : Kp b b' H H') : ∀ {p : PV} {x : V}, Rep W H b p x → Rep W H' b' p x
  | _, _, .non => .non
  | _, _, .bl x => .bl x
  | _, _, .int i => .int i
  | _, _, .str z => .str z
  | _, _, .tup (.inl ⟨n, e⟩) r => .tup (.inl (s.keepP e n)) (Reps.kp s r)
  | _, _, .tup (.inr k) r => .tup (.inr k) (Reps.kp s r)
  | _, _, .lst (.inl ⟨n, e⟩) r => .lst (.inl (s.keepR e n)) (Reps.kp s r)
  | _, _, .lst (.inr k) r => .lst (.inr k) (Reps.kp s r)
  | _, _, .dct ⟨n, e⟩ r => .dct (s.keepD e n) (RepK.kp s r)
  | _, _, .kdc k r => .kdc k (RepK.kp s r)
  | _, _, .fn i => .fn i
  | _, _, .cell e => .cell (by
      obtain ⟨l, q⟩ := s.m
      rw [q]
      have := (List.getElem?_eq_some_iff.mp e).1
      rw [List.getElem?_append_left this]
      exact e)
theorem Reps.kp {b b' : Bn} {H H' : Hp} (s : Kp b b' H H') : ∀ {p : List PV} {x : List V}, Reps W H b p x → Reps W H' b' p x
  | _, _, .nil => .nil
  | _, _, .cons r t => .cons (Rep.kp s r) (Reps.kp s t)
theorem RepK.kp {b b' : Bn} {H H' : Hp} (s : Kp b b' H H') : ∀ {p : List (KP × PV)} {x : List (Key × V)}, RepK W H b p x → RepK W H' b' p x
  | _, _, .nil => .nil
  | _, _, .cons r t => .cons (Rep.kp s r) (RepK.kp s t)
end
end
theorem Kp.refl {b : Bn} {H : Hp} : Kp b b H H := .of (fun _ _ e n => ⟨e, n⟩) ⟨[], by simp⟩
theorem Kp.trans {b b1 b2 : Bn} {H H1 H2 : Hp} (s : Kp b b1 H H1) (t : Kp b1 b2 H1 H2) : Kp b b2 H H2 :=
  ⟨fun a o e n => (by
    obtain ⟨⟨o1, q1, k1⟩, n1⟩ := s.k a o e n
    obtain ⟨⟨o2, q2, k2⟩, n2⟩ := t.k a o1 q1 n1
    exact ⟨⟨o2, q2, k1.trans k2⟩, n2⟩), by
    obtain ⟨l, e⟩ := s.m
    obtain ⟨l', e'⟩ := t.m
    exact ⟨l ++ l', by rw [e', e, List.append_assoc]⟩⟩
theorem Stp.kp {b b' : Bn} {H H' : Hp} (s : Stp b b' H H') : Kp b b' H H' := ⟨fun a o e n => (by
  obtain ⟨o', q, k, _⟩ := s.keep a o e fun h => n (.inr h)
  exact ⟨⟨o', q, k⟩, s.ban e n⟩), s.m⟩

/-- an item that is handed out: a value, or (w) a pair that no one keeps -/
def RepB (W : Wd) (w : Bool) : RR := fun H b p x => Rep W H b p x ∨ (w = true ∧ ∃ ps a xs, p = .tup ps ∧ x = .ref a ∧ H a = some (.tup xs) ∧ Reps W H b ps xs)
/-- what J yields is ps, as long as what is told stays -/
def SrcOk (W : Wd) (w : Bool) (J : It) (H : Hp) (b : Bn) (ps : List PV) : Prop := ∀ H' b', Kp b b' H H' → (∀ p, H' p = none → ¬ b'.no p) → ∀ i,
  (∀ p, ps[i]? = some p → J.go i H' ∧ ∀ x H'', J.yld i H' x H'' → (∀ a o, H' a = some o → H'' a = some o) ∧ RepB W w H'' b' p x) ∧ (ps.length ≤ i → J.stop i H')
section
variable {X : Cx} {W : Wd} {g : Gh} {E : XK} {tg : Expr}
/-- the reading of a source -/
def tI (W : Wd) (w : Bool) (g : Gh) (E : XK) (d : Den) : TI := fun σ H R => tF W g E d (fun v _ H1 b1 => ∀ J, SrcOk W w J H1 b1 (asL v) → R J H1) σ H

theorem src_list {H : Hp} {b : Bn} {ps : List PV} {a : Addr} (r : Rep W H b (.lst ps) (.ref a)) : SrcOk W false (Itl W.K a) H b ps := by
  intro H' b' k _ i
  have r' := r.kp k
  cases r' with
  | lst e rs =>
    refine ⟨fun p hp => ?_, fun hi => ⟨_, lst_sq e, rs.length ▸ hi⟩⟩
    obtain ⟨x, hx, rx⟩ := rs.get hp
    refine ⟨⟨_, x, lst_sq e, hx⟩, fun x' H'' y => ?_⟩
    obtain ⟨rfl, y⟩ := y
    have := y _ (lst_sq e)
    rw [hx] at this
    cases this
    exact ⟨fun _ _ e => e, .inl rx⟩
theorem src_tup {H : Hp} {b : Bn} {ps : List PV} {a : Addr} (r : Rep W H b (.tup ps) (.ref a)) : SrcOk W false (Itt W.K a) H b ps := by
  intro H' b' k _ i
  have r' := r.kp k
  cases r' with
  | @tup _ xs _ n rs =>
    have sq : SqT W.K H' a xs := by
      rcases n with ⟨_, e⟩ | n
      · exact e.sq _
      · exact n.sq
    refine ⟨fun p hp => ?_, fun hi => ⟨_, sq, rs.length ▸ hi⟩⟩
    obtain ⟨x, hx, rx⟩ := rs.get hp
    refine ⟨⟨_, x, sq, hx⟩, fun x' H'' y => ?_⟩
    obtain ⟨rfl, y⟩ := y
    have := y _ sq
    rw [hx] at this
    cases this
    exact ⟨fun _ _ e => e, .inl rx⟩
def signs (s : List Nat) : List PV := s.map fun c => .str [c]
theorem src_str {H : Hp} {b : Bn} {s : List Nat} : SrcOk W false (Its ⟨s.toArray⟩) H b (signs s) := by
  intro H' b' k _ i
  refine ⟨fun p hp => ?_, fun hi => ?_⟩
  · unfold signs at hp
    rw [List.getElem?_map] at hp
    cases q : s[i]? with
    | none => rw [q] at hp; cases hp
    | some c =>
      rw [q] at hp
      cases hp
      refine ⟨?_, fun x H'' y => ?_⟩
      · show i < s.toArray.size
        have := (List.getElem?_eq_some_iff.mp q).1
        simpa using this
      · obtain ⟨rfl, c', h1, rfl⟩ := y
        have h1 : s.toArray[i]? = some c' := h1
        rw [List.getElem?_toArray, q] at h1
        cases h1
        exact ⟨fun _ _ e => e, .inl (.str [c])⟩
  · show s.toArray.size ≤ i
    simpa [signs] using hi
/-- a list, a tuple, a text -/
def sqOf : PV → Option (List PV)
  | .lst l => some l
  | .tup l => some l
  | .str s => some (signs s)
  | _ => none
def okL (o : Option (List PV)) (S : Store) : Rs PV := match o with
  | some l => .ok (.lst l) S
  | none => .bad
def dSeq (d : Den) : Den := fun ρ S => (d ρ S).bnd fun v S1 => okL (sqOf v) S1
theorem si_seq {e : Expr} {d : Den} (hK : X.K = W.K) (he : PE X e (tEv W g E d)) : PI X tg e (tI W false g E (dSeq d)) := by
  refine ⟨fun pins s σ H R I h => ?_⟩
  obtain ⟨ρ, S, b, O, en, f⟩ := h
  unfold dSeq at f
  cases q : d ρ S with
  | bad => rw [q] at f; exact f.elim
  | exc c v S1 =>
    rw [q] at f
    refine (pi_list (tg := tg) he).run pins s σ H R I ⟨ρ, S, b, O, en, ?_⟩
    rw [q]
    exact f
  | ok v S1 =>
    rw [q] at f
    cases v with
    | lst ps =>
      refine (pi_list (tg := tg) he).run pins s σ H R I ⟨ρ, S, b, O, en, ?_⟩
      rw [q]
      intro H' b' dd x rx
      have rx0 := rx
      cases rx with
      | lst e r => exact ⟨_, rfl, ⟨_, hK ▸ lst_sq e⟩, hK ▸ f H' b' dd _ (src_list rx0)⟩
    | tup ps =>
      refine (pi_tup (tg := tg) he).run pins s σ H R I ⟨ρ, S, b, O, en, ?_⟩
      rw [q]
      intro H' b' dd x rx
      have rx0 := rx
      cases rx with
      | tup n r =>
        refine ⟨_, rfl, ?_, hK ▸ f H' b' dd _ (src_tup rx0)⟩
        rw [hK]
        rcases n with ⟨_, e⟩ | n
        · exact ⟨_, e.sq _⟩
        · exact ⟨_, n.sq⟩
    | str z =>
      refine (pi_str (tg := tg) he).run pins s σ H R I ⟨ρ, S, b, O, en, ?_⟩
      rw [q]
      intro H' b' dd x rx
      cases rx
      exact ⟨_, rfl, f H' b' dd _ src_str⟩
    | _ => exact f.elim

/-! ### range -/
def rngL (lo : Int) (n : Nat) : List PV := (List.range n).map fun (k : Nat) => .int (lo + k)
theorem src_rng {H : Hp} {b : Bn} {lo : Int} {n : Nat} : SrcOk W false (Itr lo n) H b (rngL lo n) := by
  intro H' b' k _ i
  refine ⟨fun p hp => ?_, fun hi => (by simpa [rngL] using hi : n ≤ i)⟩
  unfold rngL at hp
  rw [List.getElem?_map] at hp
  by_cases hi : i < n
  · rw [List.getElem?_range hi] at hp
    cases hp
    refine ⟨hi, fun x H'' y => ?_⟩
    obtain ⟨rfl, rfl⟩ := y
    exact ⟨fun _ _ e => e, .inl (.int _)⟩
  · rw [List.getElem?_eq_none (by simpa using hi)] at hp
    cases hp
def rgOk (i : Int) : Bool := decide (-(2 ^ 62) ≤ i) && decide (i < 2 ^ 62)
def rng1 : List PV → Option (List PV)
  | [.int j] => if rgOk j = true then some (rngL 0 j.toNat) else none
  | _ => none
def rng2 : List PV → Option (List PV)
  | [.int i, .int j] => if (rgOk i && rgOk j) = true then some (rngL i (j - i).toNat) else none
  | _ => none
def dSrc (f : List PV → Option (List PV)) (d : Den) : Den := fun ρ S => (d ρ S).bnd fun v S1 => okL (f (asL v)) S1
theorem rgOk_of {i : Int} (h : rgOk i = true) : -(2 ^ 62) ≤ i ∧ i < 2 ^ 62 := by
  unfold rgOk at h
  rw [Bool.and_eq_true, decide_eq_true_eq, decide_eq_true_eq] at h
  exact h
theorem si_rng1 {a : Expr} {d : Den} {p pos : Pos} (hg : Gl X "range") (hm : X.mg "range" = none) (ha : PA X [a] (tEa W g E d)) (hs : starEach [a] X.env = [(false, eval a X.env)] := by rfl) :
    PI X tg (.Call (.Name "range" p) [a] [] pos) (tI W false g E (dSrc rng1 d)) := by
  refine ⟨fun pins s σ H R I h => (pi_range1 hg hm ha hs).run pins s σ H R I ?_⟩
  refine (tF.seq (k := fun _ v S1 => okL (rng1 (asL v)) S1) h).imp fun v S1 H1 b1 s1 ⟨ρ, O, e1, f⟩ xs rs => ?_
  unfold rng1 at f
  split at f
  · rename_i j q
    rw [q] at rs
    split at f
    · rename_i hj
      cases rs with
      | cons r t =>
        cases r
        cases t
        exact ⟨j, rfl, (rgOk_of hj).1, (rgOk_of hj).2, f H1 b1 (.refl s1) _ src_rng⟩
    · exact f.elim
  · exact f.elim
theorem si_rng2 {a c : Expr} {d : Den} {p pos : Pos} (hg : Gl X "range") (hm : X.mg "range" = none) (ha : PA X [a, c] (tEa W g E d)) (hs : starEach [a, c] X.env = [(false, eval a X.env), (false, eval c X.env)] := by rfl) (hs2 : starEach [c] X.env = [(false, eval c X.env)] := by rfl) :
    PI X tg (.Call (.Name "range" p) [a, c] [] pos) (tI W false g E (dSrc rng2 d)) := by
  refine ⟨fun pins s σ H R I h => (pi_range2 hg hm ha hs hs2).run pins s σ H R I ?_⟩
  refine (tF.seq (k := fun _ v S1 => okL (rng2 (asL v)) S1) h).imp fun v S1 H1 b1 s1 ⟨ρ, O, e1, f⟩ xs rs => ?_
  unfold rng2 at f
  split at f
  · rename_i i j q
    rw [q] at rs
    split at f
    · rename_i hj
      rw [Bool.and_eq_true] at hj
      cases rs with
      | cons r t =>
        cases r
        cases t with
        | cons r t =>
          cases r
          cases t
          exact ⟨i, j, rfl, ⟨(rgOk_of hj.1).1, (rgOk_of hj.1).2, (rgOk_of hj.2).1, (rgOk_of hj.2).2⟩, f H1 b1 (.refl s1) _ src_rng⟩
    · exact f.elim
  · exact f.elim
end
end Tg
end
section
set_option Elab.async false
set_option linter.all false
set_option maxRecDepth 100000
/-! zip, enumerate -/
namespace Tg
open PySem PySem.Spec PyProof.Rows L2
theorem sub5 {z TI TO i1 i2 c : Addr} (h : c ∉ [z, TI, TO, i1, i2]) : c ∉ [z, TO, i1, i2] := fun q => h (by
  simp only [List.mem_cons, List.not_mem_nil, or_false] at q ⊢
  rcases q with q | q | q | q
  · exact .inl q
  · exact .inr (.inr (.inl q))
  · exact .inr (.inr (.inr (.inl q)))
  · exact .inr (.inr (.inr (.inr q))))
/-- the signs of two texts, in new pairs -/
def ItzS (x y : Str) : It :=
  ⟨fun i _ => i < min x.cps.size y.cps.size, fun i H v H' => ∃ T c d, v = .ref T ∧ H T = none ∧ H' = upd H T (.tup [.str ⟨#[c]⟩, .str ⟨#[d]⟩]) ∧ x.cps[i]? = some c ∧ y.cps[i]? = some d, fun i _ => min x.cps.size y.cps.size ≤ i⟩
theorem turn_zipS {P : Program} {w : World} {K : PySem.W.Frag} {elts : List Expr} {kk : Nat} {tpos : Pos} {x y : Str} {t u : Tok} {z TI TO i1 i2 : Addr} (S : ZipSep2 z TI TO i1 i2 [i1] [i2]) :
    Turn P w K (.Tuple elts kk tpos) (ItzS x y) [z, TI, TO, i1, i2] z (fun i h => i ≤ min x.cps.size y.cps.size ∧ IsZip h z TI TO .none ∧ IsTupOf2 h TI (.ref i1) (.ref i2) ∧ (∃ a1 a2, IsTupOf2 h TO a1 a2) ∧ h.IsStrIter i1 (strIterType x) x t i ∧ h.IsStrIter i2 (strIterType y) y u i) where
  mem := by simp
  obj := fun i h st c hc => by
    obtain ⟨_, hz, hTI, ⟨x, y, hTO⟩, ⟨o1, e1, _, d1⟩, ⟨o2, e2, _, d2⟩⟩ := st
    have e' : c = z ∨ c = TI ∨ c = TO ∨ c = i1 ∨ c = i2 := by simpa using hc
    rcases e' with q | q | q | q | q
    · rw [q]; exact ⟨_, hz, fun v q => nomatch q⟩
    · rw [q]; exact ⟨_, hTI, fun v q => nomatch q⟩
    · rw [q]; exact ⟨_, hTO, fun v q => nomatch q⟩
    · rw [q]; exact ⟨o1, e1, fun v q => by rw [d1] at q; cases q⟩
    · rw [q]; exact ⟨o2, e2, fun v q => by rw [d2] at q; cases q⟩
  keep := fun i h h' st k => by
    obtain ⟨hi, hz, hTI, ⟨x, y, hTO⟩, ⟨o1, e1, r1⟩, ⟨o2, e2, r2⟩⟩ := st
    exact ⟨hi, k z (by simp) _ hz, k TI (by simp) _ hTI, ⟨x, y, k TO (by simp) _ hTO⟩, ⟨o1, k i1 (by simp) _ e1, r1⟩, ⟨o2, k i2 (by simp) _ e2, r2⟩⟩
  item := by
    intro X hP hw hK hc i pins s σ H E I hf st hg
    subst hP hw hK
    have G := GoesN.zip2 (elts := elts) (x1 := kk) (pos := tpos) S (Draws.text (prog := X.prog) (w := X.w) (A := X.A.in1) (I.ok.hd hc) i1 x t) (Draws.text (prog := X.prog) (w := X.w) (A := X.A.in1) (I.ok.hd hc) i2 y u)
    have lt : ∀ c ∈ [z, TI, TO, i1, i2], c < s.heap.objs.size := fun c hcm => by
      obtain ⟨_, hz, hTI, ⟨_, _, hTO⟩, ⟨o1, e1, _⟩, ⟨o2, e2, _⟩⟩ := st
      have e' : c = z ∨ c = TI ∨ c = TO ∨ c = i1 ∨ c = i2 := by simpa using hcm
      rcases e' with q | q | q | q | q
      · rw [q]; exact Heap.lt_size hz
      · rw [q]; exact Heap.lt_size hTI
      · rw [q]; exact Heap.lt_size hTO
      · rw [q]; exact Heap.lt_size e1
      · rw [q]; exact Heap.lt_size e2
    have hg' : i < min x.cps.size y.cps.size := hg
    refine thn (G.goes i s (fun v s2 => ∃ x' H', Inv X pins σ H' s2 ∧ RelV x' v ∧ (ItzS x y).yld i H x' H' ∧ _ ∧ ∀ b ∈ [z, TI, TO, i1, i2], H' b = none) E hg' st.2 ?_) fun r s1 q => q
    rintro v h' tk ⟨T, x1, y1, rfl, hT, ⟨c, u1, hc1, rfl⟩, ⟨d, u2, hd1, rfl⟩, hI⟩ st' hk htk
    have new : ObjOk X.prog X.w (upd H T (.tup [.str ⟨#[c]⟩, .str ⟨#[d]⟩])) h' T (.tup [.str ⟨#[c]⟩, .str ⟨#[d]⟩]) :=
      ⟨by show 2 ≤ sizeLine; decide, _, .cons ⟨u1, rfl⟩ (.cons ⟨u2, rfl⟩ .nil), hI⟩
    have I1 : Inv X pins σ (upd H T (.tup [.str ⟨#[c]⟩, .str ⟨#[d]⟩])) { s with heap := h', toks := tk } :=
      I.turnedNew (ch := [z, TI, TO, i1, i2]) (fun c o hb q => hk c o (sub5 hb) q) hf hT new
    refine ⟨.ref T, _, I1, rfl, ⟨T, c, d, rfl, I.hok.fresh hT, rfl, hc1, hd1⟩, ⟨hg', st'⟩, fun b hb => ?_⟩
    have : b ≠ T := fun e => absurd (lt b hb) (by rw [e]; exact Nat.not_lt.mpr hT)
    rw [upd_ne this]
    exact (hf b hb).1
  done := by
    intro X hP hw hK hc i pins s σ H E I hf st hg
    subst hP hw hK
    have G := GoesN.zip2 (elts := elts) (x1 := kk) (pos := tpos) S (Draws.text (prog := X.prog) (w := X.w) (A := X.A.in1) (I.ok.hd hc) i1 x t) (Draws.text (prog := X.prog) (w := X.w) (A := X.A.in1) (I.ok.hd hc) i2 y u)
    have hi : i = min x.cps.size y.cps.size := Nat.le_antisymm st.1 hg
    subst hi
    exact G.stops s (fun s1 => Inv X pins σ H s1) E st.2 fun h' tk hk htk => I.turnedL (ch := [z, TI, TO, i1, i2]) (fun c o hb q => hk c o (sub5 hb) q) hf
  self := by
    intro A i s Q E st h
    exact wpAny_pyIter_zip st.2.1 h
def iZipS (ta : TA) : TI := fun σ H R => ta σ H fun vs H1 => ∃ x y, vs = [.str x, .str y] ∧ R (ItzS x y) H1
theorem pi_zipS {X : Cx} {e e2 : Expr} {ta : TA} {p pos tpos : Pos} {elts : List Expr} {kk : Nat} (hg : Gl X "zip") (hm : X.mg "zip" = none) (ha : PA X [e, e2] ta)
    (hs : starEach [e, e2] X.env = (false, eval e X.env) :: starEach [e2] X.env := by rfl) (hpl : (backTo pos (starEach [e2] X.env)).any (·.1) = false := by rfl) :
    PI X (.Tuple elts kk tpos) (.Call (.Name "zip" p) [e, e2] [] pos) (iZipS ta) := by
  refine ⟨fun pins s σ H R I h => ?_⟩
  refine Call_ (ld_blt I hg hm PyProof.Rows.boot_zip (PyProof.Rows.callWith_type1 (thn (ha.run pos pins s σ H _ I h) fun us s1 ⟨vs, H1, I1, r1, q1⟩ => ?_) hs hpl))
  obtain ⟨x, y, ex, q⟩ := q1
  subst ex
  cases r1 with
  | cons r rr =>
    cases rr with
    | cons r' rr =>
      cases rr
      obtain ⟨t, rfl⟩ := r
      obtain ⟨u, rfl⟩ := r'
      have hle : ∀ c, c ∈ [s1.heap.objs.size + 4, s1.heap.objs.size + 2, s1.heap.objs.size + 3, s1.heap.objs.size, s1.heap.objs.size + 1] → s1.heap.objs.size ≤ c := fun c hcm => by
        simp at hcm
        omega
      refine zip_begins2 (begins_text x t) (begins_text y u) trivial trivial fun h' hz hTI hTO h1 h2 hsz hk => wpAny_pyIter_zip hz ?_
      have I2 : Inv X pins σ H1 { s1 with heap := h' } := I1.kept (t' := s1.toks) hk
      refine ⟨s1.heap.objs.size + 4, [s1.heap.objs.size + 4, s1.heap.objs.size + 2, s1.heap.objs.size + 3, s1.heap.objs.size, s1.heap.objs.size + 1], _, _, H1, rfl, I2,
        turn_zipS (x := x) (y := y) (t := t) (u := u) (zip_sep2 (fp1 := []) (fp2 := []) (by simp) (by simp)), ⟨Nat.zero_le _, hz, hTI, ⟨_, _, hTO⟩, ⟨_, h1, rfl, rfl⟩, ⟨_, h2, rfl, rfl⟩⟩, fun c hcm => I1.fpOk (hle c hcm) (I1.hok.fresh (hle c hcm)), q⟩
end Tg
end
section
set_option Elab.async false
set_option linter.all false
set_option maxRecDepth 100000
/-! fresh things, writes, comprehensions -/
namespace Tg
open PySem PySem.Spec PyProof.Rows L2
section
variable {X : Cx} {W : Wd} {g : Gh} {E : XK}
/-! ### zip -/
def pr (x y : PV) : PV := .tup [x, y]
def zipV : List PV → Option (List PV)
  | [.lst a, .lst b] => some (List.zipWith pr a b)
  | [.tup a, .tup b] => some (List.zipWith pr a b)
  | [.str a, .str b] => some (List.zipWith pr (signs a) (signs b))
  | _ => none
theorem zipWith_get {a b : List PV} {i : Nat} {p : PV} (h : (List.zipWith pr a b)[i]? = some p) : ∃ x y, a[i]? = some x ∧ b[i]? = some y ∧ p = pr x y := by
  rw [List.getElem?_zipWith] at h
  cases q1 : a[i]? with
  | none => rw [q1] at h; cases h
  | some x =>
    cases q2 : b[i]? with
    | none => rw [q1, q2] at h; cases h
    | some y => rw [q1, q2] at h; cases h; exact ⟨x, y, rfl, rfl, rfl⟩
theorem src_zipL {H : Hp} {b : Bn} {ps qs : List PV} {a c : Addr} (r : Rep W H b (.lst ps) (.ref a)) (r2 : Rep W H b (.lst qs) (.ref c)) : SrcOk W true (Itz W.K a c) H b (List.zipWith pr ps qs) := by
  intro H' b' k hf i
  have r' := r.kp k
  have r2' := r2.kp k
  cases r' with
  | lst e rs =>
    cases r2' with
    | lst e2 rs2 =>
      refine ⟨fun p hp => ?_, fun hi => ⟨_, _, lst_sq e, lst_sq e2, ?_⟩⟩
      · obtain ⟨x, y, hx, hy, rfl⟩ := zipWith_get hp
        obtain ⟨u, hu, ru⟩ := rs.get hx
        obtain ⟨v, hv, rv⟩ := rs2.get hy
        refine ⟨⟨_, _, u, v, lst_sq e, lst_sq e2, hu, hv⟩, fun z H'' yd => ?_⟩
        obtain ⟨T, x', y', rfl, hT, rfl, f1, f2⟩ := yd
        have h1 := f1 _ (lst_sq e)
        have h2 := f2 _ (lst_sq e2)
        rw [hu] at h1; rw [hv] at h2; cases h1; cases h2
        exact ⟨same_upd hT, .inr ⟨rfl, _, T, _, rfl, rfl, upd_same, .cons (ru.grow (same_upd hT)) (.cons (rv.grow (same_upd hT)) .nil)⟩⟩
      · rw [← rs.length, ← rs2.length]
        simp only [List.length_zipWith] at hi
        omega
theorem src_zipT {H : Hp} {b : Bn} {ps qs : List PV} {a c : Addr} (r : Rep W H b (.tup ps) (.ref a)) (r2 : Rep W H b (.tup qs) (.ref c)) : SrcOk W true (RZ.ItzT W.K a c) H b (List.zipWith pr ps qs) := by
  intro H' b' k hf i
  have r' := r.kp k
  have r2' := r2.kp k
  have sq : ∀ {a : Addr} {xs : List V}, ((¬ b'.no a ∧ PTu H' a xs) ∨ KTup W.K a xs) → SqT W.K H' a xs := fun n => by
    rcases n with ⟨_, e⟩ | n
    · exact e.sq _
    · exact n.sq
  cases r' with
  | tup n rs =>
    cases r2' with
    | tup n2 rs2 =>
      refine ⟨fun p hp => ?_, fun hi => ⟨_, _, sq n, sq n2, ?_⟩⟩
      · obtain ⟨x, y, hx, hy, rfl⟩ := zipWith_get hp
        obtain ⟨u, hu, ru⟩ := rs.get hx
        obtain ⟨v, hv, rv⟩ := rs2.get hy
        refine ⟨⟨_, _, u, v, sq n, sq n2, hu, hv⟩, fun z H'' yd => ?_⟩
        obtain ⟨T, x', y', rfl, hT, rfl, f1, f2⟩ := yd
        have h1 := f1 _ (sq n)
        have h2 := f2 _ (sq n2)
        rw [hu] at h1; rw [hv] at h2; cases h1; cases h2
        exact ⟨same_upd hT, .inr ⟨rfl, _, T, _, rfl, rfl, upd_same, .cons (ru.grow (same_upd hT)) (.cons (rv.grow (same_upd hT)) .nil)⟩⟩
      · rw [← rs.length, ← rs2.length]
        simp only [List.length_zipWith] at hi
        omega
theorem src_zipS {H : Hp} {b : Bn} {s t : List Nat} : SrcOk W true (ItzS ⟨s.toArray⟩ ⟨t.toArray⟩) H b (List.zipWith pr (signs s) (signs t)) := by
  intro H' b' k hf i
  refine ⟨fun p hp => ?_, fun hi => ?_⟩
  · obtain ⟨x, y, hx, hy, rfl⟩ := zipWith_get hp
    unfold signs at hx hy
    rw [List.getElem?_map] at hx hy
    cases q1 : s[i]? with
    | none => rw [q1] at hx; cases hx
    | some c =>
      cases q2 : t[i]? with
      | none => rw [q2] at hy; cases hy
      | some d =>
        rw [q1] at hx; rw [q2] at hy; cases hx; cases hy
        have l1 := (List.getElem?_eq_some_iff.mp q1).1
        have l2 := (List.getElem?_eq_some_iff.mp q2).1
        refine ⟨show i < min s.toArray.size t.toArray.size by simp; omega, fun z H'' yd => ?_⟩
        obtain ⟨T, c', d', rfl, hT, rfl, f1, f2⟩ := yd
        have f1 : s.toArray[i]? = some c' := f1
        have f2 : t.toArray[i]? = some d' := f2
        rw [List.getElem?_toArray, q1] at f1
        rw [List.getElem?_toArray, q2] at f2
        cases f1; cases f2
        exact ⟨same_upd hT, .inr ⟨rfl, _, T, _, rfl, rfl, upd_same, .cons (.str [c]) (.cons (.str [d]) .nil)⟩⟩
  · show min s.toArray.size t.toArray.size ≤ i
    simp only [List.length_zipWith, signs, List.length_map] at hi
    simpa using hi
theorem si_zip {e e2 : Expr} {elts : List Expr} {kk : Nat} {d : Den} {p pos tpos : Pos} (hK : X.K = W.K) (hg : Gl X "zip") (hm : X.mg "zip" = none) (ha : PA X [e, e2] (tEa W g E d))
    (hs : starEach [e, e2] X.env = (false, eval e X.env) :: starEach [e2] X.env := by rfl) (hpl : (backTo pos (starEach [e2] X.env)).any (·.1) = false := by rfl) :
    PI X (.Tuple elts kk tpos) (.Call (.Name "zip" p) [e, e2] [] pos) (tI W true g E (dSrc zipV d)) := by
  refine ⟨fun pins s σ H R I h => ?_⟩
  obtain ⟨ρ, S, b, O, en, f⟩ := h
  unfold dSrc at f
  cases q : d ρ S with
  | bad => rw [q] at f; exact f.elim
  | exc c v S1 =>
    rw [q] at f
    refine (RZ.pi_zipA hg hm ha hs hpl).run pins s σ H R I ⟨ρ, S, b, O, en, ?_⟩
    rw [q]
    exact f
  | ok v S1 =>
    rw [q] at f
    replace f : fin W E _ b H (okL (zipV (asL v)) S1) := f
    generalize hv : asL v = l at f
    unfold zipV at f
    split at f
    · refine (RZ.pi_zipA hg hm ha hs hpl).run pins s σ H R I ⟨ρ, S, b, O, en, ?_⟩
      rw [q]
      intro H' b' dd xs rs
      rw [hv] at rs
      cases rs with
      | cons r t =>
        cases t with
        | cons r2 t =>
          cases t
          have r0 := r
          have r20 := r2
          cases r with
          | lst e1 r1 =>
            cases r2 with
            | lst e2 r3 => exact ⟨_, _, _, _, rfl, .inl ⟨hK ▸ lst_sq e1, hK ▸ lst_sq e2, hK ▸ f H' b' dd _ (src_zipL r0 r20)⟩⟩
    · refine (RZ.pi_zipA hg hm ha hs hpl).run pins s σ H R I ⟨ρ, S, b, O, en, ?_⟩
      rw [q]
      intro H' b' dd xs rs
      rw [hv] at rs
      cases rs with
      | cons r t =>
        cases t with
        | cons r2 t =>
          cases t
          have r0 := r
          have r20 := r2
          have sq : ∀ {a : Addr} {xs : List V}, ((¬ b'.no a ∧ PTu H' a xs) ∨ KTup W.K a xs) → SqT X.K H' a xs := fun n => by
            rcases n with ⟨_, e⟩ | n
            · exact e.sq _
            · exact hK ▸ n.sq
          cases r with
          | tup n r1 =>
            cases r2 with
            | tup n2 r3 => exact ⟨_, _, _, _, rfl, .inr ⟨sq n, sq n2, hK ▸ f H' b' dd _ (src_zipT r0 r20)⟩⟩
    · refine (pi_zipS hg hm ha hs hpl).run pins s σ H R I ⟨ρ, S, b, O, en, ?_⟩
      rw [q]
      intro H' b' dd xs rs
      rw [hv] at rs
      cases rs with
      | cons r t =>
        cases t with
        | cons r2 t =>
          cases t
          cases r
          cases r2
          exact ⟨_, _, rfl, f H' b' dd _ src_zipS⟩
    · exact f.elim
end
end Tg
end
section
set_option Elab.async false
set_option linter.all false
set_option autoImplicit false
set_option maxRecDepth 100000
/-! fresh things, writes, comprehensions -/
namespace Tg
open PySem PySem.Spec PyProof.Rows L2
section
variable {X : Cx} {W : Wd} {g : Gh} {E : XK}
/-- less is banned -/
theorem Kp.less {b b' : Bn} {H : Hp} (hm : b'.m = b.m) (h : ∀ a, b'.no a → b.no a) : Kp b b' H H := .of (fun _ _ e n => ⟨e, fun q => n (h _ q)⟩) ⟨[], by rw [hm]; simp⟩
theorem StoreOk.kp {b b' : Bn} {H H' : Hp} {S : Store} (s : StoreOk W H b S) (k : Kp b b' H H') (hm : b'.m = b.m) (hk : ∀ a ∈ b.m, H' a = H a) : StoreOk W H' b' S :=
  ⟨by rw [hm]; exact s.1, by rw [hm]; exact s.2.1, fun i a ps e1 e2 => by
    rw [hm] at e1
    obtain ⟨xs, q, r⟩ := s.2.2 i a ps e1 e2
    exact ⟨xs, (hk a (List.mem_of_getElem? e1)).trans q, r.kp k⟩⟩
theorem StoreOk.there {b : Bn} {H : Hp} {S : Store} (s : StoreOk W H b S) {a : Addr} (h : a ∈ b.m) : ∃ o, H a = some o := by
  obtain ⟨i, hi⟩ := List.getElem?_of_mem h
  have hl : i < S.length := by rw [← s.1]; exact (List.getElem?_eq_some_iff.mp hi).1
  obtain ⟨xs, q, _⟩ := s.2.2 i a _ hi (List.getElem?_eq_getElem hl)
  exact ⟨_, q⟩
theorem Owns.kp {b b' : Bn} {H H' : Hp} (k : Kp b b' H H') {p : PV} {a : Addr} (h : Owns W H b p a) (e : ∀ o, H a = some o → H' a = some o) : Owns W H' b' p a := by
  cases p with
  | lst ps =>
    obtain ⟨xs, q, r⟩ := h
    exact ⟨xs, e _ q, r.kp k⟩
  | dct ps =>
    obtain ⟨xs, q, r⟩ := h
    exact ⟨xs, e _ q, r.kp k⟩
  | _ => exact h.elim
section
variable {ρ : Env} {S : Store} {b : Bn} {O : Addr → Prop} {σ : L2.St} {H : Hp}
/-- what is fresh now was not there at the entry -/
theorem EnvOk.new0 (e : EnvOk W g ρ S b O σ H) {D : Addr} (h : H D = none) : g.H0 D = none := by
  cases q : g.H0 D with
  | none => rfl
  | some o =>
    by_cases hm : D ∈ g.m0
    · obtain ⟨l, z⟩ := e.m0
      obtain ⟨o', q'⟩ := e.st.there (a := D) (by rw [z]; exact List.mem_append_left _ hm)
      rw [h] at q'; cases q'
    · by_cases hM : g.M0 D
      · obtain ⟨o', q'⟩ := e.mt D hM
        rw [h] at q'; cases q'
      · obtain ⟨_, this, _⟩ := e.keep D o q hm hM
        rw [h] at this; cases this
/-- an owned thing is written, no slot of ours is it -/
theorem EnvOk.upd (e : EnvOk W g ρ S b O σ H) {D : Addr} {o : HO} (hO : O D) (hn : ∀ (i : Nat) (p : PV), look ρ i = .own p → σ[i]? ≠ some (some (.ref D))) : EnvOk W g ρ S b O σ (L2.upd H D o) := by
  have hb := e.oB D hO
  have k : Kp b b H (L2.upd H D o) := .of (fun a o' q n => ⟨by rw [upd_ne (fun z => n (by rw [z]; exact .inl hb.1))]; exact q, n⟩) ⟨[], by simp⟩
  have ex : ∀ a, (∃ o', H a = some o') → ∃ o', L2.upd H D o a = some o' := fun a ⟨o', q⟩ => by
    by_cases z : a = D
    · rw [z]; exact ⟨_, upd_same⟩
    · rw [upd_ne z]; exact ⟨_, q⟩
  exact
  { len := e.len
    slot := fun i => by
      have h := e.slot i
      unfold SlOk at h ⊢
      cases q : look ρ i with
      | no => trivial
      | val p =>
        rw [q] at h
        obtain ⟨v, e1, r⟩ := h
        exact ⟨v, e1, r.kp k⟩
      | own p =>
        rw [q] at h
        obtain ⟨a, e1, o1, r⟩ := h
        refine ⟨a, e1, o1, r.kp k fun o' q' => ?_⟩
        rw [upd_ne (fun z => hn i p q (by rw [← z]; exact e1))]
        exact q'
    inj := e.inj
    oB := e.oB
    Bo := e.Bo
    B0t := e.B0t
    BM := e.BM
    tr := fun a h => ex a (e.tr a h)
    st := e.st.kp k rfl fun a ha => upd_ne fun z => hb.2.2 (by rw [← z]; exact ha)
    m0 := e.m0
    mn := e.mn
    mt := fun a h => ex a (e.mt a h)
    keep := fun a o' q n1 n2 => by
      have z : a ≠ D := fun z => by
        rcases hb.2.1 with h | h
        · rw [← z, q] at h; cases h
        · exact n2 (by rw [z]; exact h)
      obtain ⟨o1, q1, k1, x1⟩ := e.keep a o' q n1 n2
      exact ⟨o1, by rw [upd_ne z]; exact q1, k1, x1⟩ }
/-- a new thing is laid, and owned -/
theorem EnvOk.own (e : EnvOk W g ρ S b O σ H) {D : Addr} {o : HO} (h : H D = none) : EnvOk W g ρ S ⟨fun a => b.B a ∨ a = D, b.m⟩ (fun a => O a ∨ a = D) σ (L2.upd H D o) := by
  have hf : ¬ b.no D := e.fresh h
  have k : Kp b ⟨fun a => b.B a ∨ a = D, b.m⟩ H (L2.upd H D o) := .of (fun a o' q n => by
    have z : a ≠ D := fun z => by rw [z, h] at q; cases q
    refine ⟨by rw [upd_ne z]; exact q, fun hn => ?_⟩
    rcases hn with (hn | hn) | hn
    · exact n (.inl hn)
    · exact z hn
    · exact n (.inr hn)) ⟨[], by simp⟩
  have kk : ∀ a o', H a = some o' → L2.upd H D o a = some o' := same_upd h
  exact
  { len := e.len
    slot := fun i => by
      have hs := e.slot i
      unfold SlOk at hs ⊢
      cases q : look ρ i with
      | no => trivial
      | val p =>
        rw [q] at hs
        obtain ⟨v, e1, r⟩ := hs
        exact ⟨v, e1, r.kp k⟩
      | own p =>
        rw [q] at hs
        obtain ⟨a, e1, o1, r⟩ := hs
        exact ⟨a, e1, .inl o1, r.kp k fun o' q' => kk a o' q'⟩
    inj := e.inj
    oB := fun a ha => by
      rcases ha with ha | ha
      · obtain ⟨h1, h2, h3⟩ := e.oB a ha
        exact ⟨.inl h1, h2, h3⟩
      · subst ha
        exact ⟨.inr rfl, .inl (e.new0 h), fun q => hf (.inr q)⟩
    Bo := fun a => by
      have := e.Bo a
      constructor
      · rintro (h | h)
        · rcases this.mp h with h | h
          · exact .inl h
          · exact .inr (.inl h)
        · exact .inr (.inr h)
      · rintro (h | h | h)
        · exact .inl (this.mpr (.inl h))
        · exact .inl (this.mpr (.inr h))
        · exact .inr h
    B0t := e.B0t
    BM := e.BM
    tr := fun a ha => by
      rcases ha with (ha | ha) | ha
      · obtain ⟨o', q⟩ := e.tr a (.inl ha)
        exact ⟨o', kk a o' q⟩
      · rw [ha]; exact ⟨_, upd_same⟩
      · obtain ⟨o', q⟩ := e.tr a (.inr ha)
        exact ⟨o', kk a o' q⟩
    st := e.st.kp k rfl fun a ha => upd_ne fun z => hf (.inr (by rw [← z]; exact ha))
    m0 := e.m0
    mn := e.mn
    mt := fun a ha => by
      obtain ⟨o', q⟩ := e.mt a ha
      exact ⟨o', kk a o' q⟩
    keep := fun a o' q n1 n2 => by
      obtain ⟨o1, q1, k1, x1⟩ := e.keep a o' q n1 n2
      exact ⟨o1, kk a o1 q1, k1, x1⟩ }
/-- a slot is set to a value -/
theorem EnvOk.set (e : EnvOk W g ρ S b O σ H) {i : Nat} {p : PV} {x : V} (r : Rep W H b p x) : EnvOk W g (ρ.set i (.val p)) S b O (σ.set i (some x)) H := by
  have lk : ∀ j, look (ρ.set i (.val p)) j = if i = j ∧ j < ρ.length then .val p else look ρ j := fun j => by
    unfold look
    by_cases h : i = j
    · subst h
      by_cases hl : i < ρ.length
      · rw [List.getElem?_set_self hl, if_pos ⟨rfl, hl⟩]; rfl
      · rw [if_neg (fun z => hl z.2), List.set_eq_of_length_le (by omega)]
    · rw [List.getElem?_set_ne h, if_neg (fun z => h z.1)]
  exact
  { e with
    len := by rw [List.length_set, List.length_set]; exact e.len
    slot := fun j => by
      rw [lk]
      by_cases h : i = j ∧ j < ρ.length
      · rw [if_pos h]
        obtain ⟨rfl, hl⟩ := h
        exact ⟨x, List.getElem?_set_self (by rw [← e.len]; exact hl), r⟩
      · rw [if_neg h]
        by_cases hi : i = j
        · subst hi
          have hl : ρ.length ≤ i := Nat.le_of_not_lt fun q => h ⟨rfl, q⟩
          rw [List.set_eq_of_length_le (by rw [← e.len]; exact hl)]
          exact e.slot i
        · rw [List.getElem?_set_ne hi]
          exact e.slot j
    inj := fun j k p1 q1 a h1 h2 e1 e2 => by
      rw [lk] at h1 h2
      split at h1
      · cases h1
      · split at h2
        · cases h2
        · rename_i n1 n2
          have z : ∀ j, ¬ (i = j ∧ j < ρ.length) → (σ.set i (some x))[j]? = σ[j]? := fun j n => by
            by_cases hi : i = j
            · subst hi
              have hl : ρ.length ≤ i := Nat.le_of_not_lt fun q => n ⟨rfl, q⟩
              rw [List.set_eq_of_length_le (by rw [← e.len]; exact hl)]
            · rw [List.getElem?_set_ne hi]
          rw [z j n1] at e1
          rw [z k n2] at e2
          exact e.inj j k p1 q1 a h1 h2 e1 e2 }
end

/-! ### the slots of a block -/
def wipeE (ρ : Env) : List Nat → Env
  | [] => ρ
  | v :: vs => (wipeE ρ vs).set v .no
theorem wipeE_length (ρ : Env) : ∀ vs, (wipeE ρ vs).length = ρ.length
  | [] => rfl
  | v :: vs => by rw [wipeE, List.length_set, wipeE_length ρ vs]
theorem look_wipe (ρ : Env) : ∀ (vs : List Nat) (j : Nat), look (wipeE ρ vs) j = if j ∈ vs then .no else look ρ j
  | [], j => by simp [wipeE]
  | v :: vs, j => by
    unfold wipeE
    by_cases h : v = j
    · subst h
      rw [if_pos (by simp)]
      unfold look
      by_cases hl : v < (wipeE ρ vs).length
      · rw [List.getElem?_set_self hl]; rfl
      · rw [List.getElem?_eq_none (by rw [List.length_set]; omega)]; rfl
    · have := look_wipe ρ vs j
      unfold look at this ⊢
      rw [List.getElem?_set_ne h, this]
      by_cases h2 : j ∈ vs
      · rw [if_pos h2, if_pos (List.mem_cons_of_mem _ h2)]
      · rw [if_neg h2, if_neg (by simp [h2]; exact fun z => h z.symm)]
theorem wipe_get {σ : L2.St} {j : Nat} : ∀ {vs : List Nat}, j ∉ vs → (wipe σ vs)[j]? = σ[j]?
  | [], _ => rfl
  | v :: vs, h => by
    unfold wipe
    rw [List.getElem?_set_ne (fun z => h (by simp [z])), wipe_get (fun z => h (List.mem_cons_of_mem _ z))]
theorem wipe_get_in {σ : L2.St} {j : Nat} : ∀ {vs : List Nat}, j ∈ vs → j < σ.length → (wipe σ vs)[j]? = some none
  | v :: vs, h, hl => by
    unfold wipe
    by_cases z : v = j
    · subst z
      rw [List.getElem?_set_self (by rw [wipe_length]; exact hl)]
    · rw [List.getElem?_set_ne z]
      exact wipe_get_in ((List.mem_cons.mp h).resolve_left fun q => z q.symm) hl
theorem wipe_ext {σ τ : L2.St} {vs : List Nat} (hl : τ.length = σ.length) (h : ∀ i, i ∉ vs → τ[i]? = σ[i]?) : wipe τ vs = wipe σ vs := by
  apply List.ext_getElem?
  intro i
  by_cases hi : i ∈ vs
  · by_cases hb : i < σ.length
    · rw [wipe_get_in hi hb, wipe_get_in hi (hl ▸ hb)]
    · rw [List.getElem?_eq_none (by rw [wipe_length]; omega), List.getElem?_eq_none (by rw [wipe_length]; omega)]
  · rw [wipe_get hi, wipe_get hi, h i hi]
theorem EnvOk.wipe {ρ : Env} {S : Store} {b : Bn} {O : Addr → Prop} {σ : L2.St} {H : Hp} (e : EnvOk W g ρ S b O σ H) (vs : List Nat) : EnvOk W g (wipeE ρ vs) S b O (L2.wipe σ vs) H :=
  { e with
    len := by rw [wipeE_length, wipe_length]; exact e.len
    slot := fun j => by
      rw [look_wipe]
      by_cases h : j ∈ vs
      · rw [if_pos h]; trivial
      · rw [if_neg h, wipe_get h]; exact e.slot j
    inj := fun j k p q a h1 h2 e1 e2 => by
      rw [look_wipe] at h1 h2
      split at h1
      · cases h1
      · split at h2
        · cases h2
        · rename_i n1 n2
          rw [wipe_get n1] at e1
          rw [wipe_get n2] at e2
          exact e.inj j k p q a h1 h2 e1 e2 }

/-! ### targets -/
/-- where a value is stored: a name, several -/
inductive Tgt where
  | name (i : Nat)
  | nil
  | cons (a r : Tgt)
  | tup (r : Tgt)
def Tgt.slots : Tgt → List Nat
  | .name i => [i]
  | .nil => []
  | .cons a r => a.slots ++ r.slots
  | .tup r => r.slots
/-- stored; a row of targets takes a list -/
def Tgt.put : Tgt → PV → Env → Option Env
  | .name i, v, ρ => some (ρ.set i (.val v))
  | .nil, .lst [], ρ => some ρ
  | .nil, _, _ => none
  | .cons a r, .lst (v :: vs), ρ => match a.put v ρ with
    | some ρ1 => r.put (.lst vs) ρ1
    | none => none
  | .cons _ _, _, _ => none
  | .tup r, .tup vs, ρ => r.put (.lst vs) ρ
  | .tup _, _, _ => none
/-- the reading of a target -/
def tG (W : Wd) (w : Bool) (g : Gh) (t : Tgt) : TG := fun x σ H Q => ∃ ρ S b O p ρ', EnvOk W g ρ S b O σ H ∧ RepB W w H b p x ∧ t.put p ρ = some ρ' ∧ ∀ σ', σ'.length = σ.length → (∀ i, i ∉ t.slots → σ'[i]? = σ[i]?) → EnvOk W g ρ' S b O σ' H → Q σ' H
def tGs (W : Wd) (g : Gh) (t : Tgt) : TGs := fun xs σ H Q => ∃ ρ S b O ps ρ', EnvOk W g ρ S b O σ H ∧ Reps W H b ps xs ∧ t.put (.lst ps) ρ = some ρ' ∧ ∀ σ', σ'.length = σ.length → (∀ i, i ∉ t.slots → σ'[i]? = σ[i]?) → EnvOk W g ρ' S b O σ' H → Q σ' H
theorem pgsI {es : List Expr} {t t' : TGs} (h : PGs X es t) (hi : ∀ v σ H Q, t' v σ H Q → t v σ H Q) : PGs X es t' := ⟨fun pins s σ H v u Q I r q => h.run pins s σ H v u Q I r (hi v σ H Q q)⟩
theorem sg_name {i : Nat} {x : Str} {pos : Pos} (hN : X.N.Nodup) (hi : X.N[i]? = some x) (hx : Loc X.env.scope x) (hf : X.fn x = true ∨ X.env.scope.names.lookup x = some .local) : PG X (.Name x pos) (tG W false g (.name i)) := by
  refine pgI (pg_name hN hi hx hf) ?_
  rintro x σ H Q ⟨ρ, S, b, O, p, ρ', e, r, q, f⟩
  cases q
  rcases r with r | ⟨z, _⟩
  · exact f _ (by rw [List.length_set]) (fun j hj => List.getElem?_set_ne (fun z => hj (by simp [Tgt.slots, z]))) (e.set r)
  · cases z
theorem sg_nil : PGs X [] (tGs W g .nil) := by
  refine pgsI pgs_nil ?_
  rintro xs σ H Q ⟨ρ, S, b, O, ps, ρ', e, r, q, f⟩
  cases r with
  | nil => cases q; exact ⟨rfl, f σ rfl (fun _ _ => rfl) e⟩
  | cons _ _ => cases q
theorem sg_cons {e : Expr} {es : List Expr} {t u : Tgt} (h1 : PG X e (tG W false g t)) (h2 : PGs X es (tGs W g u))
    (hs : (assignEach (e :: es) X.env).map (·.2) = assign e X.env :: (assignEach es X.env).map (·.2) := by rfl) : PGs X (e :: es) (tGs W g (.cons t u)) := by
  refine pgsI (pgs_cons h1 h2 hs) ?_
  rintro xs σ H Q ⟨ρ, S, b, O, ps, ρ', e, r, q, f⟩
  cases r with
  | nil => cases q
  | @cons p x ps xs r rs =>
    simp only [Tgt.put] at q
    cases q1 : t.put p ρ with
    | none => rw [q1] at q; cases q
    | some ρ1 =>
      rw [q1] at q
      refine ⟨x, xs, rfl, ρ, S, b, O, p, ρ1, e, .inl r, q1, fun σ1 l1 k1 e1 => ⟨ρ1, S, b, O, ps, ρ', e1, rs, q, fun σ2 l2 k2 e2 => f σ2 (l2.trans l1) (fun i hi => ?_) e2⟩⟩
      rw [k2 i (fun z => hi (by simp [Tgt.slots, z])), k1 i (fun z => hi (by simp [Tgt.slots, z]))]
def Tgt.row : Tgt → Option Nat
  | .nil => some 0
  | .cons _ r => match r.row with
    | some n => some (n + 1)
    | none => none
  | _ => none
theorem Tgt.put_len : ∀ {t : Tgt} {ps : List PV} {ρ ρ' : Env} {n : Nat}, t.row = some n → t.put (.lst ps) ρ = some ρ' → ps.length = n
  | .nil, [], _, _, _, h, _ => by cases h; rfl
  | .nil, _ :: _, _, _, _, _, q => by cases q
  | .cons a r, [], _, _, _, _, q => by cases q
  | .cons a r, p :: ps, ρ, ρ', n, h, q => by
    simp only [Tgt.put] at q
    simp only [Tgt.row] at h
    cases q1 : a.put p ρ with
    | none => rw [q1] at q; cases q
    | some ρ1 =>
      rw [q1] at q
      cases h1 : r.row with
      | none => rw [h1] at h; cases h
      | some m =>
        rw [h1] at h
        cases h
        rw [List.length_cons, Tgt.put_len h1 q]
  | .name _, _, _, _, _, h, _ => by cases h
  | .tup _, _, _, _, _, h, _ => by cases h
theorem sg_tup {w : Bool} {es : List Expr} {k n : Nat} {pos : Pos} {t : Tgt} (hK : X.K = W.K) (hc : X.calm = true) (h : PGs X es (tGs W g t)) (hr : t.row = some n)
    (hn : (assignEach es X.env).length = n) (hst : (assignEach es X.env).findIdx? (·.1) = none) : PG X (.Tuple es k pos) (tG W w g (.tup t)) := by
  refine pgI (pg_tup (n := n) hc h hn hst) ?_
  rintro x σ H Q ⟨ρ, S, b, O, p, ρ', e, r, q, f⟩
  cases p with
  | tup ps =>
    rcases r with r | ⟨_, ps', a, xs, z, rfl, ha, rs⟩
    · cases r with
      | @tup a xs _ hn rs =>
        refine ⟨a, xs, rfl, ?_, by rw [← rs.length]; exact Tgt.put_len hr q, ρ, S, b, O, ps, ρ', e, rs, q, f⟩
        rw [hK]
        rcases hn with ⟨_, h⟩ | h
        · exact h.sq _
        · exact h.sq
    · cases z
      exact ⟨a, xs, rfl, SqT.of ha, by rw [← rs.length]; exact Tgt.put_len hr q, ρ, S, b, O, ps, ρ', e, rs, q, f⟩
  | _ => cases q

theorem Reps.append {H : Hp} {b : Bn} : ∀ {ps qs : List PV} {xs ys : List V}, Reps W H b ps xs → Reps W H b qs ys → Reps W H b (ps ++ qs) (xs ++ ys)
  | _, _, _, _, .nil, t => t
  | _, _, _, _, .cons r t, u => .cons r (Reps.append t u)
/-! ### fresh things -/
/-- the new object by its value -/
def Mk1 (W : Wd) (H : Hp) (b : Bn) : PV → HO → Prop
  | .lst ps, .lst xs => Reps W H b ps xs
  | .dct ps, .dK xs => RepK W H b ps xs
  | _, _ => False
def tEf (W : Wd) (g : Gh) (E : XK) (d : Den) : TE := fun σ H Q => tF W g E d (fun v _ H' b' => ∀ a o, H' a = none → Mk1 W H' b' v o → Q (.ref a) (upd H' a o)) σ H
theorem Mk1.rep {H : Hp} {b : Bn} {v : PV} {o : HO} {a : Addr} (h : Mk1 W H b v o) (hp : H a = none) (hf : ¬ b.no a) : Rep W (upd H a o) b v (.ref a) := by
  cases v with
  | lst ps =>
    cases o with
    | lst xs => exact .lst (.inl ⟨hf, .inl upd_same⟩) (Reps.grow h (same_upd hp))
    | _ => exact h.elim
  | dct ps =>
    cases o with
    | dK xs =>
      have : RepK W (upd H a (.dK xs)) b ps xs := RepK.step ⟨fun _ => Iff.rfl, ⟨[], by simp⟩, fun _ h n => absurd h n, fun a o e _ => ⟨o, same_upd hp a o e, .refl, fun _ => rfl⟩⟩ h
      exact .dct ⟨hf, .inl upd_same⟩ this
    | _ => exact h.elim
  | _ => exact h.elim
theorem Mk1.owns {H : Hp} {b : Bn} {v : PV} {o : HO} {a : Addr} (h : Mk1 W H b v o) (hp : H a = none) : Owns W (upd H a o) ⟨fun c => b.B c ∨ c = a, b.m⟩ v a := by
  have k : Kp b ⟨fun c => b.B c ∨ c = a, b.m⟩ H (upd H a o) := .of (fun c o' q n => by
    have z : c ≠ a := fun z => by rw [z, hp] at q; cases q
    refine ⟨by rw [upd_ne z]; exact q, fun hn => ?_⟩
    rcases hn with (hn | hn) | hn
    · exact n (.inl hn)
    · exact z hn
    · exact n (.inr hn)) ⟨[], by simp⟩
  cases v with
  | lst ps =>
    cases o with
    | lst xs => exact ⟨xs, upd_same, Reps.kp k h⟩
    | _ => exact h.elim
  | dct ps =>
    cases o with
    | dK xs => exact ⟨xs, upd_same, RepK.kp k h⟩
    | _ => exact h.elim
  | _ => exact h.elim
/-- a fresh thing as a value -/
theorem ev_ef {e : Expr} {d : Den} (h : PE X e (tEf W g E d)) : PE X e (tEv W g E d) := by
  refine peI h ?_
  rintro σ H Q ⟨ρ, S, b, O, en, f⟩
  refine ⟨ρ, S, b, O, en, ?_⟩
  cases q : d ρ S with
  | ok v S' =>
    rw [q] at f
    exact fun H' b' dd a o hp hm => f _ b' (dd.trans (.new dd.st hp)) _ (hm.rep hp ((en.adv dd).fresh hp))
  | exc c v S' => rw [q] at f; exact f
  | bad => rw [q] at f; exact f
theorem sf_lst {es : List Expr} {dr : Den} {pos : Pos} (h : PA X es (tEa W g E dr)) : PE X (.List es pos) (tEf W g E (dLst dr)) := by
  refine peI (pe_lst h) ?_
  intro σ H Q h
  refine (tF.seq (k := fun _ vs S1 => okN (asL vs) (.lst (asL vs)) S1) h).imp fun v S1 H1 b1 s1 ⟨ρ, O, e1, f⟩ xs rs => ?_
  unfold okN at f
  split at f
  · rename_i hl
    exact ⟨len_le rs hl, fun p hp => f H1 b1 (.refl s1) p _ hp rs⟩
  · exact f.elim

/-! ### list comprehensions -/
/-- no exception -/
def XK0 : XK := fun _ _ _ => False
/-- the turns of a block -/
def lcGo (t : Tgt) (tt te : Den) (ρ : Env) : List PV → Store → Rs (List PV)
  | [], S => .ok [] S
  | v :: vs, S => match t.put v ρ with
    | none => .bad
    | some ρ1 => match tt ρ1 S with
      | .ok c S1 => match truth c with
        | some true => match te ρ1 S1 with
          | .ok y S2 => (lcGo t tt te ρ vs S2).bnd fun r S3 => .ok (y :: r) S3
          | _ => .bad
        | some false => lcGo t tt te ρ vs S1
        | none => .bad
      | _ => .bad
def lcK (vs : List Nat) (t : Tgt) (tt te : Den) (ρ : Env) (v : PV) (S1 : Store) : Rs PV :=
  if (asL v).length ≤ sizeLine then (lcGo t tt te (wipeE ρ vs) (asL v) S1).bnd fun r S2 => .ok (.lst r) S2 else .bad
def dLc (vs : List Nat) (t : Tgt) (src tt te : Den) : Den := fun ρ S => (src ρ S).bnd (lcK vs t tt te ρ)
/-- the heap without D -/
def without (H : Hp) (D : Addr) : Hp := fun a => if a = D then none else H a
theorem without_ne {H : Hp} {D a : Addr} (h : a ≠ D) : without H D a = H a := by unfold without; rw [if_neg h]
theorem upd_without {H : Hp} {D : Addr} {o : HO} (h : H D = some o) : upd (without H D) D o = H := by
  funext a
  by_cases z : a = D
  · rw [z, upd_same, h]
  · rw [upd_ne z, without_ne z]
/-- within a block: the state of the turn i -/
structure LcAt (W : Wd) (g : Gh) (P : PV → Store → Hp → Bn → Prop) (E : XK) (t : Tgt) (tt te : Den) (ρw : Env) (O : Addr → Prop) (σw : L2.St) (b1 : Bn) (H1 : Hp) (D : Addr) (ps : List PV) (i : Nat) (H : Hp) (S : Store) (b : Bn) (acc : List V) (pacc : List PV) : Prop where
  e : EnvOk W g ρw S b (fun a => O a ∨ a = D) σw H
  stp : Stp b1 ⟨b1.B, b.m⟩ H1 (without H D)
  bB : ∀ a, b.B a ↔ (b1.B a ∨ a = D)
  hD : H D = some (.lst acc)
  r : Reps W H b pacc acc
  le : pacc.length ≤ i
  il : i ≤ ps.length
  f : fin W E P b1 H1 ((lcGo t tt te ρw (ps.drop i) S).bnd fun r S' => .ok (.lst (pacc ++ r)) S')
theorem lc_imp {w : Bool} {t : Tgt} {src tt te : Den} {vs : List Nat} {σ : L2.St} {H0 : Hp} {Q : VK} (hv : ∀ i ∈ t.slots, i ∈ vs) (h : tEf W g E (dLc vs t src tt te) σ H0 Q) :
    tLc (tI W w g E src) (tG W w g t) (tEt W g XK0 tt) (tEv W g XK0 te) vs σ H0 Q := by
  refine (tF.seq (k := lcK vs t tt te) h).imp fun v S1 H1 b1 s1 ⟨ρ, O, e1, f⟩ J hJ D hD => ?_
  unfold lcK at f
  split at f
  case isFalse => exact f.elim
  rename_i hlen
  generalize hps : asL v = ps at f hlen hJ
  have eo := (e1.wipe vs).own (o := .lst []) hD
  have hDm : D ∉ b1.m := fun q => e1.fresh hD (.inr q)
  have hDs : ∀ (i : Nat) (p : PV), look (wipeE ρ vs) i = .own p → (L2.wipe σ vs)[i]? ≠ some (some (.ref D)) := fun i p q z => by
    have hs := (e1.wipe vs).slot i
    unfold SlOk at hs
    rw [q] at hs
    obtain ⟨a, z2, _, hw⟩ := hs
    rw [z2] at z
    cases z
    obtain ⟨o, z3⟩ := hw.there
    rw [hD] at z3; cases z3
  refine ⟨fun i m H => m = ps.length - i ∧ ∃ S b acc pacc, LcAt W g _ E t tt te (wipeE ρ vs) O (L2.wipe σ vs) b1 H1 D ps i H S b acc pacc, ⟨_, rfl, S1, _, [], [], ⟨eo, ?_, fun a => Iff.rfl, upd_same, .nil, Nat.le_refl _, Nat.zero_le _, f⟩⟩, ?_⟩
  · refine ⟨fun _ => Iff.rfl, ⟨[], by simp⟩, fun a h n => absurd h n, fun a o q n => ⟨o, ?_, .refl, fun _ => rfl⟩⟩
    have z : a ≠ D := fun z => by rw [z, hD] at q; cases q
    rw [without_ne z, upd_ne z]; exact q
  rintro i m H ⟨rfl, S, b, acc, pacc, L⟩
  have hb2 : ∀ a, (⟨b1.B, b.m⟩ : Bn).no a → b.no a := fun a q => by
    rcases q with q | q
    · exact .inl ((L.bB a).mpr (.inl q))
    · exact .inr q
  have hmD : D ∉ b.m := (L.e.oB D (.inr rfl)).2.2
  have kp1 : Kp b1 b H1 H := ⟨fun a o q n => by
    have z : a ≠ D := fun z => by rw [z, hD] at q; cases q
    obtain ⟨o1, q1, k1, _⟩ := L.stp.keep a o q fun h => n (.inr h)
    rw [without_ne z] at q1
    refine ⟨⟨o1, q1, k1⟩, fun hn => ?_⟩
    rcases hn with hn | hn
    · rcases (L.bB a).mp hn with hn | hn
      · exact n (.inl hn)
      · exact z hn
    · exact L.stp.ban q n (.inr hn), L.stp.m⟩
  by_cases hlt : i < ps.length
  case neg =>
    have hie : ps.length ≤ i := Nat.le_of_not_lt hlt
    refine .inl ⟨(hJ H b kp1 (fun p hp => L.e.fresh hp) i).2 hie, ?_⟩
    have f2 := L.f
    rw [List.drop_of_length_le hie] at f2
    simp only [lcGo, Rs.bnd, List.append_nil] at f2
    have kw : Kp b ⟨b1.B, b.m⟩ H (without H D) := .of (fun a o q n => by
      have z : a ≠ D := fun z => n (.inl ((L.bB a).mpr (.inr z)))
      exact ⟨by rw [without_ne z]; exact q, fun q => n (hb2 a q)⟩) ⟨[], by simp⟩
    have adv : Adv W b1 ⟨b1.B, b.m⟩ H1 (without H D) S := ⟨L.stp, L.e.st.kp kw rfl fun a ha => without_ne fun z => hmD (by rw [← z]; exact ha)⟩
    have := f2 _ _ adv D (.lst acc) (by unfold without; rw [if_pos rfl]) (L.r.kp kw)
    rwa [upd_without L.hD] at this
  have hdrop : ps.drop i = ps[i] :: ps.drop (i + 1) := List.drop_eq_getElem_cons hlt
  have hp : ps[i]? = some ps[i] := List.getElem?_eq_getElem hlt
  generalize ps[i] = p at hdrop hp
  obtain ⟨go, yl⟩ := (hJ H b kp1 (fun p hp => L.e.fresh hp) i).1 p hp
  refine .inr ⟨go, fun H' => ∃ S b acc pacc, LcAt W g _ E t tt te (wipeE ρ vs) O (L2.wipe σ vs) b1 H1 D ps (i + 1) H' S b acc pacc, fun H' q => ⟨_, by omega, rfl, q⟩, fun x H' y => ?_⟩
  obtain ⟨gr, rx⟩ := yl x H' y
  have f2 := L.f
  rw [hdrop] at f2
  simp only [lcGo] at f2
  have eH := L.e.adv (.grow L.e.st gr)
  cases q1 : t.put p (wipeE ρ vs) with
  | none => simp only [q1] at f2; exact f2.elim
  | some ρ1 =>
    simp only [q1] at f2
    refine ⟨_, S, b, _, p, ρ1, eH, rx, q1, fun σ2 l2 k2 e2 => ⟨?_, ?_⟩⟩
    · exact (wipe_ext l2 fun i hi => k2 i fun z => hi (hv i z)).trans (wipe_ext (wipe_length σ vs) fun i hi => wipe_get hi)
    refine ⟨ρ1, S, b, _, e2, ?_⟩
    -- what the steps within the turn keep
    have stpN : ∀ {b' : Bn} {H'' : Hp}, Stp b b' H' H'' → Stp b1 ⟨b1.B, b'.m⟩ H1 (without H'' D) := fun {b' H''} s => by
      have c : Stp ⟨b1.B, b.m⟩ ⟨b1.B, b'.m⟩ (without H D) (without H'' D) := ⟨fun _ => Iff.rfl, s.m, fun a ha hn => (by
        have := s.new a ha hn
        have z : a ≠ D := fun z => by
          rw [z] at this
          rw [gr D _ L.hD] at this; cases this
        rw [without_ne z]
        cases hq : H a with
        | none => rfl
        | some o => rw [gr a o hq] at this; cases this), fun a o q n => (by
        by_cases z : a = D
        · rw [z] at q; unfold without at q; rw [if_pos rfl] at q; cases q
        · rw [without_ne z] at q ⊢
          obtain ⟨o1, q1, k1, x1⟩ := s.keep a o (gr a o q) n
          exact ⟨o1, q1, k1, fun h => x1 ((L.bB a).mpr (.inl h))⟩)⟩
      exact L.stp.trans c
    cases q2 : tt ρ1 S with
    | exc c v S' => simp only [q2] at f2; exact f2.elim
    | bad => simp only [q2] at f2; exact f2.elim
    | ok c S2 =>
      simp only [q2] at f2
      intro H3 b3 d3
      cases q3 : truth c with
      | none => simp only [q3] at f2; exact f2.elim
      | some cb =>
        simp only [q3] at f2
        refine ⟨cb, rfl, ?_⟩
        cases cb with
        | false =>
          exact ⟨S2, b3, acc, pacc, eH.adv d3, stpN d3.stp, fun a => (d3.stp.B a).trans (L.bB a), d3.stp.keepL (gr D _ L.hD) hmD, ((L.r.grow gr).step d3.stp), by have := L.le; omega, hlt, f2⟩
        | true =>
          simp only [if_true]
          refine ⟨ρ1, S2, b3, _, e2.adv d3, ?_⟩
          cases q4 : te ρ1 S2 with
          | exc c v S' => simp only [q4] at f2; exact f2.elim
          | bad => simp only [q4] at f2; exact f2.elim
          | ok yv S3 =>
            simp only [q4] at f2
            intro H4 b4 d4 y ry
            have d34 := d3.trans d4
            have hD4 : H4 D = some (.lst acc) := d34.stp.keepL (gr D _ L.hD) hmD
            refine ⟨acc, hD4, ?_, ?_⟩
            · rw [← L.r.length]; have := L.le; omega
            have eu := (eH.adv d34).upd (o := .lst (acc ++ [y])) (.inr rfl) hDs
            have ku : Kp b4 b4 H4 (upd H4 D (.lst (acc ++ [y]))) := .of (fun a o q n => by
              have z : a ≠ D := fun z => n (.inl ((d34.stp.B a).mpr ((L.bB a).mpr (.inr z))))
              exact ⟨by rw [upd_ne z]; exact q, n⟩) ⟨[], by simp⟩
            refine ⟨S3, b4, acc ++ [y], pacc ++ [yv], eu, ?_, fun a => (d34.stp.B a).trans (L.bB a), upd_same, ?_, by rw [List.length_append]; have := L.le; simp; omega, hlt, ?_⟩
            · have := stpN d34.stp
              have z : without (upd H4 D (.lst (acc ++ [y]))) D = without H4 D := by
                funext a
                by_cases z : a = D
                · rw [z]; unfold without; rw [if_pos rfl, if_pos rfl]
                · rw [without_ne z, without_ne z, upd_ne z]
              rw [z]; exact this
            · exact Reps.kp ku (((L.r.grow gr).step d34.stp).append (.cons ry .nil))
            · have z : ((lcGo t tt te (wipeE ρ vs) (ps.drop (i + 1)) S3).bnd fun r S3 => Rs.ok (yv :: r) S3).bnd (fun r S' => Rs.ok (PV.lst (pacc ++ r)) S') = (lcGo t tt te (wipeE ρ vs) (ps.drop (i + 1)) S3).bnd fun r S' => Rs.ok (PV.lst (pacc ++ [yv] ++ r)) S' := by
                cases lcGo t tt te (wipeE ρ vs) (ps.drop (i + 1)) S3 <;> simp [Rs.bnd]
              rw [← z]; exact f2
theorem sf_lc {w : Bool} {elt tg iter : Expr} {ifs : List Expr} {scope : Scope} {own : List (Str × Nat)} {pos : Pos} {t : Tgt} {src tt te : Den} (hc : X.calm = true) (hN : X.N.Nodup) (hi : PI X tg iter (tI W w g E src)) (ok : BlkOk X.N X.env.scope scope own)
    (hv : ∀ i ∈ t.slots, i ∈ own.map (·.2))
    (hg : ∀ (s : Shared) (H : Hp) (C : Addr) (cl : List (Str × Addr)) (fp : List Addr), PG (X.blk s H scope (compEnvC scope cl C X.env) fp) tg (tG W w g t))
    (ht : ∀ (s : Shared) (H : Hp) (C : Addr) (cl : List (Str × Addr)) (fp : List Addr), PTs (X.blk s H scope (compEnvC scope cl C X.env) fp) ifs (tEt W g XK0 tt))
    (he : ∀ (s : Shared) (H : Hp) (C : Addr) (cl : List (Str × Addr)) (fp : List Addr), PE (X.blk s H scope (compEnvC scope cl C X.env) fp) elt (tEv W g XK0 te))
    (hs : ∀ x, foldedSetIterable iter X.env x = pure x) :
    PE X (.ListComp elt [⟨tg, iter, ifs, 0⟩] scope pos) (tEf W g E (dLc (own.map (·.2)) t src tt te)) :=
  peI (pe_lc hc hN hi ok hg ht he hs) fun _ _ _ h => lc_imp hv h
end
end Tg
end
section
set_option Elab.async false
set_option linter.all false
set_option autoImplicit false
set_option maxRecDepth 100000
/-! statements -/
namespace Tg
open PySem PySem.Spec PyProof.Rows L2
inductive Fl where
  | nx (ρ : Env) | rt (v : PV) | bk (ρ : Env) | ct (ρ : Env)
abbrev DenS := Env → Store → Rs Fl
section
variable {X : Cx} {W : Wd} {g : Gh} {E : XK}
/-- what a run leaves, by its ghost -/
structure GhOk (W : Wd) (g : Gh) (S' : Store) (b' : Bn) (H' : Hp) : Prop where
  B : ∀ a, b'.B a ↔ g.B0 a
  m0 : ∃ l, b'.m = g.m0 ++ l
  mn : ∀ a ∈ b'.m, a ∉ g.m0 → g.H0 a = none
  keep : ∀ a o, g.H0 a = some o → a ∉ g.m0 → ¬ g.M0 a → ∃ o', H' a = some o' ∧ Kd o o' ∧ (g.B0 a → o' = o)
  st : StoreOk W H' b' S'
theorem EnvOk.kl {ρ : Env} {S : Store} {b : Bn} {O : Addr → Prop} {σ : L2.St} {H : Hp} (e : EnvOk W g ρ S b O σ H) : Kp b ⟨g.B0, b.m⟩ H H :=
  .less rfl fun a q => by
    rcases q with q | q
    · exact .inl ((e.Bo a).mpr (.inl q))
    · exact .inr q
theorem EnvOk.gh {ρ : Env} {S : Store} {b : Bn} {O : Addr → Prop} {σ : L2.St} {H : Hp} (e : EnvOk W g ρ S b O σ H) : GhOk W g S ⟨g.B0, b.m⟩ H :=
  ⟨fun _ => Iff.rfl, e.m0, e.mn, e.keep, e.st.kp e.kl rfl fun _ _ => rfl⟩
theorem EnvOk.low {ρ : Env} {S : Store} {b : Bn} {O : Addr → Prop} {σ : L2.St} {H : Hp} (e : EnvOk W g ρ S b O σ H) {p : PV} {x : V} (r : Rep W H b p x) : Rep W H ⟨g.B0, b.m⟩ p x := r.kp e.kl
def exG (W : Wd) (g : Gh) (E : XK) (c : Nat) (v : PV) (S' : Store) : Prop := ∀ x d H' b', GhOk W g S' b' H' → Rep W H' b' v x → H' d = some (.xd [("value", x)]) → E (.ref (W.ca c)) (some d) H'
def finS (W : Wd) (g : Gh) (E : XK) (D : Ends) (r : Rs Fl) : Prop := match r with
  | .ok (.nx ρ') S' => ∀ σ' H' b' O', EnvOk W g ρ' S' b' O' σ' H' → D.nx σ' H'
  | .ok (.bk ρ') S' => ∀ σ' H' b' O', EnvOk W g ρ' S' b' O' σ' H' → D.bk σ' H'
  | .ok (.ct ρ') S' => ∀ σ' H' b' O', EnvOk W g ρ' S' b' O' σ' H' → D.ct σ' H'
  | .ok (.rt v) S' => ∀ x H' b', GhOk W g S' b' H' → Rep W H' b' v x → D.rt x H'
  | .exc c v S' => exG W g E c v S'
  | .bad => False
/-- the reading of a statement -/
def tS (W : Wd) (g : Gh) (E : XK) (d : DenS) : TS := fun D σ H => ∃ ρ S b O, EnvOk W g ρ S b O σ H ∧ finS W g E D (d ρ S)
/-- first an expression, then the rest -/
theorem exS {α : Type} {da : Env → Store → Rs α} {k : Env → α → Store → Rs Fl} {D : Ends} {σ : L2.St} {H : Hp} (h : tS W g E (fun ρ S => (da ρ S).bnd (k ρ)) D σ H) :
    tF W g E da (fun v S1 H1 b1 => ∃ ρ O, EnvOk W g ρ S1 b1 O σ H1 ∧ finS W g E D (k ρ v S1)) σ H := by
  obtain ⟨ρ, S, b, O, e, f⟩ := h
  refine ⟨ρ, S, b, O, e, ?_⟩
  replace f : finS W g E D ((da ρ S).bnd (k ρ)) := f
  cases q : da ρ S with
  | ok v S1 =>
    rw [q] at f
    exact fun H' b' d => ⟨ρ, O, e.adv d, f⟩
  | exc c v S1 =>
    rw [q] at f
    intro x d H' b' dd r hd
    exact f x d H' _ (e.adv dd).gh ((e.adv dd).low r) hd
  | bad => rw [q] at f; exact f
theorem finS.imp {D D' : Ends} {r : Rs Fl} (h : finS W g E D r) (h1 : ∀ σ H, D.nx σ H → D'.nx σ H) (h2 : ∀ v H, D.rt v H → D'.rt v H) (h3 : ∀ σ H, D.bk σ H → D'.bk σ H) (h4 : ∀ σ H, D.ct σ H → D'.ct σ H) : finS W g E D' r := by
  cases r with
  | ok f S' =>
    cases f with
    | nx ρ => exact fun σ' H' b' O' e => h1 _ _ (h σ' H' b' O' e)
    | bk ρ => exact fun σ' H' b' O' e => h3 _ _ (h σ' H' b' O' e)
    | ct ρ => exact fun σ' H' b' O' e => h4 _ _ (h σ' H' b' O' e)
    | rt v => exact fun x H' b' q r => h2 _ _ (h x H' b' q r)
  | exc c v S' => exact h
  | bad => exact h

/-! ### the meanings -/
def dSkip : DenS := fun ρ S => .ok (.nx ρ) S
def seqK (d2 : DenS) : Fl → Store → Rs Fl
  | .nx ρ, S => d2 ρ S
  | f, S => .ok f S
def dSeqS (d1 d2 : DenS) : DenS := fun ρ S => (d1 ρ S).bnd (seqK d2)
def dExpr (d : Den) : DenS := fun ρ S => (d ρ S).bnd fun _ S1 => .ok (.nx ρ) S1
def dRet (d : Den) : DenS := fun ρ S => (d ρ S).bnd fun v S1 => .ok (.rt v) S1
def dRetN : DenS := fun _ S => .ok (.rt .non) S
def dBrk : DenS := fun ρ S => .ok (.bk ρ) S
def dCnt : DenS := fun ρ S => .ok (.ct ρ) S
def tstS (v : PV) (k : Bool → Rs Fl) : Rs Fl := match truth v with
  | some b => k b
  | none => .bad
def dIfS (dt : Den) (a b : DenS) : DenS := fun ρ S => (dt ρ S).bnd fun v S1 => tstS v fun c => if c = true then a ρ S1 else b ρ S1
def okE (o : Option Env) (S : Store) : Rs Fl := match o with
  | some ρ => .ok (.nx ρ) S
  | none => .bad
def dAsg (t : Tgt) (d : Den) : DenS := fun ρ S => (d ρ S).bnd fun v S1 => okE (t.put v ρ) S1
def isO : PV → Bool
  | .lst _ => true
  | .dct _ => true
  | _ => false
def dOwn (i : Nat) (d : Den) : DenS := fun ρ S => (d ρ S).bnd fun v S1 => if isO v = true then .ok (.nx (ρ.set i (.own v))) S1 else .bad
/-- from now on a value -/
def dFrz (i : Nat) : DenS := fun ρ S => match look ρ i with
  | .own v => .ok (.nx (ρ.set i (.val v))) S
  | _ => .bad

/-! ### they are right -/
theorem ss_skip : PSs X [] (tS W g E dSkip) := by
  refine pssI pss_nil ?_
  rintro D σ H ⟨ρ, S, b, O, e, f⟩
  exact f σ H b O e
theorem ss_pass {pos : Pos} : PS X (.Pass pos) (tS W g E dSkip) := by
  refine psI ps_pass ?_
  rintro D σ H ⟨ρ, S, b, O, e, f⟩
  exact f σ H b O e
theorem ss_seq {st : Stmt} {rest : List Stmt} {d1 d2 : DenS} (h1 : PS X st (tS W g E d1)) (h2 : PSs X rest (tS W g E d2)) : PSs X (st :: rest) (tS W g E (dSeqS d1 d2)) := by
  refine pssI (pss_cons h1 h2) ?_
  rintro D σ H ⟨ρ, S, b, O, e, f⟩
  refine ⟨ρ, S, b, O, e, ?_⟩
  unfold dSeqS at f
  cases q : d1 ρ S with
  | ok fl S1 =>
    rw [q] at f
    cases fl with
    | nx ρ' => exact fun σ' H' b' O' e' => ⟨ρ', S1, b', O', e', f⟩
    | rt v => exact f
    | bk ρ' => exact f
    | ct ρ' => exact f
  | exc c v S1 => rw [q] at f; exact f
  | bad => rw [q] at f; exact f
theorem ss_one {st : Stmt} {d : DenS} (h : PS X st (tS W g E d)) : PSs X [st] (tS W g E d) := pss_one h
/-- a step without code -/
theorem ss_expr {e : Expr} {d : Den} {pos : Pos} (he : PE X e (tEw W g E d)) (hs : swapsWith e none pos.line X.env = pure false) : PS X (.Expr e pos) (tS W g E (dExpr d)) := by
  refine psI (ps_expr he hs) ?_
  intro D σ H h
  refine (exS h).imp fun v S1 H1 b1 _ ⟨ρ, O, e1, f⟩ x _ => f σ H1 b1 O e1
theorem ss_doc {x j pos pos'} : PS X (.Expr (.Constant (.str x) j pos) pos') (tS W g E dSkip) := by
  refine psI ps_doc ?_
  rintro D σ H ⟨ρ, S, b, O, e, f⟩
  exact f σ H b O e
theorem ss_ret {e : Expr} {d : Den} {pos : Pos} (he : PE X e (tEv W g E d)) : PS X (.Return (some e) pos) (tS W g E (dRet d)) := by
  refine psI (ps_ret he) ?_
  intro D σ H h
  exact (exS h).imp fun v S1 H1 b1 _ ⟨ρ, O, e1, f⟩ x r => f x H1 _ e1.gh (e1.low r)
theorem ss_retN {pos : Pos} : PS X (.Return none pos) (tS W g E dRetN) := by
  refine psI ps_retN ?_
  rintro D σ H ⟨ρ, S, b, O, e, f⟩
  exact f .non H _ e.gh .non
theorem ss_brk {pos : Pos} : PS X (.Break pos) (tS W g E dBrk) := by
  refine psI ps_break ?_
  rintro D σ H ⟨ρ, S, b, O, e, f⟩
  exact f σ H b O e
theorem ss_cnt {pos : Pos} : PS X (.Continue pos) (tS W g E dCnt) := by
  refine psI ps_continue ?_
  rintro D σ H ⟨ρ, S, b, O, e, f⟩
  exact f σ H b O e
theorem ss_if {t : Expr} {a c : List Stmt} {dt : Den} {da db : DenS} {pos : Pos} (ht : PT X t (tEt W g E dt)) (ha : PSs X a (tS W g E da)) (hb : PSs X c (tS W g E db)) : PS X (.If t a c pos) (tS W g E (dIfS dt da db)) := by
  refine psI (ps_if ht ha hb) ?_
  intro D σ H h
  refine (exS h).imp fun v S1 H1 b1 _ ⟨ρ, O, e1, f⟩ => ?_
  unfold tstS at f
  cases q : truth v with
  | none => rw [q] at f; exact f.elim
  | some k =>
    rw [q] at f
    refine ⟨k, rfl, ?_⟩
    cases k with
    | true => exact ⟨ρ, S1, b1, O, e1, f⟩
    | false => exact ⟨ρ, S1, b1, O, e1, f⟩
theorem asg_end {t : Tgt} {v : PV} {x : V} {ρ : Env} {S1 : Store} {b1 : Bn} {O : Addr → Prop} {σ : L2.St} {H1 : Hp} {D : Ends} (e1 : EnvOk W g ρ S1 b1 O σ H1) (f : finS W g E D (okE (t.put v ρ) S1)) (r : Rep W H1 b1 v x) : tG W false g t x σ H1 D.nx := by
  cases q : t.put v ρ with
  | none => rw [q] at f; exact f.elim
  | some ρ' =>
    rw [q] at f
    exact ⟨ρ, S1, b1, O, v, ρ', e1, .inl r, q, fun σ' _ _ e' => f σ' H1 b1 O e'⟩
theorem ss_asg {tg e : Expr} {d : Den} {t : Tgt} {pos : Pos} (he : PE X e (tEv W g E d)) (hg : PG X tg (tG W false g t)) (hs : swapsWithSole [tg] e pos.line X.env = pure false) (hw : swappedStores [tg] e X.env = pure none)
    (h1 : (assignEach [tg] X.env).map (·.2) = [assign tg X.env]) : PS X (.Assign [tg] e pos) (tS W g E (dAsg t d)) := by
  refine psI (ps_asg he hg hs hw h1) ?_
  intro D σ H h
  exact (exS h).imp fun v S1 H1 b1 _ ⟨ρ, O, e1, f⟩ x r => asg_end e1 f r
/-- a slot is set to a new thing, owned -/
theorem EnvOk.setO {ρ : Env} {S : Store} {b : Bn} {O : Addr → Prop} {σ : L2.St} {H : Hp} (e : EnvOk W g ρ S b O σ H) {a : Addr} {o : HO} {v : PV} (i : Nat) (ha : H a = none) (hm : Mk1 W H b v o) :
    EnvOk W g (ρ.set i (.own v)) S ⟨fun c => b.B c ∨ c = a, b.m⟩ (fun c => O c ∨ c = a) (σ.set i (some (.ref a))) (L2.upd H a o) := by
  have e1 := e.own (o := o) ha
  have lk : ∀ j, look (ρ.set i (.own v)) j = if i = j ∧ j < ρ.length then .own v else look ρ j := fun j => by
    unfold look
    by_cases h : i = j
    · subst h
      by_cases hl : i < ρ.length
      · rw [List.getElem?_set_self hl, if_pos ⟨rfl, hl⟩]; rfl
      · rw [if_neg (fun z => hl z.2), List.set_eq_of_length_le (by omega)]
    · rw [List.getElem?_set_ne h, if_neg (fun z => h z.1)]
  have z : ∀ j, ¬ (i = j ∧ j < ρ.length) → (σ.set i (some (V.ref a)))[j]? = σ[j]? := fun j n => by
    by_cases hi : i = j
    · subst hi
      have hl : ρ.length ≤ i := Nat.le_of_not_lt fun q => n ⟨rfl, q⟩
      rw [List.set_eq_of_length_le (by rw [← e.len]; exact hl)]
    · rw [List.getElem?_set_ne hi]
  have na : ∀ j p c, look ρ j = .own p → σ[j]? = some (some (.ref c)) → c ≠ a := fun j p c h1 h2 h3 => by
    have hs := e.slot j
    unfold SlOk at hs
    rw [h1] at hs
    obtain ⟨c', h4, _, hw⟩ := hs
    rw [h2] at h4
    cases h4
    obtain ⟨o', h5⟩ := hw.there
    rw [h3, ha] at h5; cases h5
  exact
  { e1 with
    len := by rw [List.length_set, List.length_set]; exact e.len
    slot := fun j => by
      rw [lk]
      by_cases h : i = j ∧ j < ρ.length
      · rw [if_pos h]
        obtain ⟨rfl, hl⟩ := h
        exact ⟨a, List.getElem?_set_self (by rw [← e.len]; exact hl), .inr rfl, hm.owns ha⟩
      · rw [if_neg h, z j h]
        exact e1.slot j
    inj := fun j k p1 q1 c h1 h2 e1 e2 => by
      rw [lk] at h1 h2
      split at h1
      · rename_i hj
        split at h2
        · rename_i hk
          exact hj.1.symm.trans hk.1
        · rename_i hk
          rw [z k hk] at e2
          have : c = a := by
            rw [← hj.1, List.getElem?_set_self (by rw [← e.len, hj.1]; exact hj.2)] at e1
            cases e1; rfl
          exact absurd this (na k q1 c h2 e2)
      · rename_i hj
        rw [z j hj] at e1
        split at h2
        · rename_i hk
          have : c = a := by
            rw [← hk.1, List.getElem?_set_self (by rw [← e.len, hk.1]; exact hk.2)] at e2
            cases e2; rfl
          exact absurd this (na j p1 c h1 e1)
        · rename_i hk
          rw [z k hk] at e2
          exact e.inj j k p1 q1 c h1 h2 e1 e2 }
theorem ss_own {i : Nat} {x : Str} {e : Expr} {d : Den} {pos pos' : Pos} (hN : X.N.Nodup) (hi : X.N[i]? = some x) (hx : Loc X.env.scope x) (he : PE X e (tEf W g E d)) (hs : swapsWith e (some (.Name x pos')) pos.line X.env = pure false) (hf : X.fn x = true ∨ X.env.scope.names.lookup x = some .local) :
    PS X (.Assign [.Name x pos'] e pos) (tS W g E (dOwn i d)) := by
  refine psI (ps_set hN hi hx he hs hf) ?_
  intro D σ H h
  refine (exS h).imp fun v S1 H1 b1 _ ⟨ρ, O, e1, f⟩ a o ha hm => ?_
  split at f
  · exact f _ _ _ _ (e1.setO i ha hm)
  · exact f.elim
theorem EnvOk.nB0 {ρ : Env} {S : Store} {b : Bn} {O : Addr → Prop} {σ : L2.St} {H : Hp} (e : EnvOk W g ρ S b O σ H) {a : Addr} (hO : O a) : ¬ g.B0 a := fun q => by
  rcases (e.oB a hO).2.1 with h | h
  · obtain ⟨o, z⟩ := e.B0t a q
    rw [h] at z; cases z
  · exact e.BM a h q
/-- what was owned is a value now -/
theorem EnvOk.frz {ρ : Env} {S : Store} {b : Bn} {O : Addr → Prop} {σ : L2.St} {H : Hp} (e : EnvOk W g ρ S b O σ H) {i : Nat} {v : PV} (h : look ρ i = .own v) :
    ∃ b' O', EnvOk W g (ρ.set i (.val v)) S b' O' σ H := by
  have hs := e.slot i
  unfold SlOk at hs
  rw [h] at hs
  obtain ⟨a, h1, hO, hw⟩ := hs
  have hb := e.oB a hO
  have hil : i < ρ.length := by
    rw [e.len]
    exact (List.getElem?_eq_some_iff.mp h1).1
  have haB0 : ¬ g.B0 a := e.nB0 hO
  have k : Kp b ⟨fun c => b.B c ∧ c ≠ a, b.m⟩ H H := .less rfl fun c q => by
    rcases q with q | q
    · exact .inl q.1
    · exact .inr q
  have lk : ∀ j, look (ρ.set i (.val v)) j = if i = j then .val v else look ρ j := fun j => by
    unfold look
    by_cases h : i = j
    · subst h
      rw [List.getElem?_set_self hil, if_pos rfl]; rfl
    · rw [List.getElem?_set_ne h, if_neg h]
  have hrep : Rep W H ⟨fun c => b.B c ∧ c ≠ a, b.m⟩ v (.ref a) := by
    have hn : ¬ (⟨fun c => b.B c ∧ c ≠ a, b.m⟩ : Bn).no a := fun q => by
      rcases q with q | q
      · exact q.2 rfl
      · exact hb.2.2 q
    cases v with
    | lst ps =>
      obtain ⟨xs, q, r⟩ := hw
      exact .lst (.inl ⟨hn, .inl q⟩) (Reps.kp k r)
    | dct ps =>
      obtain ⟨xs, q, r⟩ := hw
      exact .dct ⟨hn, .inl q⟩ (RepK.kp k r)
    | _ => exact hw.elim
  refine ⟨⟨fun c => b.B c ∧ c ≠ a, b.m⟩, fun c => O c ∧ c ≠ a,
  { e with
    len := by rw [List.length_set]; exact e.len
    slot := fun j => by
      rw [lk]
      by_cases hj : i = j
      · rw [if_pos hj]
        subst hj
        exact ⟨_, h1, hrep⟩
      · rw [if_neg hj]
        have hs := e.slot j
        unfold SlOk at hs ⊢
        cases q : look ρ j with
        | no => trivial
        | val p =>
          rw [q] at hs
          obtain ⟨w, e1, r⟩ := hs
          exact ⟨w, e1, r.kp k⟩
        | own p =>
          rw [q] at hs
          obtain ⟨c, e1, o1, r⟩ := hs
          refine ⟨c, e1, ⟨o1, fun z => hj (e.inj i j v p a h q h1 (by rw [← z]; exact e1))⟩, r.kp k fun _ q => q⟩
    inj := fun j l p q c h2 h3 e1 e2 => by
      rw [lk] at h2 h3
      split at h2
      · cases h2
      · split at h3
        · cases h3
        · exact e.inj j l p q c h2 h3 e1 e2
    oB := fun c hc => ⟨⟨(e.oB c hc.1).1, hc.2⟩, (e.oB c hc.1).2⟩
    Bo := fun c => by
      constructor
      · rintro ⟨q, n⟩
        rcases (e.Bo c).mp q with q | q
        · exact .inl q
        · exact .inr ⟨q, n⟩
      · rintro (q | q)
        · exact ⟨(e.Bo c).mpr (.inl q), fun z => haB0 (by rw [← z]; exact q)⟩
        · exact ⟨(e.Bo c).mpr (.inr q.1), q.2⟩
    tr := fun c q => e.tr c (by
      rcases q with q | q
      · exact .inl q.1
      · exact .inr q)
    st := e.st.kp k rfl fun _ _ => rfl }⟩
end
end Tg
end
section
set_option Elab.async false
set_option linter.all false
set_option maxRecDepth 100000
/-! loops, writes -/
namespace Tg
open PySem PySem.Spec PyProof.Rows L2
section
variable {X : Cx} {W : Wd} {g : Gh} {E : XK}
/-- a loop's own ghost -/
def Gh.in (g : Gh) (H1 : Hp) (b1 : Bn) (O : Addr → Prop) : Gh := ⟨H1, b1.m, g.B0, O⟩
section
variable {ρ : Env} {S : Store} {b : Bn} {O : Addr → Prop} {σ : L2.St} {H : Hp}
theorem EnvOk.nest (e : EnvOk W g ρ S b O σ H) : EnvOk W (g.in H b O) ρ S b O σ H :=
  { e with
    oB := fun a h => ⟨(e.oB a h).1, .inr h, (e.oB a h).2.2⟩
    B0t := fun a h => e.tr a (.inl ((e.Bo a).mpr (.inl h)))
    BM := fun a h => e.nB0 h
    m0 := ⟨[], by simp [Gh.in]⟩
    mn := fun a h n => absurd h n
    mt := fun a h => e.tr a (.inl (e.oB a h).1)
    keep := fun a o q _ _ => ⟨o, q, .refl, fun _ => rfl⟩ }
/-- what was, seen from the loop's begin -/
theorem EnvOk.back (e : EnvOk W g ρ S b O σ H) : (∀ a o, g.H0 a = some o → a ∉ g.m0 → ¬ g.M0 a → (∃ o', H a = some o' ∧ Kd o o' ∧ (g.B0 a → o' = o)) ∧ a ∉ b.m ∧ ¬ O a) ∧ ∀ a, H a = none → g.H0 a = none := by
  refine ⟨fun a o q n1 n2 => ⟨e.keep a o q n1 n2, fun z => ?_, fun z => ?_⟩, fun a h => e.new0 h⟩
  · rw [e.mn a z n1] at q; cases q
  · rcases (e.oB a z).2.1 with h | h
    · rw [h] at q; cases q
    · exact n2 h
theorem EnvOk.unnest (e : EnvOk W g ρ S b O σ H) {ρ' : Env} {S' : Store} {b' : Bn} {O' : Addr → Prop} {σ' : L2.St} {H' : Hp} (e' : EnvOk W (g.in H b O) ρ' S' b' O' σ' H') : EnvOk W g ρ' S' b' O' σ' H' :=
  { e' with
    oB := fun a h => by
      obtain ⟨h1, h2, h3⟩ := e'.oB a h
      refine ⟨h1, ?_, h3⟩
      rcases h2 with h2 | h2
      · exact .inl (e.new0 h2)
      · exact (e.oB a h2).2.1
    Bo := e'.Bo
    B0t := e.B0t
    BM := e.BM
    m0 := by
      obtain ⟨l, q⟩ := e.m0
      obtain ⟨l', q'⟩ := e'.m0
      exact ⟨l ++ l', by rw [q']; show b.m ++ l' = _; rw [q, List.append_assoc]⟩
    mn := fun a h n => by
      by_cases q : a ∈ b.m
      · exact e.mn a q n
      · exact e.new0 (e'.mn a h q)
    mt := fun a h => by
      obtain ⟨o, q⟩ := e.mt a h
      by_cases hm : a ∈ b.m
      · obtain ⟨l', q'⟩ := e'.m0
        exact e'.st.there (by rw [q']; exact List.mem_append_left _ hm)
      · by_cases hO : O a
        · exact e'.mt a hO
        · obtain ⟨o', q', _⟩ := e'.keep a o q hm hO
          exact ⟨o', q'⟩
    keep := fun a o q n1 n2 => by
      obtain ⟨⟨o1, h1, k1, x1⟩, h2, h3⟩ := e.back.1 a o q n1 n2
      obtain ⟨o2, q2, k2, x2⟩ := e'.keep a o1 h1 h2 h3
      exact ⟨o2, q2, k1.trans k2, fun z => (x2 z).trans (x1 z)⟩ }
theorem GhOk.unnest (e : EnvOk W g ρ S b O σ H) {S' : Store} {b' : Bn} {H' : Hp} (e' : GhOk W (g.in H b O) S' b' H') : GhOk W g S' b' H' where
  B := e'.B
  m0 := by
    obtain ⟨l, q⟩ := e.m0
    obtain ⟨l', q'⟩ := e'.m0
    exact ⟨l ++ l', by rw [q']; show b.m ++ l' = _; rw [q, List.append_assoc]⟩
  mn := fun a h n => by
    by_cases q : a ∈ b.m
    · exact e.mn a q n
    · exact e.new0 (e'.mn a h q)
  keep := fun a o q n1 n2 => by
    obtain ⟨⟨o1, h1, k1, x1⟩, h2, h3⟩ := e.back.1 a o q n1 n2
    obtain ⟨o2, q2, k2, x2⟩ := e'.keep a o1 h1 h2 h3
    exact ⟨o2, q2, k1.trans k2, fun z => (x2 z).trans (x1 z)⟩
  st := e'.st
theorem EnvOk.kpIn (e : EnvOk W g ρ S b O σ H) {ρ' : Env} {S' : Store} {b' : Bn} {O' : Addr → Prop} {σ' : L2.St} {H' : Hp} (e' : EnvOk W (g.in H b O) ρ' S' b' O' σ' H') : Kp b b' H H' :=
  ⟨fun a o q n => (by
    have hO : ¬ O a := fun z => n (.inl (e.oB a z).1)
    obtain ⟨o1, q1, k1, _⟩ := e'.keep a o q (fun z => n (.inr z)) hO
    refine ⟨⟨o1, q1, k1⟩, fun z => ?_⟩
    rcases z with z | z
    · rcases (e'.Bo a).mp z with z | z
      · exact n (.inl ((e.Bo a).mpr (.inl z)))
      · rcases (e'.oB a z).2.1 with h | h
        · have h : H a = none := h
          rw [h] at q; cases q
        · exact hO h
    · have h : H a = none := e'.mn a z fun z => n (.inr z)
      rw [h] at q; cases q), e'.m0⟩
end
theorem finS.nest {ρ : Env} {S : Store} {b : Bn} {O : Addr → Prop} {σ : L2.St} {H : Hp} (e : EnvOk W g ρ S b O σ H) {D : Ends} {r : Rs Fl} (h : finS W g E D r) : finS W (g.in H b O) E D r := by
  cases r with
  | ok f S' =>
    cases f with
    | nx ρ => exact fun σ' H' b' O' e' => h σ' H' b' O' (e.unnest e')
    | bk ρ => exact fun σ' H' b' O' e' => h σ' H' b' O' (e.unnest e')
    | ct ρ => exact fun σ' H' b' O' e' => h σ' H' b' O' (e.unnest e')
    | rt v => exact fun x H' b' q r => h x H' b' (q.unnest e) r
  | exc c v S' => exact fun x d H' b' q r hd => h x d H' b' (q.unnest e) r hd
  | bad => exact h

/-! ### loops -/
def whK (rec : DenS) : Fl → Store → Rs Fl
  | .nx ρ, S => rec ρ S
  | .ct ρ, S => rec ρ S
  | .bk ρ, S => .ok (.nx ρ) S
  | .rt v, S => .ok (.rt v) S
def dWh (dt : Den) (db : DenS) : Nat → DenS
  | 0 => fun _ _ => .bad
  | n + 1 => fun ρ S => (dt ρ S).bnd fun v S1 => tstS v fun c => if c = true then (db ρ S1).bnd (whK (dWh dt db n)) else .ok (.nx ρ) S1
def forGo (t : Tgt) (db : DenS) : List PV → DenS
  | [] => fun ρ S => .ok (.nx ρ) S
  | v :: vs => fun ρ S => match t.put v ρ with
    | none => .bad
    | some ρ1 => (db ρ1 S).bnd (whK (forGo t db vs))
def dFor (t : Tgt) (src : Den) (db : DenS) : DenS := fun ρ S => (src ρ S).bnd fun v S1 => forGo t db (asL v) ρ S1
/-- a turn's end -/
theorem finS.turn {D : Ends} {r : Rs Fl} {rec : DenS} {N : L2.St → Hp → Prop} (h : finS W g E D (r.bnd (whK rec))) (hN : ∀ ρ' S' σ' H' b' O', EnvOk W g ρ' S' b' O' σ' H' → finS W g E D (rec ρ' S') → N σ' H') :
    finS W g E { D with nx := N, ct := N, bk := D.nx } r := by
  cases r with
  | ok f S' =>
    cases f with
    | nx ρ => exact fun σ' H' b' O' e' => hN ρ S' σ' H' b' O' e' h
    | ct ρ => exact fun σ' H' b' O' e' => hN ρ S' σ' H' b' O' e' h
    | bk ρ => exact h
    | rt v => exact h
  | exc c v S' => exact h
  | bad => exact h
theorem ss_while {c : Expr} {body : List Stmt} {dt : Den} {db : DenS} {pos : Pos} (n : Nat) (hp : PassesOwn (model X.prog X.w) X.A X.env X.xe) (hc : PT X c (tEt W g E dt)) (hb : PSs X body (tS W g E db)) : PS X (.While c body [] pos) (tS W g E (dWh dt db n)) := by
  refine psI (ps_while hp hc hb) ?_
  intro D σ H h
  refine ⟨fun m σ H => tS W g E (dWh dt db m) D σ H, ⟨n, h⟩, ?_⟩
  intro m σ H h
  cases m with
  | zero =>
    obtain ⟨ρ, S, b, O, e, f⟩ := h
    exact f.elim
  | succ m =>
    refine (exS h).imp fun v S1 H1 b1 _ ⟨ρ, O, e1, f⟩ => ?_
    unfold tstS at f
    cases q : truth v with
    | none => rw [q] at f; exact f.elim
    | some k =>
      rw [q] at f
      refine ⟨k, rfl, ?_⟩
      cases k with
      | false => exact f σ H1 b1 O e1
      | true =>
        simp only [if_true] at f ⊢
        exact ⟨fun σ' H' => tS W g E (dWh dt db m) D σ' H', fun σ' H' q => ⟨m, Nat.lt_succ_self m, q⟩, ρ, S1, b1, O, e1, finS.turn f fun ρ' S' σ' H' b' O' e' f' => ⟨ρ', S', b', O', e', f'⟩⟩
theorem ss_for {w : Bool} {tg iter : Expr} {body : List Stmt} {t : Tgt} {src : Den} {db : DenS} {pos : Pos} (hp : PassesOwn (model X.prog X.w) X.A X.env X.xe) (hc : X.calm = true) (hi : PI X tg iter (tI W w g E src)) (hg : ∀ g, PG X tg (tG W w g t)) (hb : ∀ g, PSs X body (tS W g E db))
    (hs : ∀ x, foldedSetIterable iter X.env x = pure x) : PS X (.For tg iter body [] pos) (tS W g E (dFor t src db)) := by
  have hg' : PG X tg (fun v σ H Q => ∃ g, tG W w g t v σ H Q) := ⟨fun pins s σ H v u Q I r ⟨g, q⟩ => (hg g).run pins s σ H v u Q I r q⟩
  have hb' : PSs X body (fun D σ H => ∃ g, tS W g E db D σ H) := ⟨fun pins s σ H D I ⟨g, q⟩ => (hb g).run pins s σ H D I q⟩
  refine psI (ps_for hp hc hi hg' hb' hs) ?_
  intro D σ0 H0 h
  refine (exS h).imp fun v S1 H1 b1 s1 ⟨ρ0, O0, e1, f⟩ J hJ => ?_
  generalize asL v = ps at f hJ
  refine ⟨fun i m σ H => m = ps.length - i ∧ i ≤ ps.length ∧ ∃ ρ S b O, EnvOk W (g.in H1 b1 O0) ρ S b O σ H ∧ finS W (g.in H1 b1 O0) E D (forGo t db (ps.drop i) ρ S), ⟨_, rfl, Nat.zero_le _, ρ0, S1, b1, O0, e1.nest, finS.nest e1 f⟩, ?_⟩
  rintro i m σ H ⟨rfl, hi, ρ, S, b, O, e, f⟩
  have sj := hJ H b (e1.kpIn e) (fun p hp => e.fresh hp) i
  by_cases hlt : i < ps.length
  case neg =>
    have hie : ps.length ≤ i := Nat.le_of_not_lt hlt
    rw [List.drop_of_length_le hie] at f
    exact .inl ⟨sj.2 hie, f σ H b O e⟩
  have hdrop : ps.drop i = ps[i] :: ps.drop (i + 1) := List.drop_eq_getElem_cons hlt
  have hp : ps[i]? = some ps[i] := List.getElem?_eq_getElem hlt
  generalize ps[i] = p at hdrop hp
  obtain ⟨go, yl⟩ := sj.1 p hp
  refine .inr ⟨go, fun σ' H' => ∃ ρ S b O, EnvOk W (g.in H1 b1 O0) ρ S b O σ' H' ∧ finS W (g.in H1 b1 O0) E D (forGo t db (ps.drop (i + 1)) ρ S), fun σ' H' q => ⟨_, by omega, rfl, hlt, q⟩, fun x H' y => ⟨g.in H1 b1 O0, ?_⟩⟩
  obtain ⟨gr, rx⟩ := yl x H' y
  rw [hdrop] at f
  simp only [forGo] at f
  cases q1 : t.put p ρ with
  | none => simp only [q1] at f; exact f.elim
  | some ρ1 =>
    simp only [q1] at f
    exact ⟨ρ, S, b, O, p, ρ1, e.adv (.grow e.st gr), rx, q1, fun σ2 _ _ e2 => ⟨g.in H1 b1 O0, ρ1, S, b, O, e2, finS.turn f fun ρ' S' σ' H' b' O' e' f' => ⟨ρ', S', b', O', e', f'⟩⟩⟩
end
end Tg
end
section
set_option Elab.async false
set_option linter.all false
set_option autoImplicit false
set_option maxRecDepth 100000
/-! writes of what is owned; rows of assignments -/
namespace Tg
open PySem PySem.Spec PyProof.Rows L2
section
variable {X : Cx} {W : Wd} {g : Gh} {E : XK}
/-- an owned thing is written -/
theorem EnvOk.wr {ρ : Env} {S : Store} {b : Bn} {O : Addr → Prop} {σ : L2.St} {H : Hp} (e : EnvOk W g ρ S b O σ H) {i : Nat} {p p' : PV} {a : Addr} {o : HO} (h : look ρ i = .own p) (h1 : σ[i]? = some (some (.ref a))) (hm : Owns W (L2.upd H a o) b p' a) :
    EnvOk W g (ρ.set i (.own p')) S b O σ (L2.upd H a o) := by
  have hil : i < ρ.length := by
    rw [e.len]
    exact (List.getElem?_eq_some_iff.mp h1).1
  have hs := e.slot i
  unfold SlOk at hs
  rw [h] at hs
  obtain ⟨a', h1', hO, hw⟩ := hs
  rw [h1] at h1'
  cases h1'
  have e0 : EnvOk W g (ρ.set i .no) S b O σ H := by
    have lk : ∀ j, look (ρ.set i .no) j = if i = j then .no else look ρ j := fun j => by
      unfold look
      by_cases h : i = j
      · subst h
        rw [List.getElem?_set_self hil, if_pos rfl]; rfl
      · rw [List.getElem?_set_ne h, if_neg h]
    exact { e with
      len := by rw [List.length_set]; exact e.len
      slot := fun j => by
        rw [lk]
        by_cases hj : i = j
        · rw [if_pos hj]; trivial
        · rw [if_neg hj]; exact e.slot j
      inj := fun j l p q c h2 h3 e1 e2 => by
        rw [lk] at h2 h3
        split at h2
        · cases h2
        · split at h3
          · cases h3
          · exact e.inj j l p q c h2 h3 e1 e2 }
  have lk0 : ∀ j, look (ρ.set i .no) j = if i = j then .no else look ρ j := fun j => by
    unfold look
    by_cases h : i = j
    · subst h
      rw [List.getElem?_set_self hil, if_pos rfl]; rfl
    · rw [List.getElem?_set_ne h, if_neg h]
  have nj : ∀ (j : Nat) (p : PV), look (ρ.set i .no) j = .own p → σ[j]? ≠ some (some (.ref a)) := fun j q hq hz => by
    rw [lk0] at hq
    split at hq
    · cases hq
    · rename_i hne
      exact hne (e.inj i j p q a h hq h1 hz)
  have e1 := e0.upd (o := o) hO nj
  have lk : ∀ j, look (ρ.set i (.own p')) j = if i = j then .own p' else look (ρ.set i .no) j := fun j => by
    rw [lk0]
    unfold look
    by_cases h : i = j
    · subst h
      rw [List.getElem?_set_self hil, if_pos rfl]; rfl
    · rw [List.getElem?_set_ne h, if_neg h, if_neg h]
  exact { e1 with
    len := by rw [List.length_set]; exact e.len
    slot := fun j => by
      rw [lk]
      by_cases hj : i = j
      · rw [if_pos hj]
        subst hj
        exact ⟨a, h1, hO, hm⟩
      · rw [if_neg hj]; exact e1.slot j
    inj := fun j l q1 q2 c h2 h3 z1 z2 => by
      rw [lk] at h2 h3
      split at h2
      · rename_i hj
        split at h3
        · rename_i hl
          exact hj.symm.trans hl
        · rw [← hj, h1] at z1
          cases z1
          exact absurd z2 (nj l q2 h3)
      · split at h3
        · rename_i hl
          rw [← hl, h1] at z2
          cases z2
          exact absurd z1 (nj j q1 h2)
        · exact e1.inj j l q1 q2 c h2 h3 z1 z2 }
/-- what the values lean on is not what is owned -/
theorem EnvOk.kw {ρ : Env} {S : Store} {b : Bn} {O : Addr → Prop} {σ : L2.St} {H : Hp} (e : EnvOk W g ρ S b O σ H) {a : Addr} {o : HO} (hO : O a) : Kp b b H (L2.upd H a o) :=
  .of (fun c o' q n => ⟨by rw [upd_ne (fun z => n (by rw [z]; exact .inl (e.oB a hO).1))]; exact q, n⟩) ⟨[], by simp⟩
theorem EnvOk.ownAt {ρ : Env} {S : Store} {b : Bn} {O : Addr → Prop} {σ : L2.St} {H : Hp} (e : EnvOk W g ρ S b O σ H) {i : Nat} {p : PV} (h : look ρ i = .own p) : ∃ a, σ[i]? = some (some (.ref a)) ∧ O a ∧ Owns W H b p a := by
  have hs := e.slot i
  unfold SlOk at hs
  rw [h] at hs
  exact hs

/-! ### frz -/
theorem ss_frz {i : Nat} {rest : List Stmt} {d2 : DenS} (h2 : PSs X rest (tS W g E d2)) : PSs X rest (tS W g E (dSeqS (dFrz i) d2)) := by
  refine pssI h2 ?_
  rintro D σ H ⟨ρ, S, b, O, e, f⟩
  unfold dSeqS dFrz at f
  cases q : look ρ i with
  | no => rw [q] at f; exact f.elim
  | val v => rw [q] at f; exact f.elim
  | own v =>
    rw [q] at f
    obtain ⟨b', O', e'⟩ := e.frz q
    exact ⟨_, S, b', O', e', f⟩

/-! ### x.append(e) -/
def appV : Sl → PV → Option PV
  | .own (.lst l), v => if l.length < sizeLine then some (.lst (l ++ [v])) else none
  | _, _ => none
def setO (i : Nat) (o : Option PV) (ρ : Env) (S : Store) : Rs Fl := match o with
  | some p => .ok (.nx (ρ.set i (.own p))) S
  | none => .bad
/-- the slot is seen before: an owned list, dict -/
def hasO (i : Nat) (ρ : Env) : Bool := match look ρ i with
  | .own _ => true
  | _ => false
def dApp (i : Nat) (dr : Den) : DenS := fun ρ S => if hasL (look ρ i) = true then (dr ρ S).bnd fun vs S1 => match asL vs with
  | [v] => setO i (appV (look ρ i) v) ρ S1
  | _ => .bad
  else .bad
where hasL : Sl → Bool
  | .own (.lst _) => true
  | _ => false
theorem ss_app {i : Nat} {x : Str} {e : Expr} {dr : Den} {p0 apos cpos pos : Pos} (hK : X.K = W.K) (hN : X.N[i]? = some x) (hv : Vis X.env.scope x) (hd : (x == ("__debug__" : Str)) = false) (hcd : (x == ("__classdict__" : Str)) = false)
    (ha : PA X [e] (tEa W g E dr)) (hbase : attributeBase (.Name x p0) "append" X.env (eval (.Name x p0) X.env) = eval (.Name x p0) X.env) (hline : (apos.endLine == cpos.line) = true)
    (hfew : ((backTo cpos (starEach [e] X.env)).all (fun x => !x.1) && (backToKw cpos (keywordEach [] X.env)).all (fun x => x.1.isSome)
      && decide (([e] : List Expr).length + ([] : List Keyword).length + (if ([] : List Keyword).isEmpty then 0 else 1) < 30)) = true)
    (hs : starEach [e] X.env = (false, eval e X.env) :: starEach [] X.env) (hplain : (backTo cpos (starEach [] X.env)).any (·.1) = false)
    (hsw : swapsWith (.Call (.Attribute (.Name x p0) "append" apos) [e] [] cpos) none pos.line X.env = pure false) :
    PS X (.Expr (.Call (.Attribute (.Name x p0) "append" apos) [e] [] cpos) pos) (tS W g E (dApp i dr)) := by
  refine psI (ps_expr (pe_bm PySem.F.plainAttrs_list PySem.F.slot_list_append PySem.F.type_list_append mt_append (pe_var hN hv hd hcd) ha hbase hfew hline hs hplain) hsw) ?_
  rintro D σ H h
  obtain ⟨ρ, S, b, O, en, f⟩ := h
  unfold dApp at f
  split at f
  case isFalse => exact f.elim
  rename_i hl
  unfold dApp.hasL at hl
  split at hl
  case h_2 => cases hl
  rename_i l hq
  obtain ⟨a, h1, hO, xs, hx, rx⟩ := en.ownAt hq
  refine ⟨_, h1, .inl ⟨rfl, xs, hK ▸ SqL.of hx⟩, ?_⟩
  refine (exS (k := fun ρ vs S1 => match asL vs with
    | [v] => setO i (appV (look ρ i) v) ρ S1
    | _ => .bad) ⟨ρ, S, b, O, en, f⟩).imp fun v S1 H1 b1 _ ⟨ρ1, O1, e1, f1⟩ ys ry => ?_
  split at f1
  case h_2 => exact f1.elim
  rename_i v1 hv1
  rw [hv1] at ry
  cases ry with
  | cons r t =>
    cases t
    unfold appV at f1
    cases hq1 : look ρ1 i with
    | no => simp only [hq1] at f1; exact f1.elim
    | val _ => simp only [hq1] at f1; exact f1.elim
    | own p =>
      cases p with
      | lst l1 =>
        simp only [hq1] at f1
        split at f1
        · rename_i hlen
          obtain ⟨a1, h11, hO1, xs1, hx1, rx1⟩ := e1.ownAt hq1
          rw [h1] at h11
          cases h11
          refine ⟨a, xs1, _, rfl, rfl, hx1, by rw [← rx1.length]; exact hlen, ?_⟩
          refine f1 _ _ _ _ (e1.wr hq1 h1 ⟨_, upd_same, ?_⟩)
          exact Reps.kp (e1.kw hO1) (rx1.append (.cons r .nil))
        · exact f1.elim
      | _ => simp only [hq1] at f1; exact f1.elim

/-! ### x[k] = e -/
/-- a cell's list is written -/
theorem EnvOk.wrC {ρ : Env} {S : Store} {b : Bn} {O : Addr → Prop} {σ : L2.St} {H : Hp} (e : EnvOk W g ρ S b O σ H) {c : Nat} {a : Addr} {ps : List PV} {xs : List V} (h : b.m[c]? = some a) (r : Reps W H b ps xs) :
    EnvOk W g ρ (S.set c ps) b O σ (L2.upd H a (.lst xs)) := by
  have ham : a ∈ b.m := List.mem_of_getElem? h
  have k : Kp b b H (L2.upd H a (.lst xs)) := .of (fun d o' q n => ⟨by rw [upd_ne (fun z => n (by rw [z]; exact .inr ham))]; exact q, n⟩) ⟨[], by simp⟩
  have ex : ∀ d, (∃ o', H d = some o') → ∃ o', L2.upd H a (.lst xs) d = some o' := fun d ⟨o', q⟩ => by
    by_cases z : d = a
    · rw [z]; exact ⟨_, upd_same⟩
    · rw [upd_ne z]; exact ⟨_, q⟩
  exact
  { e with
    slot := fun i => by
      have hs := e.slot i
      unfold SlOk at hs ⊢
      cases q : look ρ i with
      | no => trivial
      | val p =>
        rw [q] at hs
        obtain ⟨v, e1, r⟩ := hs
        exact ⟨v, e1, r.kp k⟩
      | own p =>
        rw [q] at hs
        obtain ⟨d, e1, o1, r⟩ := hs
        refine ⟨d, e1, o1, r.kp k fun o' q' => ?_⟩
        rw [upd_ne (fun z => (e.oB d o1).2.2 (by rw [z]; exact ham))]
        exact q'
    tr := fun d h => ex d (e.tr d h)
    st := by
      refine ⟨by rw [List.length_set]; exact e.st.1, e.st.2.1, fun i d qs h1 h2 => ?_⟩
      by_cases hi : c = i
      · subst hi
        rw [h] at h1
        cases h1
        have hl : c < S.length := by rw [← e.st.1]; exact (List.getElem?_eq_some_iff.mp h).1
        rw [List.getElem?_set_self hl] at h2
        cases h2
        exact ⟨xs, upd_same, r.kp k⟩
      · rw [List.getElem?_set_ne hi] at h2
        obtain ⟨ys, q, ry⟩ := e.st.2.2 i d qs h1 h2
        have hne : d ≠ a := fun z => by
          have h1' := h1
          rw [z] at h1'
          have l1 := (List.getElem?_eq_some_iff.mp h).1
          have l2 := (List.getElem?_eq_some_iff.mp h1').1
          exact hi ((List.getElem_inj e.st.2.1).mp ((List.getElem?_eq_some_iff.mp h).2.trans (List.getElem?_eq_some_iff.mp h1').2.symm))
        exact ⟨ys, by rw [upd_ne hne]; exact q, ry.kp k⟩
    mt := fun d h => ex d (e.mt d h)
    keep := fun d o' q n1 n2 => by
      have z : d ≠ a := fun z => by
        have := e.mn d (by rw [z]; exact ham) n1
        rw [q] at this; cases this
      obtain ⟨o1, q1, k1, x1⟩ := e.keep d o' q n1 n2
      exact ⟨o1, by rw [upd_ne z]; exact q1, k1, x1⟩ }
def putL (kvs : List (KP × PV)) (k : KP) (v : PV) : List (KP × PV) :=
  if (kvs.any fun kv => decide (kv.1 = k)) = true then kvs.map (fun kv => if kv.1 = k then (kv.1, v) else kv) else kvs ++ [(k, v)]
theorem RepK.any {H : Hp} {b : Bn} (k : KP) : ∀ {ps : List (KP × PV)} {xs : List (Key × V)}, RepK W H b ps xs → (xs.any fun kv => decide (kv.1 = kK k)) = ps.any fun kv => decide (kv.1 = k)
  | _, _, .nil => rfl
  | _, _, .cons (k := j) r t => by
    rw [List.any_cons, List.any_cons, RepK.any k t]
    congr 1
    by_cases h : j = k
    · subst h; simp
    · rw [decide_eq_false h, decide_eq_false (fun q => h (kK_inj.mp q))]
theorem RepK.repl {H : Hp} {b : Bn} (k : KP) {v : PV} {x : V} (rv : Rep W H b v x) : ∀ {ps : List (KP × PV)} {xs : List (Key × V)}, RepK W H b ps xs →
    RepK W H b (ps.map fun kv => if kv.1 = k then (kv.1, v) else kv) (xs.map fun kv => if kv.1 = kK k then (kv.1, x) else kv)
  | _, _, .nil => .nil
  | _, _, .cons (k := j) r t => by
    rw [List.map_cons, List.map_cons]
    by_cases h : j = k
    · subst h
      simp only [if_true]
      exact .cons rv (RepK.repl j rv t)
    · have : ¬ (kK j = kK k) := fun q => h (kK_inj.mp q)
      simp only [if_neg h, if_neg this]
      exact .cons r (RepK.repl k rv t)
theorem RepK.snoc {H : Hp} {b : Bn} (k : KP) {v : PV} {x : V} (rv : Rep W H b v x) : ∀ {ps : List (KP × PV)} {xs : List (Key × V)}, RepK W H b ps xs → RepK W H b (ps ++ [(k, v)]) (xs ++ [(kK k, x)])
  | _, _, .nil => .cons rv .nil
  | _, _, .cons r t => .cons r (RepK.snoc k rv t)
theorem RepK.put {H : Hp} {b : Bn} {k : KP} {v : PV} {x : V} {ps : List (KP × PV)} {xs : List (Key × V)} (r : RepK W H b ps xs) (rv : Rep W H b v x) : RepK W H b (putL ps k v) (putK xs (kK k) x) := by
  unfold putL putK
  rw [RepK.any k r]
  split
  · exact RepK.repl k rv r
  · exact RepK.snoc k rv r
theorem Reps.set {H : Hp} {b : Bn} {v : PV} {x : V} (rv : Rep W H b v x) : ∀ {ps : List PV} {xs : List V} (j : Nat), Reps W H b ps xs → Reps W H b (ps.set j v) (xs.set j x)
  | _, _, _, .nil => by simp; exact .nil
  | _, _, 0, .cons r t => .cons rv t
  | _, _, j + 1, .cons r t => .cons r (Reps.set rv j t)
def putV : Sl → Store → PV → PV → Option (Sl × Store)
  | .own (.dct kvs), S, .str k, v => if kvs.length < sizeLine then some (.own (.dct (putL kvs (.s k) v)), S) else none
  | .own (.dct kvs), S, .int k, v => if kvs.length < sizeLine then some (.own (.dct (putL kvs (.i k) v)), S) else none
  | .own (.lst l), S, .int i, v => match ixN l.length i with
    | some j => some (.own (.lst (l.set j v)), S)
    | none => none
  | .val (.cell c), S, .int i, v => match S[c]? with
    | some l => match ixN l.length i with
      | some j => some (.val (.cell c), S.set c (l.set j v))
      | none => none
    | none => none
  | _, _, _, _ => none
def setP (i : Nat) (o : Option (Sl × Store)) (ρ : Env) : Rs Fl := match o with
  | some (s, S) => .ok (.nx (ρ.set i s)) S
  | none => .bad
def isSet : Sl → Bool
  | .no => false
  | _ => true
def putK2 (i : Nat) (v : PV) (ρ : Env) (k : PV) (S2 : Store) : Rs Fl := setP i (putV (look ρ i) S2 k v) ρ
def dPut (i : Nat) (dv dk : Den) : DenS := fun ρ S => (dv ρ S).bnd fun v S1 => if isSet (look ρ i) = true then (dk ρ S1).bnd (putK2 i v ρ) else .bad
theorem EnvOk.isSet {ρ : Env} {S : Store} {b : Bn} {O : Addr → Prop} {σ : L2.St} {H : Hp} (e : EnvOk W g ρ S b O σ H) {i : Nat} (h : Tg.isSet (look ρ i) = true) : ∃ z, σ[i]? = some (some z) := by
  have hs := e.slot i
  unfold SlOk at hs
  cases q : look ρ i with
  | no => rw [q] at h; cases h
  | val p =>
    rw [q] at hs
    obtain ⟨z, h1, _⟩ := hs
    exact ⟨z, h1⟩
  | own p =>
    rw [q] at hs
    obtain ⟨a, h1, _⟩ := hs
    exact ⟨_, h1⟩
theorem PSet.or {t u : TSet} (h : PSet X t) (h' : PSet X u) : PSet X (fun o i v H Q => t o i v H Q ∨ u o i v H Q) := fun pins s σ H o i v ov iv w Q I r1 r2 r3 q => by
  rcases q with q | q
  · exact h pins s σ H o i v ov iv w Q I r1 r2 r3 q
  · exact h' pins s σ H o i v ov iv w Q I r1 r2 r3 q
theorem set_look {ρ : Env} {i : Nat} {s : Sl} (h : look ρ i = s) (hn : s ≠ .no) : ρ.set i s = ρ := by
  apply List.ext_getElem?
  intro j
  by_cases hj : i = j
  · subst hj
    unfold look at h
    cases q : ρ[i]? with
    | none => rw [q] at h; exact absurd h.symm hn
    | some t =>
      rw [q] at h
      have : t = s := h
      rw [List.getElem?_set_self (List.getElem?_eq_some_iff.mp q).1, this]
  · rw [List.getElem?_set_ne hj]
theorem put_end {i : Nat} {k v : PV} {y x z : V} {ρ : Env} {S : Store} {b : Bn} {O : Addr → Prop} {σ : L2.St} {H : Hp} {D : Ends} (e : EnvOk W g ρ S b O σ H) (f : finS W g E D (setP i (putV (look ρ i) S k v) ρ)) (ry : Rep W H b k y) (rx : Rep W H b v x) (hz : σ[i]? = some (some z)) :
    rSetL z y x H (fun H3 => D.nx σ H3) ∨ rSetD z y x H fun H3 => D.nx σ H3 := by
  unfold putV at f
  split at f
  · rename_i kvs k hq
    obtain ⟨a, h1, hO, xs, hx, r⟩ := e.ownAt hq
    rw [hz] at h1
    cases h1
    cases ry
    split at f
    · rename_i hl
      refine .inr ⟨a, _, rfl, DPut.k (k := kK (.s k)) hx (by rw [← RepK.length r]; exact hl), ?_⟩
      exact f _ _ _ _ (e.wr hq hz ⟨_, upd_same, RepK.kp (e.kw hO) (r.put rx)⟩)
    · exact f.elim
  · rename_i kvs k hq
    obtain ⟨a, h1, hO, xs, hx, r⟩ := e.ownAt hq
    rw [hz] at h1
    cases h1
    cases ry
    split at f
    · rename_i hl
      refine .inr ⟨a, _, rfl, DPut.k (k := kK (.i k)) hx (by rw [← RepK.length r]; exact hl), ?_⟩
      exact f _ _ _ _ (e.wr hq hz ⟨_, upd_same, RepK.kp (e.kw hO) (r.put rx)⟩)
    · exact f.elim
  · rename_i l n hq
    obtain ⟨a, h1, hO, xs, hx, r⟩ := e.ownAt hq
    rw [hz] at h1
    cases h1
    cases ry
    split at f
    · rename_i j hj
      refine .inl ⟨a, xs, n, j, rfl, rfl, hx, by rw [← r.length]; exact hj, ?_⟩
      exact f _ _ _ _ (e.wr hq hz ⟨_, upd_same, Reps.kp (e.kw hO) (r.set rx j)⟩)
    · exact f.elim
  · rename_i c n hq
    have hs := e.slot i
    unfold SlOk at hs
    rw [hq] at hs
    obtain ⟨z', h1, rc⟩ := hs
    rw [hz] at h1
    cases h1
    cases rc with
    | @cell _ a hc =>
      cases ry
      split at f
      · rename_i l hl
        split at f
        · rename_i j hj
          obtain ⟨xs, hx, r⟩ := e.st.2.2 c a l hc hl
          refine .inl ⟨a, xs, n, j, rfl, rfl, hx, by rw [← r.length]; exact hj, ?_⟩
          have := f _ _ _ _ (by rw [set_look hq (by simp)]; exact e.wrC hc (r.set rx j))
          exact this
        · exact f.elim
      · exact f.elim
  · exact f.elim
theorem ss_put {i : Nat} {x : Str} {e k : Expr} {dv dk : Den} {p0 tpos pos : Pos} (hu : X.A.units + 1 < cLine) (hN : X.N[i]? = some x) (hv : Vis X.env.scope x) (hd : (x == ("__debug__" : Str)) = false) (hcd : (x == ("__classdict__" : Str)) = false)
    (he : PE X e (tEv W g E dv)) (hk : PE X k (tEv W g E dk))
    (ha : ∀ v, assign (.Subscript (.Name x p0) k tpos) X.env v = (do
      let ov ← holding [v] (eval (.Name x p0) X.env)
      let iv ← holding [v, ov] (eval k X.env)
      standAt tpos
      holding [v, ov, iv] (setItem ov iv v)
      release [v, ov, iv] []))
    (hs : swapsWithSole [.Subscript (.Name x p0) k tpos] e pos.line X.env = pure false) (hw : swappedStores [.Subscript (.Name x p0) k tpos] e X.env = pure none)
    (h1 : (assignEach [.Subscript (.Name x p0) k tpos] X.env).map (·.2) = [assign (.Subscript (.Name x p0) k tpos) X.env]) :
    PS X (.Assign [.Subscript (.Name x p0) k tpos] e pos) (tS W g E (dPut i dv dk)) := by
  refine psI (ps_asg he (pg_sub (pe_var hN hv hd hcd) hk (PSet.or set_list (set_dict hu)) ha) hs hw h1) ?_
  intro D σ H h
  refine (exS h).imp fun v S1 H1 b1 _ ⟨ρ1, O1, e1, f1⟩ x rx => ?_
  split at f1
  case isFalse => exact f1.elim
  rename_i hset
  obtain ⟨z, hz⟩ := e1.isSet hset
  obtain ⟨f2⟩ := (⟨f1⟩ : PLift (finS W g E D ((dk ρ1 S1).bnd (putK2 i v ρ1))))
  refine ⟨z, hz, ρ1, S1, b1, O1, e1, ?_⟩
  cases q : dk ρ1 S1 with
  | ok k S2 =>
    rw [q] at f2
    intro H2 b2 d2 y ry
    have := put_end (e1.adv d2) f2 ry (rx.step d2.stp) hz
    rcases this with h | h
    · exact .inl h
    · exact .inr h
  | exc c v S' =>
    rw [q] at f2
    intro x d H' b' dd r hd
    exact f2 x d H' _ (e1.adv dd).gh ((e1.adv dd).low r) hd
  | bad => rw [q] at f2; exact f2.elim
end
end Tg
end
section
set_option Elab.async false
set_option linter.all false
set_option maxRecDepth 100000
/-! rows of assignments, op=, raise -/
namespace Tg
open PySem PySem.Spec PyProof.Rows L2
section
variable {X : Cx} {W : Wd} {g : Gh} {E : XK}
/-- other places for the slots -/
theorem EnvOk.reix {ρ ρ' : Env} {S : Store} {b : Bn} {O : Addr → Prop} {σ σ' : L2.St} {H : Hp} (e : EnvOk W g ρ S b O σ H) (f : Nat → Nat) (hl : ρ'.length = σ'.length) (hf : ∀ i j, f i = f j → i = j) (h : ∀ j, look ρ' j = .no ∨ (look ρ' j = look ρ (f j) ∧ σ'[j]? = σ[f j]?)) : EnvOk W g ρ' S b O σ' H :=
  { e with
    len := hl
    slot := fun j => by
      rcases h j with h | ⟨h1, h2⟩
      · rw [h]; trivial
      · rw [h1, h2]; exact e.slot (f j)
    inj := fun i j p q a h1 h2 e1 e2 => by
      rcases h i with z | ⟨z1, z2⟩
      · rw [z] at h1; cases h1
      · rcases h j with y | ⟨y1, y2⟩
        · rw [y] at h2; cases h2
        · rw [z1] at h1; rw [y1] at h2; rw [z2] at e1; rw [y2] at e2
          exact hf i j (e.inj _ _ p q a h1 h2 e1 e2) }
theorem look_app {ρ r : Env} {j : Nat} : look (ρ ++ r) j = if j < ρ.length then look ρ j else look r (j - ρ.length) := by
  unfold look
  by_cases h : j < ρ.length
  · rw [if_pos h, List.getElem?_append_left h]
  · rw [if_neg h, List.getElem?_append_right (Nat.le_of_not_lt h)]
theorem look_set {ρ : Env} {i j : Nat} {s : Sl} : look (ρ.set i s) j = if i = j ∧ j < ρ.length then s else look ρ j := by
  unfold look
  by_cases h : i = j
  · subst h
    by_cases hl : i < ρ.length
    · rw [List.getElem?_set_self hl, if_pos ⟨rfl, hl⟩]; rfl
    · rw [if_neg (fun z => hl z.2), List.set_eq_of_length_le (by omega)]
  · rw [List.getElem?_set_ne h, if_neg (fun z => h z.1)]
theorem look_ge {ρ : Env} {j : Nat} (h : ρ.length ≤ j) : look ρ j = .no := by
  unfold look
  rw [List.getElem?_eq_none h]; rfl
/-- the first that waits goes to its slot -/
theorem EnvOk.pend {ρ r : Env} {S : Store} {b : Bn} {O : Addr → Prop} {σ xs : L2.St} {H : Hp} {s : Sl} {x : Option V} (e : EnvOk W g (ρ ++ s :: r) S b O (σ ++ x :: xs) H) (hl : ρ.length = σ.length) (i : Nat) : EnvOk W g (ρ.set i s ++ r) S b O (σ.set i x ++ xs) H := by
  have hr : r.length = xs.length := by
    have := e.len
    rw [List.length_append, List.length_append, List.length_cons, List.length_cons] at this
    omega
  refine e.reix (fun j => if j < ρ.length then (if i = j then ρ.length else j) else j + 1) (by rw [List.length_append, List.length_append, List.length_set, List.length_set]; omega) (fun a c q => ?_) fun j => ?_
  · split at q <;> split at q <;> (try split at q) <;> (try split at q) <;> omega
  · right
    rw [look_app, look_app, look_set, List.length_set]
    by_cases h : j < ρ.length
    · simp only [if_pos h]
      rw [List.getElem?_append_left (by rw [List.length_set]; omega)]
      by_cases hi : i = j
      · subst hi
        rw [if_pos ⟨rfl, h⟩, if_pos rfl, if_neg (Nat.lt_irrefl _), Nat.sub_self, List.getElem?_set_self (by omega), hl, List.getElem?_append_right (Nat.le_refl _), Nat.sub_self]
        exact ⟨rfl, rfl⟩
      · rw [if_neg (fun z => hi z.1), if_neg hi, if_pos h, List.getElem?_set_ne hi, List.getElem?_append_left (by omega)]
        exact ⟨rfl, rfl⟩
    · have h' : ρ.length ≤ j := Nat.le_of_not_lt h
      rw [if_neg h, if_neg h, if_neg (by omega), List.getElem?_append_right (by rw [List.length_set]; omega), List.length_set, List.getElem?_append_right (by omega)]
      have : j + 1 - ρ.length = (j - ρ.length) + 1 := by omega
      have h2 : j + 1 - σ.length = (j - σ.length) + 1 := by omega
      rw [this, h2]
      exact ⟨by unfold look; rw [List.getElem?_cons_succ], by rw [List.getElem?_cons_succ]⟩
theorem EnvOk.cut {ρ r : Env} {S : Store} {b : Bn} {O : Addr → Prop} {σ xs : L2.St} {H : Hp} (e : EnvOk W g (ρ ++ r) S b O (σ ++ xs) H) (hl : ρ.length = σ.length) : EnvOk W g ρ S b O σ H :=
  e.reix (fun j => j) hl (fun _ _ q => q) fun j => by
    by_cases h : j < ρ.length
    · right
      rw [look_app, if_pos h, List.getElem?_append_left (by omega)]
      exact ⟨rfl, rfl⟩
    · exact .inl (look_ge (by omega))
theorem EnvOk.snoc {ρ : Env} {S : Store} {b : Bn} {O : Addr → Prop} {σ : L2.St} {H : Hp} (e : EnvOk W g ρ S b O σ H) : EnvOk W g (ρ ++ [.no]) S b O (σ ++ [none]) H :=
  e.reix (fun j => j) (by rw [List.length_append, List.length_append, e.len]; rfl) (fun _ _ q => q) fun j => by
    by_cases h : j < ρ.length
    · right
      rw [look_app, if_pos h, List.getElem?_append_left (by rw [← e.len]; omega)]
      exact ⟨rfl, rfl⟩
    · left
      rw [look_app, if_neg h]
      cases j - ρ.length with
      | zero => rfl
      | succ n => rfl
theorem snoc_set {α : Type} (l : List α) (a c : α) : (l ++ [a]).set l.length c = l ++ [c] := by
  rw [List.set_append_right _ _ (Nat.le_refl _), Nat.sub_self]; rfl
theorem EnvOk.snocV {ρ : Env} {S : Store} {b : Bn} {O : Addr → Prop} {σ : L2.St} {H : Hp} (e : EnvOk W g ρ S b O σ H) {p : PV} {x : V} (r : Rep W H b p x) : EnvOk W g (ρ ++ [.val p]) S b O (σ ++ [some x]) H := by
  have := e.snoc.set (i := ρ.length) r
  rw [snoc_set] at this
  rw [e.len, snoc_set] at this
  exact this
theorem EnvOk.snocO {ρ : Env} {S : Store} {b : Bn} {O : Addr → Prop} {σ : L2.St} {H : Hp} (e : EnvOk W g ρ S b O σ H) {a : Addr} {o : HO} {v : PV} (ha : H a = none) (hm : Mk1 W H b v o) :
    EnvOk W g (ρ ++ [.own v]) S ⟨fun c => b.B c ∨ c = a, b.m⟩ (fun c => O c ∨ c = a) (σ ++ [some (.ref a)]) (L2.upd H a o) := by
  have := e.snoc.setO ρ.length ha hm
  rw [snoc_set] at this
  rw [e.len, snoc_set] at this
  exact this

/-! ### several values, some owned -/
abbrev DenO := Env → Store → Rs (List Sl)
def oNil : DenO := fun _ S => .ok [] S
def oCons (own : Bool) (d : Den) (r : DenO) : DenO := fun ρ S => (d ρ S).bnd fun v S1 => if (!own || isO v) = true then (r ρ S1).bnd fun ss S2 => .ok ((if own then .own v else .val v) :: ss) S2 else .bad
def tO (W : Wd) (g : Gh) (E : XK) (d : DenO) : TA := fun σ H Q => ∃ ρ pend S b O, ∃ xs : L2.St, EnvOk W g (ρ ++ pend) S b O (σ ++ xs) H ∧ ρ.length = σ.length ∧ pend.length = xs.length ∧ (match d ρ S with
  | .ok ss S' => ∀ H' b' O' (ys : List V), EnvOk W g (ρ ++ (pend ++ ss)) S' b' O' (σ ++ (xs ++ ys.map some)) H' → ss.length = ys.length → Q ys H'
  | .exc c v S' => exG W g E c v S'
  | .bad => False)
theorem so_nil : PA X [] (tO W g E oNil) := by
  refine paI pa_nil ?_
  rintro σ H Q ⟨ρ, pend, S, b, O, xs, e, hl, hp, f⟩
  exact f H b O [] (by rw [List.append_nil, List.map_nil, List.append_nil]; exact e) rfl
theorem so_val {e : Expr} {es : List Expr} {d : Den} {r : DenO} (he : PE X e (tEv W g E d)) (hr : PA X es (tO W g E r)) (hs : starEach (e :: es) X.env = (false, eval e X.env) :: starEach es X.env) : PA X (e :: es) (tO W g E (oCons false d r)) := by
  refine paI (pa_cons he hr hs) ?_
  rintro σ H Q ⟨ρ, pend, S, b, O, xs, en, hl, hp, f⟩
  refine ⟨ρ, S, b, O, en.cut hl, ?_⟩
  unfold oCons at f
  cases q : d ρ S with
  | bad => simp only [q, Rs.bnd] at f
  | exc c v S' =>
    simp only [q, Rs.bnd] at f
    intro x dd H' b' ad rx hd
    exact f x dd H' _ (en.adv ad).gh ((en.adv ad).low rx) hd
  | ok v S1 =>
    simp only [q, Rs.bnd, Bool.not_false, Bool.true_or, if_true] at f
    intro H1 b1 ad x rx
    have e1 := (en.adv ad).snocV rx
    refine ⟨ρ, pend ++ [.val v], S1, b1, O, xs ++ [some x], by rw [← List.append_assoc, ← List.append_assoc]; exact e1, hl, by simp [hp], ?_⟩
    cases q2 : r ρ S1 with
    | bad => simp only [q2] at f
    | exc c v S' => simp only [q2] at f; exact f
    | ok ss S2 =>
      simp only [q2] at f
      intro H' b' O' ys e' hy
      exact f H' b' O' (x :: ys) (by simpa using e') (by simp [hy])
theorem so_own {e : Expr} {es : List Expr} {d : Den} {r : DenO} (he : PE X e (tEf W g E d)) (hr : PA X es (tO W g E r)) (hs : starEach (e :: es) X.env = (false, eval e X.env) :: starEach es X.env) : PA X (e :: es) (tO W g E (oCons true d r)) := by
  refine paI (pa_cons he hr hs) ?_
  rintro σ H Q ⟨ρ, pend, S, b, O, xs, en, hl, hp, f⟩
  refine ⟨ρ, S, b, O, en.cut hl, ?_⟩
  unfold oCons at f
  cases q : d ρ S with
  | bad => simp only [q, Rs.bnd] at f
  | exc c v S' =>
    simp only [q, Rs.bnd] at f
    intro x dd H' b' ad rx hd
    exact f x dd H' _ (en.adv ad).gh ((en.adv ad).low rx) hd
  | ok v S1 =>
    simp only [q, Rs.bnd] at f
    by_cases ho : (!true || isO v) = true
    case neg => rw [if_neg ho] at f; exact f.elim
    rw [if_pos ho] at f
    simp only [if_true] at f
    intro H1 b1 ad a o ha hm
    have e1 := (en.adv ad).snocO ha hm
    refine ⟨ρ, pend ++ [.own v], S1, _, _, xs ++ [some (.ref a)], by rw [← List.append_assoc, ← List.append_assoc]; exact e1, hl, by simp [hp], ?_⟩
    cases q2 : r ρ S1 with
    | bad => simp only [q2] at f
    | exc c v S' => simp only [q2] at f; exact f
    | ok ss S2 =>
      simp only [q2] at f
      intro H' b' O' ys e' hy
      exact f H' b' O' (.ref a :: ys) (by simpa using e') (by simp [hy])
def dPar2 (i j : Nat) (d : DenO) : DenS := fun ρ S => (d ρ S).bnd fun ss S1 => match ss with
  | [s, t] => .ok (.nx ((ρ.set i s).set j t)) S1
  | _ => .bad
theorem ss_par2 {i j : Nat} {x y : Str} {a c : Expr} {d : DenO} {px py pt pos : Pos} {kt k2 pt2} (hc : X.calm = true) (hN : X.N.Nodup) (hi : X.N[i]? = some x) (hj : X.N[j]? = some y) (hij : i ≠ j)
    (hx : X.env.scope.names.lookup x = some .local) (hy : X.env.scope.names.lookup y = some .local) (ha : PA X [a, c] (tO W g E d))
    (hw : swappedStores [.Tuple [.Name x px, .Name y py] kt pt] (.Tuple [a, c] k2 pt2) X.env = pure (some [x, y]))
    (hs : swapsWithSole [.Tuple [.Name x px, .Name y py] kt pt] (.Tuple [a, c] k2 pt2) pos.line X.env = pure false) :
    PS X (.Assign [.Tuple [.Name x px, .Name y py] kt pt] (.Tuple [a, c] k2 pt2) pos) (tS W g E (dPar2 i j d)) := by
  refine psI (ps_par hc hN hi hj hij hx hy ha hw hs) ?_
  rintro D σ H ⟨ρ, S, b, O, e, f⟩
  refine ⟨ρ, [], S, b, O, [], by simpa using e, e.len, rfl, ?_⟩
  unfold dPar2 at f
  cases q : d ρ S with
  | bad => rw [q] at f; exact f.elim
  | exc c v S' => rw [q] at f; exact f
  | ok ss S1 =>
    simp only [q, Rs.bnd] at f
    simp only
    intro H' b' O' ys e' hy
    split at f
    · rename_i s t
      match ys, hy with
      | [x, y], _ =>
        have e1 := EnvOk.pend (by simpa using e') e.len i
        have e2 := EnvOk.pend e1 (by rw [List.length_set, List.length_set]; exact e.len) j
        exact ⟨x, y, rfl, f _ _ _ _ (by simpa using e2)⟩
    · exact f.elim
def dPar3 (i j k : Nat) (d : DenO) : DenS := fun ρ S => (d ρ S).bnd fun ss S1 => match ss with
  | [s, t, u] => .ok (.nx (((ρ.set i s).set j t).set k u)) S1
  | _ => .bad
theorem ss_par3 {i j l : Nat} {x y z : Str} {a c e3 : Expr} {d : DenO} {px py pz pt pos : Pos} {kt k2 pt2} (hc : X.calm = true) (hN : X.N.Nodup) (hi : X.N[i]? = some x) (hj : X.N[j]? = some y) (hl : X.N[l]? = some z) (hij : i ≠ j) (hil : i ≠ l) (hjl : j ≠ l)
    (hx : X.env.scope.names.lookup x = some .local) (hy : X.env.scope.names.lookup y = some .local) (hz : X.env.scope.names.lookup z = some .local) (ha : PA X [a, c, e3] (tO W g E d))
    (hw : swappedStores [.Tuple [.Name x px, .Name y py, .Name z pz] kt pt] (.Tuple [a, c, e3] k2 pt2) X.env = pure (some [x, y, z]))
    (hs : swapsWithSole [.Tuple [.Name x px, .Name y py, .Name z pz] kt pt] (.Tuple [a, c, e3] k2 pt2) pos.line X.env = pure false) :
    PS X (.Assign [.Tuple [.Name x px, .Name y py, .Name z pz] kt pt] (.Tuple [a, c, e3] k2 pt2) pos) (tS W g E (dPar3 i j l d)) := by
  refine psI (ps_par3 hc hN hi hj hl hij hil hjl hx hy hz ha hw hs) ?_
  rintro D σ H ⟨ρ, S, b, O, e, f⟩
  refine ⟨ρ, [], S, b, O, [], by simpa using e, e.len, rfl, ?_⟩
  unfold dPar3 at f
  cases q : d ρ S with
  | bad => rw [q] at f; exact f.elim
  | exc c v S' => rw [q] at f; exact f
  | ok ss S1 =>
    simp only [q, Rs.bnd] at f
    simp only
    intro H' b' O' ys e' hy
    split at f
    · rename_i s t u
      match ys, hy with
      | [x, y, z], _ =>
        have e1 := EnvOk.pend (by simpa using e') e.len i
        have e2 := EnvOk.pend e1 (by rw [List.length_set, List.length_set]; exact e.len) j
        have e3 := EnvOk.pend e2 (by rw [List.length_set, List.length_set, List.length_set, List.length_set]; exact e.len) l
        exact ⟨x, y, z, rfl, f _ _ _ _ (by simpa using e3)⟩
    · exact f.elim

/-! ### x op= e -/
def dAug (i : Nat) (f : PV → PV → Option PV) (d : Den) : DenS := fun ρ S => if isSet (look ρ i) = true then (d ρ S).bnd fun u S1 => match look ρ i with
    | .val v => okE ((f v u).map fun w => ρ.set i (.val w)) S1
    | _ => .bad
  else .bad
/-- where a value function's rule of op= stands -/
theorem ss_aug {i : Nat} {x : Str} {e : Expr} {d : Den} {op : Operator} {f : PV → PV → Option PV} {r : TIp} {p0 pos : Pos} (hN : X.N.Nodup) (hi : X.N[i]? = some x) (hx : Loc X.env.scope x) (he : PE X e (tEv W g E d)) (ho : PIp X op r) (hf : Op2 W (RW W) (RW W) f r)
    (hfn : X.fn x = true ∨ X.env.scope.names.lookup x = some .local) : PS X (.AugAssign (.Name x p0) op e pos) (tS W g E (dAug i f d)) := by
  refine psI (ps_aug hN hi hx he ho hfn) ?_
  rintro D σ H ⟨ρ, S, b, O, e, fs⟩
  unfold dAug at fs
  split at fs
  case isFalse => exact fs.elim
  rename_i hset
  obtain ⟨z, hz⟩ := e.isSet hset
  refine ⟨z, hz, (exS (k := fun ρ u S1 => match look ρ i with
    | .val v => okE ((f v u).map fun w => ρ.set i (.val w)) S1
    | _ => .bad) ⟨ρ, S, b, O, e, fs⟩).imp fun u S1 H1 b1 _ ⟨ρ1, O1, e1, f1⟩ y ry => ?_⟩
  cases hq : look ρ1 i with
  | no => rw [hq] at f1; exact f1.elim
  | own p => rw [hq] at f1; exact f1.elim
  | val v =>
    simp only [hq] at f1
    have hs := e1.slot i
    unfold SlOk at hs
    rw [hq] at hs
    obtain ⟨z', h1, rz⟩ := hs
    rw [hz] at h1
    cases h1
    cases hw : f v u with
    | none => rw [hw] at f1; exact f1.elim
    | some w =>
      rw [hw] at f1
      exact hf v u w z y H1 b1 _ (fun p hp => e1.fresh hp) (.inl rz) (.inl ry) hw fun t H' k rt => f1 _ _ _ _ ((e1.adv (.grow e1.st k)).set rt)
end
end Tg
end
section
set_option Elab.async false
set_option linter.all false
set_option autoImplicit false
set_option maxRecDepth 100000
/-! more expressions -/
namespace Tg
open PySem PySem.Spec PyProof.Rows L2
section
variable {X : Cx} {W : Wd} {g : Gh} {E : XK}
/-! ### f-strings -/
def onT (v : PV) (k : List Nat → Rs PV) : Rs PV := match v with
  | .str s => k s
  | _ => .bad
def fmtK (v : PV) (S1 : Store) : Rs PV := match fText v with
  | some s => .ok (.str s) S1
  | none => .bad
def dFmt (d : Den) : Den := fun ρ S => (d ρ S).bnd fmtK
def jNil : Den := fun _ S => .ok (.str []) S
def jCons (a r : Den) : Den := fun ρ S => (a ρ S).bnd fun v S1 => onT v fun s => (r ρ S1).bnd fun u S2 => onT u fun t => .ok (.str (s ++ t)) S2
/-- no exception within -/
def dJs (r : Den) : Den := fun ρ S => match r ρ S with
  | .ok (.str t) S1 => if t.length ≤ sizeLine then .ok (.str t) S1 else .bad
  | _ => .bad
theorem se_fmt {e : Expr} {d : Den} {pos : Pos} (he : PE X e (tEv W g E d)) : PE X (.FormattedValue e (-1) none pos) (tEv W g E (dFmt d)) := by
  refine peI (pe_fmt he) ?_
  intro σ H Q h
  refine (tF.seq (k := fun _ => fmtK) h).imp fun v S1 H1 b1 s1 ⟨ρ, O, e1, f⟩ x rx => ?_
  have key : ∀ m : Nat, Q (.str ⟨(TL.numL m).toArray⟩) H1 → Q (.str (Str.ofString (toString (Int.ofNat m)))) H1 := fun m h => by
    rw [show Str.ofString (toString (Int.ofNat m)) = SX.S (TL.numL m) from SX.num_S m]; exact h
  unfold fmtK fText at f
  split at f
  · rename_i s hs
    split at hs
    · split at hs
      · rename_i z hz
        cases hs
        cases rx
        exact .inl ⟨_, rfl, by simpa [lenL] using hz, f H1 b1 (.refl s1) _ (.str _)⟩
      · cases hs
    · split at hs
      · rename_i n hn
        cases hs
        cases rx
        refine .inr ⟨_, rfl, by simpa using hn, ?_⟩
        exact key _ (f H1 b1 (.refl s1) _ (.str _))
      · cases hs
    · cases hs
  · exact f.elim
inductive JP (X : Cx) (W : Wd) (g : Gh) (E : XK) : List Expr → Den → Prop where
  | nil : JP X W g E [] jNil
  | cons {e : Expr} {es : List Expr} {d r : Den} (h : PE X e (tEv W g E d)) (t : JP X W g E es r) : JP X W g E (e :: es) (jCons d r)
theorem js_app (a c : List Nat) : (⟨a.toArray⟩ : Str) ++ ⟨c.toArray⟩ = ⟨(a ++ c).toArray⟩ := SX.S_cat a c
theorem jp_run {es : List Expr} {r : Den} (h : JP X W g E es r) : ∃ ts, PJ X es ts ∧ ∀ σ H acc (Q : Str → Hp → Prop), (∃ ρ S b O t S', EnvOk W g ρ S b O σ H ∧ r ρ S = .ok (.str t) S' ∧ (acc ++ t).length ≤ sizeLine ∧ ∀ H' b', Adv W b b' H H' S' → Q ⟨(acc ++ t).toArray⟩ H') → tJs ts ⟨acc.toArray⟩ σ H Q := by
  induction h with
  | nil =>
    refine ⟨[], .nil, ?_⟩
    rintro σ H acc Q ⟨ρ, S, b, O, t, S', e, q, hl, f⟩
    cases q
    have := f H b (.refl e.st)
    rw [List.append_nil] at this
    exact this
  | @cons ex es d r he _ ih =>
    obtain ⟨ts, pj, hr⟩ := ih
    refine ⟨_, .cons he pj, ?_⟩
    rintro σ H acc Q ⟨ρ, S, b, O, t, S', e, q, hl, f⟩
    unfold jCons at q
    cases q1 : d ρ S with
    | bad => rw [q1] at q; cases q
    | exc c v S1 => rw [q1] at q; cases q
    | ok v S1 =>
      rw [q1] at q
      cases v with
      | str s =>
        simp only [Rs.bnd, onT] at q
        cases q2 : r ρ S1 with
        | bad => rw [q2] at q; cases q
        | exc c v S1 => rw [q2] at q; cases q
        | ok u S2 =>
          rw [q2] at q
          cases u with
          | str t2 =>
            simp only [Rs.ok.injEq, PV.str.injEq] at q
            obtain ⟨rfl, rfl⟩ := q
            refine ⟨ρ, S, b, O, e, ?_⟩
            rw [q1]
            intro H1 b1 d1 x rx
            cases rx
            refine ⟨_, rfl, ?_, ?_⟩
            · rw [js_app, lenL]
              rw [← List.append_assoc, List.length_append] at hl
              omega
            · rw [js_app]
              exact hr σ H1 (acc ++ s) Q ⟨ρ, S1, b1, O, t2, S2, e.adv d1, q2, by rw [List.append_assoc]; exact hl, fun H' b' dd => by rw [List.append_assoc]; exact f H' b' (d1.trans dd)⟩
          | _ => cases q
      | _ => cases q
theorem se_js {e1 e2 : Expr} {es : List Expr} {r : Den} {pos : Pos} (h : JP X W g E (e1 :: e2 :: es) r) : PE X (.JoinedStr (e1 :: e2 :: es) pos) (tEv W g E (dJs r)) := by
  obtain ⟨ts, pj, hr⟩ := jp_run h
  refine peI (pe_joined pj) ?_
  rintro σ H Q ⟨ρ, S, b, O, e, f⟩
  unfold dJs at f
  split at f
  · rename_i t S1 q
    split at f
    · rename_i hl
      exact hr σ H [] _ ⟨ρ, S, b, O, t, S1, e, q, hl, fun H' b' dd => f H' b' dd _ (.str t)⟩
    · exact f.elim
  · exact f.elim
/-! ### -a -/
theorem se_neg {a : Expr} {da : Den} {pos : Pos} (ha : PE X a (tEr W g E (RW W) da)) : PE X (.UnaryOp .USub a pos) (tEv W g E (dB1 vNeg da)) :=
  peI (pe_un un_neg ha) fun σ H Q h => (one (Ra := RW W) (k := fun _ v S => okv (vNeg v) S) h).imp fun _ _ _ _ _ q y ry => by
    refine op1_end (Ra := RW W) (f := vNeg) ?_ (q y ry)
    intro v w x H b Q hf rv hw k
    unfold vNeg at hw
    split at hw
    · cases rw_int rv; cases hw
      exact ⟨_, rfl, k _ H (fun _ _ e => e) (.int _)⟩
    · cases hw
/-! ### x.rpartition(c) -/
def rpar (c : Nat) : List Nat → Option (List Nat × List Nat)
  | [] => none
  | x :: xs => match rpar c xs with
    | some (p, q) => some (x :: p, q)
    | none => if x = c then some ([], xs) else none
def mRpart : PV → PV → Option PV
  | .str a, .str [c] => if a.length ≤ sizeLine then some (match rpar c a with
    | some (p, q) => .tup [.str p, .str [c], .str q]
    | none => .tup [.str [], .str [], .str a]) else none
  | _, _ => none
theorem rpar_none {c : Nat} : ∀ {a : List Nat}, rpar c a = none → ∀ i : Nat, a[i]? ≠ some c
  | [], _, i, h => by simp at h
  | x :: xs, e, i, h => by
    unfold rpar at e
    cases q : rpar c xs with
    | some pq => obtain ⟨p, q'⟩ := pq; rw [q] at e; cases e
    | none =>
      rw [q] at e
      simp only at e
      split at e
      · cases e
      · rename_i hne
        cases i with
        | zero => simp at h; exact hne h
        | succ i => exact rpar_none q i (by simpa using h)
theorem rpar_some {c : Nat} : ∀ {a p q : List Nat}, rpar c a = some (p, q) → a = p ++ c :: q ∧ ∀ k : Nat, p.length < k → a[k]? ≠ some c
  | x :: xs, p, q, e => by
    unfold rpar at e
    cases h : rpar c xs with
    | some pq =>
      obtain ⟨p', q'⟩ := pq
      rw [h] at e
      cases e
      obtain ⟨h1, h2⟩ := rpar_some h
      refine ⟨by rw [h1]; rfl, fun k hk => ?_⟩
      cases k with
      | zero => simp at hk
      | succ k =>
        rw [List.getElem?_cons_succ]
        exact h2 k (by simpa using hk)
    | none =>
      rw [h] at e
      simp only at e
      split at e
      · rename_i hc
        cases e
        refine ⟨by rw [hc]; rfl, fun k hk => ?_⟩
        cases k with
        | zero => simp at hk
        | succ k =>
          rw [List.getElem?_cons_succ]
          exact rpar_none h k
      · cases e
theorem last_rpar (a : List Nat) (c : Nat) : Builtin.Str.lastOccurrence ⟨a.toArray⟩ ⟨#[c]⟩ 0 (⟨a.toArray⟩ : Str).length = (rpar c a).map (fun pq => pq.1.length) := by
  have hat : ∀ i, StrLaws.At ⟨a.toArray⟩ ⟨#[c]⟩ (⟨a.toArray⟩ : Str).length i ↔ a[i]? = some c := fun i => by
    have := StrLaws.subAt_one ⟨a.toArray⟩ c i
    exact this
  rcases StrLaws.last_spec ⟨a.toArray⟩ ⟨#[c]⟩ with ⟨h1, h2⟩ | ⟨i, h1, h2, h3⟩
  · rw [h1]
    cases q : rpar c a with
    | none => rfl
    | some pq =>
      obtain ⟨p, r⟩ := pq
      obtain ⟨e, _⟩ := rpar_some q
      have : a[p.length]? = some c := by rw [e]; simp
      exact absurd ((hat _).mpr this) (h2 _)
  · rw [h1]
    cases q : rpar c a with
    | none => exact absurd ((hat i).mp h2) (rpar_none q i)
    | some pq =>
      obtain ⟨p, r⟩ := pq
      obtain ⟨e, h4⟩ := rpar_some q
      have hp : a[p.length]? = some c := by rw [e]; simp
      rcases Nat.lt_trichotomy i p.length with h | h | h
      · exact absurd ((hat _).mpr hp) (h3 _ h)
      · rw [h]; rfl
      · exact absurd ((hat i).mp h2) (h4 i h)
theorem mt_rpartF : MtR X "str.rpartition" (fun x xs H Q => ∃ (a : List Nat) (c : Nat), x = .str ⟨a.toArray⟩ ∧ xs = [.str ⟨#[c]⟩] ∧ a.length ≤ sizeLine ∧
    NewT (match rpar c a with
      | some (p, q) => [.str ⟨p.toArray⟩, .str ⟨#[c]⟩, .str ⟨q.toArray⟩]
      | none => [.str ⟨#[]⟩, .str ⟨#[]⟩, .str ⟨a.toArray⟩]) H Q) := by
  intro pins s σ H x xs v us Q I rx rs h
  obtain ⟨a, c, rfl, rfl, hz, h⟩ := h
  obtain ⟨t, rfl⟩ := rx
  cases rs with
  | cons r1 rs =>
    cases rs
    obtain ⟨u, rfl⟩ := r1
    refine call_meets PySem.F.slot_str_rpartition (typeIs_str _ _ _) PySem.F.entry_str_rpartition (PySem.F.args_str_rpartition_2 _ _) (meets_str_rpartition _ _ t u rfl (by rw [lenL]; exact hz)) ?_
    rw [last_rpar]
    cases q : rpar c a with
    | none =>
      rw [q] at h
      exact newT_end I (.cons (relTx _ _) (.cons (relTx _ _) (.cons (relTx _ _) .nil))) (by show 3 ≤ sizeLine; decide) h
    | some pq =>
      obtain ⟨p, r⟩ := pq
      rw [q] at h
      obtain ⟨e, _⟩ := rpar_some q
      have e1 : Builtin.Str.strSub ⟨a.toArray⟩ 0 p.length = ⟨p.toArray⟩ := TL.ext_tl (by rw [TL.tl_strSub, List.drop_zero, Nat.sub_zero]; show a.take p.length = p; rw [e]; simp)
      have e2 : Builtin.Str.strSub ⟨a.toArray⟩ (p.length + (⟨#[c]⟩ : Str).length) (⟨a.toArray⟩ : Str).length = ⟨r.toArray⟩ := TL.ext_tl (by rw [TL.tl_strSub_end]; show a.drop (p.length + 1) = r; rw [e]; simp)
      simp only [Option.map_some]
      rw [e1, e2]
      exact newT_end I (.cons (relTx _ _) (.cons (relTx _ _) (.cons (relTx _ _) .nil))) (by show 3 ≤ sizeLine; decide) h
end
end Tg
end
section
set_option Elab.async false
set_option linter.all false
set_option autoImplicit false
set_option maxRecDepth 100000
/-! dicts: made, walked; a local def; cells -/
namespace Tg
open PySem PySem.Spec PyProof.Rows L2
section
variable {X : Cx} {W : Wd} {g : Gh} {E : XK}
/-! ### dict(pairs) -/
def pairOf : PV → Option (KP × PV)
  | .tup [k, v] => match kOf k with
    | some k => some (k, v)
    | none => none
  | _ => none
def pairsOf : List PV → Option (List (KP × PV))
  | [] => some []
  | p :: ps => match pairOf p, pairsOf ps with
    | some q, some qs => some (q :: qs)
    | _, _ => none
def mergeL (kvs more : List (KP × PV)) : List (KP × PV) := more.foldl (fun acc kv => putL acc kv.1 kv.2) kvs
def uDict : PV → Option PV
  | .tup l => (pairsOf l).map fun ps => .dct (mergeL [] ps)
  | .lst l => (pairsOf l).map fun ps => .dct (mergeL [] ps)
  | _ => none
/-- a list or a tuple of pairs, what it lies on -/
def PlainAt (K : PySem.W.Frag) (H : Hp) (a : Addr) (T : String) (xs : List V) : Prop := (T = "list" ∧ SqL K H a xs) ∨ (T = "tuple" ∧ (PTu H a xs ∨ KTup K a xs))
theorem plain_of {pins : List (Addr × Obj)} {σ : L2.St} {H : Hp} {s : Shared} {a : Addr} {T : String} {xs : List V} (I : Inv X pins σ H s) (h : PlainAt X.K H a T xs) : ∃ us : List Value, Vals xs us ∧ PlainSeq T s.heap a us.toArray ∧ xs.length ≤ sizeLine := by
  rcases h with ⟨rfl, h⟩ | ⟨rfl, ⟨o, e, hd⟩ | ⟨o, its, n, ⟨h1, h2, h3, h4, h5⟩, hd⟩⟩
  · obtain ⟨us, r, ⟨o, n, ho, hc, hd, hdat⟩, hz⟩ := I.list h
    exact ⟨us, r, ⟨o, n, ho, hc, hd, hdat⟩, hz⟩
  · obtain ⟨h1, h2, us, r, o', ho', hc, n, hdat⟩ := I.hok a _ e
    rw [h1] at ho'
    cases ho'
    exact ⟨us, r, ⟨o, n, h1, hc, hd, hdat⟩, h2⟩
  · exact ⟨its.toList, h5, ⟨o, n, I.kIn _ _ h1, h2, hd, by simpa using h3⟩, by rw [h5.length]; simpa using h4⟩
theorem call_dictT (hcalm : X.calm = true) : CallR X (.type "dict") (fun xs H Q => ∃ (a : Addr) (T : String) (ps : List Addr) (kvs : List (Key × V)), xs = [.ref a] ∧ PlainAt X.K H a T (ps.map V.ref) ∧ Paired (fun p kv => SqT X.K H p [kV kv.1, kv.2]) ps kvs ∧
    ∀ p, H p = none → Q (.ref p) (upd H p (.dK (mergeK [] kvs)))) := by
  intro pins s σ H xs us Q I r q
  obtain ⟨a, T, ps, kvs, rfl, hq, hp, q⟩ := q
  obtain ⟨u, rfl, rx⟩ := vals1 r
  cases rx
  obtain ⟨ts, rv, pl, hz⟩ := plain_of I hq
  have ei := refs_at rv
  subst ei
  rw [List.length_map] at hz
  obtain ⟨prs, rel, hl, hpr⟩ := pairs_of I hp
  -- the pairs as the walk reads them
  have hex : ∀ j : Nat, ∃ u : Value, ∀ q : Key × Value, prs[j]? = some q → ∃ b : Addr, ps[j]? = some b ∧ IsTup s.heap b #[u, q.2] ∧ keyIs q.1 u = true := fun j => by
    cases e : prs[j]? with
    | none => exact ⟨.none, fun q h => by cases h⟩
    | some q =>
      obtain ⟨b, u, h1, h2, h3⟩ := hpr j q e
      exact ⟨u, fun q' h => by cases h; exact ⟨b, h1, h2, h3⟩⟩
  let kf : Nat → Value := fun j => Classical.choose (hex j)
  have hkf : ∀ j (q : Key × Value), prs[j]? = some q → ∃ b : Addr, ps[j]? = some b ∧ IsTup s.heap b #[kf j, q.2] ∧ keyIs q.1 (kf j) = true := fun j => Classical.choose_spec (hex j)
  let pv : List (Value × Value) := prs.mapIdx fun j q => (kf j, q.2)
  have hpv : ∀ (j : Nat) (k v : Value), pv[j]? = some (k, v) → ∃ q, prs[j]? = some q ∧ k = kf j ∧ v = q.2 := fun j k v h => by
    simp only [pv, List.getElem?_mapIdx] at h
    cases e : prs[j]? with
    | none => rw [e] at h; cases h
    | some q => rw [e] at h; cases h; exact ⟨q, rfl, rfl, rfl⟩
  have hpl : pv.length = prs.length := by simp [pv]
  have ok : PlainSeq T s.heap a (ps.map Value.ref).toArray ∧ PairItems s.heap (ps.map Value.ref).toArray (fun j => ps.getD j 0) pv := by
    refine ⟨pl, by simp [hpl, hl], fun j k v h => ?_⟩
    obtain ⟨q, h1, rfl, rfl⟩ := hpv j k v h
    obtain ⟨b, e1, e2, _⟩ := hkf j q h1
    refine ⟨by simp [e1], .inl ?_⟩
    have : ps.getD j 0 = b := by rw [List.getD_eq_getElem?_getD, e1]; rfl
    show s.heap.IsTuple (ps.getD j 0) _
    rw [this]
    exact e2
  have have' : PairsHave (mixKind X.prog X.w) pv.length (PairRel pv) prs := ⟨hpl.symm, fun i key v h => by
    obtain ⟨q, h1, rfl, rfl⟩ := hpv i key v h
    obtain ⟨b, _, _, e3⟩ := hkf i q h1
    exact ⟨q.1, h1, e3⟩⟩
  have end' : ∀ h' tk, h'.DictOf (mixKind X.prog X.w) s.heap.objs.size (merged [] prs) → (∀ b o, b ∉ ([] : List Addr) → s.heap.get? b = some o → h'.get? b = some o) → EP X pins σ Q (.ref s.heap.objs.size) { s with heap := h', toks := tk } := fun h' tk hd' k => by
    have hm : (s.heap.objs.size == sysModules) = false := beq_eq_false_iff_ne.mpr (Nat.ne_of_gt I.big)
    have hn : (mergeK [] kvs).length ≤ sizeLine := Nat.le_trans (length_mergeK kvs []) (by rw [List.length_nil, Nat.zero_add, rel.length, hl]; exact hz)
    exact ⟨.ref s.heap.objs.size, upd H s.heap.objs.size (.dK (mergeK [] kvs)), I.laid (fun b u e => k b u (by simp) e) (Nat.le_refl _) ⟨hn, hm, merged [] prs, KV.merge rel .nil, hd'⟩, rfl, q _ (I.hok.fresh (Nat.le_refl _))⟩
  have hzp : pv.length ≤ sizeLine := by rw [hpl, hl]; exact hz
  rcases hq with ⟨rfl, _⟩ | ⟨rfl, _⟩
  · exact PySem.call_dict_pairs (PairArg.list a (ps.map Value.ref).toArray (fun j => ps.getD j 0) pv) (I.ok.hd hcalm) ok have' hzp end'
  · exact PySem.call_dict_pairs (PairArg.tuple a (ps.map Value.ref).toArray (fun j => ps.getD j 0) pv) (I.ok.hd hcalm) ok have' hzp end'
theorem pairOf_eq {p : PV} {k : KP} {v : PV} (h : pairOf p = some (k, v)) : ∃ kv, p = .tup [kv, v] ∧ kOf kv = some k := by
  unfold pairOf at h
  split at h
  · rename_i k0 v0
    cases q : kOf k0 with
    | none => rw [q] at h; cases h
    | some k1 => rw [q] at h; cases h; exact ⟨k0, rfl, q⟩
  · cases h
theorem pairs_rep {H : Hp} {b : Bn} : ∀ {l : List PV} {xs : List V} {ps : List (KP × PV)}, Reps W H b l xs → pairsOf l = some ps → ∃ (as : List Addr) (kvs : List (Key × V)), xs = as.map V.ref ∧ Paired (fun p kv => SqT W.K H p [kV kv.1, kv.2]) as kvs ∧ RepK W H b ps kvs
  | _, _, _, .nil, e => by cases e; exact ⟨[], [], rfl, .nil, .nil⟩
  | p :: l, _, ps, .cons r t, e => by
    unfold pairsOf at e
    cases q1 : pairOf p with
    | none => rw [q1] at e; cases e
    | some kv =>
      cases q2 : pairsOf l with
      | none => rw [q1, q2] at e; cases e
      | some qs =>
        rw [q1, q2] at e
        simp only [Option.some.injEq] at e
        subst e
        obtain ⟨k, v⟩ := kv
        obtain ⟨kp, rfl, hk⟩ := pairOf_eq q1
        obtain ⟨as, kvs, rfl, hp, hr⟩ := pairs_rep t q2
        cases r with
        | @tup a xs _ hn rs =>
          cases rs with
          | cons rk rs =>
            cases rs with
            | cons rv rs =>
              cases rs
              have ek := kOf_of hk (.inl rk)
              subst ek
              refine ⟨a :: as, (kK k, _) :: kvs, rfl, .cons ?_ hp, .cons rv hr⟩
              rcases hn with ⟨_, h⟩ | h
              · exact h.sq _
              · exact h.sq
theorem RepK.merge {H : Hp} {b : Bn} : ∀ {more : List (KP × PV)} {xs : List (Key × V)} {kvs : List (KP × PV)} {ys : List (Key × V)}, RepK W H b more xs → RepK W H b kvs ys → RepK W H b (mergeL kvs more) (mergeK ys xs)
  | _, _, _, _, .nil, r => r
  | _, _, _, _, .cons rv t, r => by
    unfold mergeL mergeK
    rw [List.foldl_cons, List.foldl_cons]
    exact RepK.merge t (r.put rv)
theorem sf_dict {e : Expr} {d : Den} {p pos : Pos} (hK : X.K = W.K) (hc : X.calm = true) (hg : Gl X "dict") (hm : X.mg "dict" = none) (he : PE X e (tEv W g E d))
    (hs : starEach [e] X.env = (false, eval e X.env) :: starEach [] X.env) (hpl : (backTo pos (starEach [] X.env)).any (·.1) = false) : PE X (.Call (.Name "dict" p) [e] [] pos) (tEf W g E (dB1 uDict d)) := by
  refine peI (pe_callTy (call_dictT hc) hg hm (by decide +kernel) (pa_cons he pa_nil hs) (by decide) (by decide) hs hpl) ?_
  intro σ H Q h
  refine (tF.seq (k := fun _ v S => okv (uDict v) S) h).imp fun v S1 H1 b1 s1 ⟨ρ, O, e1, f⟩ x rx => ?_
  cases v with
  | tup l =>
    simp only [uDict] at f
    cases q : pairsOf l with
    | none => rw [q] at f; exact f.elim
    | some ps =>
      rw [q] at f
      cases rx with
      | @tup a xs _ hn rs =>
        obtain ⟨as, kvs, rfl, hp, hr⟩ := pairs_rep rs q
        refine ⟨a, "tuple", as, kvs, rfl, .inr ⟨rfl, ?_⟩, hK ▸ hp, fun p hp => f H1 b1 (.refl s1) p _ hp (RepK.merge hr .nil)⟩
        rw [hK]
        rcases hn with ⟨_, h⟩ | h
        · exact .inl h
        · exact .inr h
  | lst l =>
    simp only [uDict] at f
    cases q : pairsOf l with
    | none => rw [q] at f; exact f.elim
    | some ps =>
      rw [q] at f
      cases rx with
      | @lst a xs _ h rs =>
        obtain ⟨as, kvs, rfl, hp, hr⟩ := pairs_rep rs q
        exact ⟨a, "list", as, kvs, rfl, .inl ⟨rfl, hK ▸ lst_sq h⟩, hK ▸ hp, fun p hp => f H1 b1 (.refl s1) p _ hp (RepK.merge hr .nil)⟩
  | _ => exact f.elim

/-! ### {} -/
theorem sf_dnew {pos : Pos} : PE X (.Dict [] [] pos) (tEf W g E (dC (.dct []))) := by
  refine peI pe_dnewK ?_
  rintro σ H Q ⟨ρ, S, b, O, e, f⟩
  intro p hp
  exact f H b (.refl e.st) p _ hp .nil

/-! ### d.keys(), d.values(), d.items(), d -/
/-- the dict is fixed from now on -/
def tFix (te : TE) : TE := fun σ H Q => te σ H fun x H1 => ∃ d kvs, x = .ref d ∧ ((H1 d = some (.dK kvs) ∧ ∀ od, Q x (upd H1 d (.frz od (.dK kvs)))) ∨ ∃ od, H1 d = some (.frz od (.dK kvs)) ∧ Q x H1)
theorem pe_fix {e : Expr} {te : TE} (h : PE X e te) : PE X e (tFix te) := ⟨fun pins s σ H Q I hq => by
  refine thn (h.run pins s σ H _ I hq) fun u s1 ⟨x, H1, I1, r, d, kvs, ex, q⟩ => ?_
  rcases q with ⟨hd, q⟩ | ⟨od, hd, q⟩
  · obtain ⟨od, I2⟩ := I1.lock hd trivial
    exact ⟨x, _, I2, r, q od⟩
  · exact ⟨x, H1, I1, r, q⟩⟩
/-- what is walked in a dict -/
inductive DW where
  | keys | vals | items
  deriving DecidableEq
def kV' : KP → PV
  | .i n => .int n
  | .s l => .str l
def DW.of : DW → List (KP × PV) → List PV
  | .keys, ps => ps.map fun kv => kV' kv.1
  | .vals, ps => ps.map (·.2)
  | .items, ps => ps.map fun kv => pr (kV' kv.1) kv.2
def walkV (m : DW) : PV → Option (List PV)
  | .dct ps => some (m.of ps)
  | _ => none
def dWalk (m : DW) (d : Den) : Den := fun ρ S => (d ρ S).bnd fun v S1 => okL (walkV m v) S1
theorem kV_rep {H : Hp} {b : Bn} (k : KP) : Rep W H b (kV' k) (kV (kK k)) := by
  cases k with
  | i n => exact .int n
  | s l => exact .str l
theorem RepK.get {H : Hp} {b : Bn} : ∀ {ps : List (KP × PV)} {xs : List (Key × V)} {i : Nat} {q : KP × PV}, RepK W H b ps xs → ps[i]? = some q → ∃ x, xs[i]? = some (kK q.1, x) ∧ Rep W H b q.2 x
  | _, _, 0, _, .cons r _, e => by simp at e; subst e; exact ⟨_, rfl, r⟩
  | _, _, i + 1, _, .cons _ t, e => by
    obtain ⟨x, h1, h2⟩ := RepK.get (i := i) t (by simpa using e)
    exact ⟨x, by simpa using h1, h2⟩
/-- a fixed dict, later -/
theorem fix_kp {b b' : Bn} {H H' : Hp} {a : Addr} {od : Obj} {kvs : List (Key × V)} (k : Kp b b' H H') (n : ¬ b.no a) (e : H a = some (.frz od (.dK kvs))) : H' a = some (.frz od (.dK kvs)) := by
  obtain ⟨⟨o', q, kd⟩, _⟩ := k.k a _ e n
  rw [kd.frz] at q
  exact q
theorem src_vals {H : Hp} {b : Bn} {ps : List (KP × PV)} {kvs : List (Key × V)} {a : Addr} {od : Obj} (n : ¬ b.no a) (e : H a = some (.frz od (.dK kvs))) (r : RepK W H b ps kvs) : SrcOk W false (Itd a od kvs) H b (DW.vals.of ps) := by
  intro H' b' k hf i
  have e' := fix_kp k n e
  have r' := RepK.kp k r
  have hl := RepK.length r'
  refine ⟨fun p hp => ?_, fun hi => ⟨e', by rw [← hl]; simpa [DW.of] using hi⟩⟩
  simp only [DW.of, List.getElem?_map] at hp
  cases q : ps[i]? with
  | none => rw [q] at hp; cases hp
  | some kv =>
    rw [q] at hp
    cases hp
    obtain ⟨x, hx, rx⟩ := RepK.get r' q
    refine ⟨⟨e', (List.getElem?_eq_some_iff.mp hx).1⟩, fun z H'' y => ?_⟩
    obtain ⟨rfl, k', hk⟩ := y
    rw [hx] at hk
    cases hk
    exact ⟨fun _ _ e => e, .inl rx⟩
theorem src_keys {H : Hp} {b : Bn} {ps : List (KP × PV)} {kvs : List (Key × V)} {a : Addr} {od : Obj} (n : ¬ b.no a) (e : H a = some (.frz od (.dK kvs))) (r : RepK W H b ps kvs) : SrcOk W false (Itk a od kvs) H b (DW.keys.of ps) := by
  intro H' b' k hf i
  have e' := fix_kp k n e
  have r' := RepK.kp k r
  have hl := RepK.length r'
  refine ⟨fun p hp => ?_, fun hi => ⟨e', by rw [← hl]; simpa [DW.of] using hi⟩⟩
  simp only [DW.of, List.getElem?_map] at hp
  cases q : ps[i]? with
  | none => rw [q] at hp; cases hp
  | some kv =>
    rw [q] at hp
    cases hp
    obtain ⟨x, hx, rx⟩ := RepK.get r' q
    refine ⟨⟨e', (List.getElem?_eq_some_iff.mp hx).1⟩, fun z H'' y => ?_⟩
    obtain ⟨rfl, k', v', hk, rfl⟩ := y
    rw [hx] at hk
    cases hk
    exact ⟨fun _ _ e => e, .inl (kV_rep _)⟩
theorem src_items {H : Hp} {b : Bn} {ps : List (KP × PV)} {kvs : List (Key × V)} {a : Addr} {od : Obj} (n : ¬ b.no a) (e : H a = some (.frz od (.dK kvs))) (r : RepK W H b ps kvs) : SrcOk W true (Iti a od kvs) H b (DW.items.of ps) := by
  intro H' b' k hf i
  have e' := fix_kp k n e
  have r' := RepK.kp k r
  have hl := RepK.length r'
  refine ⟨fun p hp => ?_, fun hi => ⟨e', by rw [← hl]; simpa [DW.of] using hi⟩⟩
  simp only [DW.of, List.getElem?_map] at hp
  cases q : ps[i]? with
  | none => rw [q] at hp; cases hp
  | some kv =>
    rw [q] at hp
    cases hp
    obtain ⟨x, hx, rx⟩ := RepK.get r' q
    refine ⟨⟨e', (List.getElem?_eq_some_iff.mp hx).1⟩, fun z H'' y => ?_⟩
    obtain ⟨T, k', v', hk, rfl, hT, rfl⟩ := y
    rw [hx] at hk
    cases hk
    exact ⟨same_upd hT, .inr ⟨rfl, _, T, _, rfl, rfl, upd_same, .cons ((kV_rep _).grow (same_upd hT)) (.cons (rx.grow (same_upd hT)) .nil)⟩⟩
/-- the reading of the dict that is walked -/
theorem walk_of {m : DW} {w : Bool} {d : Den} {σ : L2.St} {H : Hp} {R : It → Hp → Prop} {J : Addr → Obj → List (Key × V) → It} (hJ : ∀ {H : Hp} {b : Bn} {ps : List (KP × PV)} {kvs : List (Key × V)} {a : Addr} {od : Obj}, ¬ b.no a → H a = some (.frz od (.dK kvs)) → RepK W H b ps kvs → SrcOk W w (J a od kvs) H b (m.of ps))
    (h : tI W w g E (dWalk m d) σ H R) : tFix (tEv W g E d) σ H fun x H1 => ∃ a od kvs, x = .ref a ∧ H1 a = some (.frz od (.dK kvs)) ∧ R (J a od kvs) H1 := by
  refine (tF.seq (k := fun _ v S1 => okL (walkV m v) S1) h).imp fun v S1 H1 b1 s1 ⟨ρ, O, e1, f⟩ x rx => ?_
  cases v with
  | dct ps =>
    cases rx with
    | @dct a kvs _ hn r =>
      obtain ⟨n, hd⟩ := hn
      refine ⟨a, kvs, rfl, ?_⟩
      rcases hd with hd | ⟨od, hd⟩
      · refine .inl ⟨hd, fun od => ⟨a, od, kvs, rfl, upd_same, ?_⟩⟩
        have st : Stp b1 b1 H1 (upd H1 a (.frz od (.dK kvs))) := ⟨fun _ => Iff.rfl, ⟨[], by simp⟩, fun _ h n => absurd h n, fun c o q _ => by
          by_cases z : c = a
          · subst z
            rw [hd] at q
            cases q
            exact ⟨_, upd_same, .inr ⟨od, kvs, rfl, rfl⟩, fun h => absurd (.inl h) n⟩
          · exact ⟨o, by rw [upd_ne z]; exact q, .refl, fun _ => rfl⟩⟩
        have kp : Kp b1 b1 H1 (upd H1 a (.frz od (.dK kvs))) := st.kp
        have so : StoreOk W (upd H1 a (.frz od (.dK kvs))) b1 S1 := s1.kp kp rfl fun c hc => upd_ne fun z => n (.inr (by rw [← z]; exact hc))
        exact f _ b1 ⟨st, so⟩ _ (hJ n upd_same (RepK.kp kp r))
      · exact .inr ⟨od, hd, a, od, kvs, rfl, hd, f H1 b1 (.refl s1) _ (hJ n hd r)⟩
  | _ => exact f.elim
theorem si_vals {tg e : Expr} {d : Den} {apos cpos : Pos} (he : PE X e (tEv W g E d)) (hbase : attributeBase e "values" X.env (eval e X.env) = eval e X.env) (hline : (apos.endLine == cpos.line) = true) :
    PI X tg (.Call (.Attribute e "values" apos) [] [] cpos) (tI W false g E (dWalk .vals d)) :=
  ⟨fun pins s σ H R I h => (pi_values (pe_fix he) hbase hline).run pins s σ H R I (by
    have := walk_of (J := Itd) src_vals h
    refine this.imp fun v S' H' b' _ q x rx => ?_
    obtain ⟨d, kvs, rfl, q⟩ := q x rx
    refine ⟨d, kvs, rfl, ?_⟩
    rcases q with ⟨h1, h2⟩ | ⟨od, h1, h2⟩
    · refine .inl ⟨h1, fun od => ?_⟩
      obtain ⟨a, od', kvs', ea, h3, h4⟩ := h2 od
      exact ⟨a, od', kvs', ea, h3, h4⟩
    · obtain ⟨a, od', kvs', ea, h3, h4⟩ := h2
      exact .inr ⟨od, h1, a, od', kvs', ea, h3, h4⟩)⟩
theorem si_items {e : Expr} {elts : List Expr} {kk : Nat} {tpos : Pos} {d : Den} {apos cpos : Pos} (he : PE X e (tEv W g E d)) (hbase : attributeBase e "items" X.env (eval e X.env) = eval e X.env) (hline : (apos.endLine == cpos.line) = true) :
    PI X (.Tuple elts kk tpos) (.Call (.Attribute e "items" apos) [] [] cpos) (tI W true g E (dWalk .items d)) :=
  ⟨fun pins s σ H R I h => (pi_items (pe_fix he) hbase hline).run pins s σ H R I (walk_of (J := Iti) src_items h)⟩
theorem si_keys {tg e : Expr} {d : Den} (he : PE X e (tEv W g E d)) : PI X tg e (tI W false g E (dWalk .keys d)) :=
  ⟨fun pins s σ H R I h => (pi_keys (pe_fix he)).run pins s σ H R I (by
    have := walk_of (J := Itk) src_keys h
    refine this.imp fun v S' H' b' _ q x rx => ?_
    obtain ⟨d, kvs, rfl, q⟩ := q x rx
    refine ⟨d, kvs, rfl, ?_⟩
    rcases q with ⟨h1, h2⟩ | ⟨od, h1, h2⟩
    · refine .inl ⟨h1, fun od => ?_⟩
      obtain ⟨a, od', kvs', ea, h3, h4⟩ := h2 od
      exact ⟨a, od', ea, .inl ⟨kvs', h3, h4⟩⟩
    · obtain ⟨a, od', kvs', ea, h3, h4⟩ := h2
      exact .inr ⟨od, h1, a, od', ea, .inl ⟨kvs', h3, h4⟩⟩)⟩
end
end Tg
end
section
set_option Elab.async false
set_option linter.all false
set_option autoImplicit false
set_option maxRecDepth 100000
/-! comprehensions stored; two clauses -/
namespace Tg
open PySem PySem.Spec PyProof.Rows L2
section
variable {X : Cx} {W : Wd} {g : Gh} {E : XK}
/-- name = a fresh thing: owned, or a value -/
theorem own_end {i : Nat} {d : Den} {D : Ends} {σ : L2.St} {H : Hp} (h : tS W g E (dOwn i d) D σ H) : tAsg (tEf W g E d) (gName i) D σ H := by
  refine (exS h).imp fun v S1 H1 b1 _ ⟨ρ, O, e1, f⟩ a o ha hm => ?_
  split at f
  · exact f _ _ _ _ (e1.setO i ha hm)
  · exact f.elim
theorem val_end {i : Nat} {d : Den} {D : Ends} {σ : L2.St} {H : Hp} (h : tS W g E (dAsg (.name i) d) D σ H) : tAsg (tEf W g E d) (gName i) D σ H := by
  refine (exS h).imp fun v S1 H1 b1 s1 ⟨ρ, O, e1, f⟩ a o ha hm => ?_
  have e2 := e1.adv (.new (o := o) s1 ha)
  exact f _ _ _ _ (e2.set (hm.rep ha (e1.fresh ha)))
theorem ss_setLc {w own : Bool} {i : Nat} {y : Str} {py : Pos} {elt tg iter : Expr} {ifs : List Expr} {scope : Scope} {own' : List (Str × Nat)} {pos spos : Pos} {t : Tgt} {src tt te : Den} (hc : X.calm = true) (hN : X.N.Nodup) (hy : X.N[i]? = some y) (hyl : X.env.scope.names.lookup y = some .local)
    (hsw : swapsWith (.ListComp elt [⟨tg, iter, ifs, 0⟩] scope pos) (some (.Name y py)) spos.line X.env = pure true) (hi : PI X tg iter (tI W w g E src)) (ok : BlkOk X.N X.env.scope scope own') (hv : ∀ i ∈ t.slots, i ∈ own'.map (·.2))
    (hg : ∀ (s : Shared) (H : Hp) (C : Addr) (cl : List (Str × Addr)) (fp : List Addr), PG (X.blk s H scope (compEnvC scope cl C X.env) fp) tg (tG W w g t))
    (ht : ∀ (s : Shared) (H : Hp) (C : Addr) (cl : List (Str × Addr)) (fp : List Addr), PTs (X.blk s H scope (compEnvC scope cl C X.env) fp) ifs (tEt W g XK0 tt))
    (he : ∀ (s : Shared) (H : Hp) (C : Addr) (cl : List (Str × Addr)) (fp : List Addr), PE (X.blk s H scope (compEnvC scope cl C X.env) fp) elt (tEv W g XK0 te)) (hs : ∀ x, foldedSetIterable iter X.env x = pure x) :
    PS X (.Assign [.Name y py] (.ListComp elt [⟨tg, iter, ifs, 0⟩] scope pos) spos) (tS W g E (if own = true then dOwn i (dLc (own'.map (·.2)) t src tt te) else dAsg (.name i) (dLc (own'.map (·.2)) t src tt te))) := by
  refine psI (ps_setLc hc hN hy hyl hsw hi ok hg ht he hs) ?_
  intro D σ H h
  have key : tAsg (tEf W g E (dLc (own'.map (·.2)) t src tt te)) (gName i) D σ H := by
    cases own with
    | true => exact own_end h
    | false => exact val_end h
  exact lc_imp hv key

/-! ### two clauses -/
def lcGo2 (vs1 : List Nat) (t0 : Tgt) (tt0 : Den) (t1 : Tgt) (src1 tt1 te : Den) (ρ : Env) : List PV → Store → Rs (List PV)
  | [], S => .ok [] S
  | v :: vs, S => match t0.put v ρ with
    | none => .bad
    | some ρ1 => match tt0 ρ1 S with
      | .ok c S1 => match truth c with
        | some true => match src1 ρ1 S1 with
          | .ok q S2 => (lcGo t1 tt1 te (wipeE ρ1 vs1) (asL q) S2).bnd fun rs S3 => (lcGo2 vs1 t0 tt0 t1 src1 tt1 te ρ vs S3).bnd fun r S4 => .ok (rs ++ r) S4
          | _ => .bad
        | some false => lcGo2 vs1 t0 tt0 t1 src1 tt1 te ρ vs S1
        | none => .bad
      | _ => .bad
/-- of a list of at most the line's length -/
def okLine (r : List PV) (S : Store) : Rs PV := if r.length ≤ sizeLine then .ok (.lst r) S else .bad
def lcK2 (vs vs1 : List Nat) (t0 : Tgt) (tt0 : Den) (t1 : Tgt) (src1 tt1 te : Den) (ρ : Env) (v : PV) (S1 : Store) : Rs PV := (lcGo2 vs1 t0 tt0 t1 src1 tt1 te (wipeE ρ vs) (asL v) S1).bnd okLine
def dLc2 (vs vs1 : List Nat) (t0 : Tgt) (src0 tt0 : Den) (t1 : Tgt) (src1 tt1 te : Den) : Den := fun ρ S => (src0 ρ S).bnd (lcK2 vs vs1 t0 tt0 t1 src1 tt1 te ρ)
/-- what stands within a block that fills D -/
structure Fill (W : Wd) (g : Gh) (ρw : Env) (O : Addr → Prop) (σw : L2.St) (b1 : Bn) (H1 : Hp) (D : Addr) (H : Hp) (S : Store) (b : Bn) (acc : List V) (pacc : List PV) : Prop where
  e : EnvOk W g ρw S b (fun a => O a ∨ a = D) σw H
  stp : Stp b1 ⟨b1.B, b.m⟩ H1 (without H D)
  bB : ∀ a, b.B a ↔ (b1.B a ∨ a = D)
  hD : H D = some (.lst acc)
  r : Reps W H b pacc acc
section
variable {ρw : Env} {O : Addr → Prop} {σw : L2.St} {b1 : Bn} {H1 : Hp} {D : Addr} {H : Hp} {S : Store} {b : Bn} {acc : List V} {pacc : List PV}
theorem Fill.mD (L : Fill W g ρw O σw b1 H1 D H S b acc pacc) : D ∉ b.m := (L.e.oB D (.inr rfl)).2.2
theorem Fill.kp (L : Fill W g ρw O σw b1 H1 D H S b acc pacc) (hD : H1 D = none) : Kp b1 b H1 H := ⟨fun a o q n => (by
    have z : a ≠ D := fun z => by rw [z, hD] at q; cases q
    obtain ⟨o1, q1, k1, _⟩ := L.stp.keep a o q fun h => n (.inr h)
    rw [without_ne z] at q1
    refine ⟨⟨o1, q1, k1⟩, fun hn => ?_⟩
    rcases hn with hn | hn
    · rcases (L.bB a).mp hn with hn | hn
      · exact n (.inl hn)
      · exact z hn
    · exact L.stp.ban q n (.inr hn)), L.stp.m⟩
/-- a step within -/
theorem Fill.adv (L : Fill W g ρw O σw b1 H1 D H S b acc pacc) {S' : Store} {b' : Bn} {H' : Hp} (d : Adv W b b' H H' S') : Fill W g ρw O σw b1 H1 D H' S' b' acc pacc := by
  have c : Stp ⟨b1.B, b.m⟩ ⟨b1.B, b'.m⟩ (without H D) (without H' D) := ⟨fun _ => Iff.rfl, d.stp.m, fun a ha hn => (by
    have := d.stp.new a ha hn
    have z : a ≠ D := fun z => by
      rw [z, L.hD] at this; cases this
    rw [without_ne z]; exact this), fun a o q n => (by
    by_cases z : a = D
    · rw [z] at q; unfold without at q; rw [if_pos rfl] at q; cases q
    · rw [without_ne z] at q ⊢
      obtain ⟨o1, q1, k1, x1⟩ := d.stp.keep a o q n
      exact ⟨o1, q1, k1, fun h => x1 ((L.bB a).mpr (.inl h))⟩)⟩
  exact ⟨L.e.adv d, L.stp.trans c, fun a => (d.stp.B a).trans (L.bB a), d.stp.keepL L.hD L.mD, L.r.step d.stp⟩
/-- one more -/
theorem Fill.more (L : Fill W g ρw O σw b1 H1 D H S b acc pacc) (hn : ∀ (i : Nat) (p : PV), look ρw i = .own p → σw[i]? ≠ some (some (.ref D))) {y : V} {yv : PV} (ry : Rep W H b yv y) : Fill W g ρw O σw b1 H1 D (upd H D (.lst (acc ++ [y]))) S b (acc ++ [y]) (pacc ++ [yv]) := by
  have ku : Kp b b H (upd H D (.lst (acc ++ [y]))) := .of (fun a o q n => by
    have z : a ≠ D := fun z => n (.inl ((L.bB a).mpr (.inr z)))
    exact ⟨by rw [upd_ne z]; exact q, n⟩) ⟨[], by simp⟩
  refine ⟨L.e.upd (.inr rfl) hn, ?_, L.bB, upd_same, Reps.kp ku (L.r.append (.cons ry .nil))⟩
  have z : without (upd H D (.lst (acc ++ [y]))) D = without H D := by
    funext a
    by_cases z : a = D
    · rw [z]; unfold without; rw [if_pos rfl, if_pos rfl]
    · rw [without_ne z, without_ne z, upd_ne z]
  rw [z]
  exact L.stp
/-- the end of the block -/
theorem Fill.done (L : Fill W g ρw O σw b1 H1 D H S b acc pacc) {Q : VK} (f : fin W E (fun v _ H' b' => ∀ a o, H' a = none → Mk1 W H' b' v o → Q (.ref a) (upd H' a o)) b1 H1 (.ok (.lst pacc) S)) : Q (.ref D) H := by
  have kw : Kp b ⟨b1.B, b.m⟩ H (without H D) := .of (fun a o q n => by
    have z : a ≠ D := fun z => n (.inl ((L.bB a).mpr (.inr z)))
    exact ⟨by rw [without_ne z]; exact q, fun q => n (by
      rcases q with q | q
      · exact .inl ((L.bB a).mpr (.inl q))
      · exact .inr q)⟩) ⟨[], by simp⟩
  have adv : Adv W b1 ⟨b1.B, b.m⟩ H1 (without H D) S := ⟨L.stp, L.e.st.kp kw rfl fun a ha => without_ne fun z => L.mD (by rw [← z]; exact ha)⟩
  have := f _ _ adv D (.lst acc) (by unfold without; rw [if_pos rfl]) (L.r.kp kw)
  rwa [upd_without L.hD] at this
end
/-- begun -/
theorem Fill.begin {ρ : Env} {S : Store} {b1 : Bn} {O : Addr → Prop} {σ : L2.St} {H1 : Hp} {D : Addr} (e : EnvOk W g ρ S b1 O σ H1) (hD : H1 D = none) : Fill W g ρ O σ b1 H1 D (upd H1 D (.lst [])) S ⟨fun a => b1.B a ∨ a = D, b1.m⟩ [] [] :=
  ⟨e.own hD, ⟨fun _ => Iff.rfl, ⟨[], by simp⟩, fun a h n => absurd h n, fun a o q n => (by
    have z : a ≠ D := fun z => by rw [z, hD] at q; cases q
    exact ⟨o, by rw [without_ne z, upd_ne z]; exact q, .refl, fun _ => rfl⟩)⟩, fun _ => Iff.rfl, upd_same, .nil⟩
theorem own_ne {ρ : Env} {S : Store} {b1 : Bn} {O : Addr → Prop} {σ : L2.St} {H1 : Hp} {D : Addr} (e : EnvOk W g ρ S b1 O σ H1) (hD : H1 D = none) : ∀ (i : Nat) (p : PV), look ρ i = .own p → σ[i]? ≠ some (some (.ref D)) := fun i p q z => by
  obtain ⟨a, z2, _, hw⟩ := e.ownAt q
  rw [z2] at z
  cases z
  obtain ⟨o, z3⟩ := hw.there
  rw [hD] at z3; cases z3
theorem bnd_ne {α β : Type} {r : Rs α} {k : α → Store → Rs β} {c : Nat} {v : PV} {S' : Store} (h : ∀ c v S', r ≠ .exc c v S') (hk : ∀ a S c v S', k a S ≠ .exc c v S') : r.bnd k ≠ .exc c v S' := by
  cases r with
  | ok a S => exact hk a S c v S'
  | exc c v S => exact absurd rfl (h c v S)
  | bad => exact fun z => nomatch z
theorem lcGo_ne {t : Tgt} {tt te : Den} {ρ : Env} : ∀ (l : List PV) (S : Store) (c : Nat) (v : PV) (S' : Store), lcGo t tt te ρ l S ≠ .exc c v S'
  | [], S, c, v, S' => fun h => nomatch h
  | p :: l, S, c, v, S' => by
    unfold lcGo
    split
    · exact fun z => nomatch z
    · split
      · split
        · split
          · exact bnd_ne (lcGo_ne l _) fun _ _ _ _ _ z => nomatch z
          · exact fun z => nomatch z
        · exact lcGo_ne l _ c v S'
        · exact fun z => nomatch z
      · exact fun z => nomatch z
theorem lcGo2_ne {vs1 : List Nat} {t0 t1 : Tgt} {tt0 src1 tt1 te : Den} {ρ : Env} : ∀ (l : List PV) (S : Store) (c : Nat) (v : PV) (S' : Store), lcGo2 vs1 t0 tt0 t1 src1 tt1 te ρ l S ≠ .exc c v S'
  | [], S, c, v, S' => fun h => nomatch h
  | p :: l, S, c, v, S' => by
    unfold lcGo2
    split
    · exact fun z => nomatch z
    · split
      · split
        · split
          · exact bnd_ne (lcGo_ne _ _) fun _ _ _ _ _ => bnd_ne (lcGo2_ne l _) fun _ _ _ _ _ z => nomatch z
          · exact fun z => nomatch z
        · exact lcGo2_ne l _ c v S'
        · exact fun z => nomatch z
      · exact fun z => nomatch z
theorem put_own : ∀ {t : Tgt} {v : PV} {ρ ρ' : Env} {j : Nat} {p : PV}, t.put v ρ = some ρ' → look ρ' j = .own p → look ρ j = .own p ∧ j ∉ t.slots
  | .name i, v, ρ, ρ', j, p, h, hj => by
    cases h
    rw [look_set] at hj
    split at hj
    · cases hj
    · rename_i hn
      refine ⟨hj, fun z => ?_⟩
      have z : j = i := by simpa [Tgt.slots] using z
      subst z
      have : ρ.length ≤ j := Nat.le_of_not_lt fun q => hn ⟨rfl, q⟩
      rw [look_ge this] at hj
      cases hj
  | .nil, .lst [], ρ, ρ', j, p, h, hj => by
    cases h
    exact ⟨hj, by simp [Tgt.slots]⟩
  | .cons a r, .lst (v :: vs), ρ, ρ', j, p, h, hj => by
    simp only [Tgt.put] at h
    cases q : a.put v ρ with
    | none => rw [q] at h; cases h
    | some ρ1 =>
      rw [q] at h
      obtain ⟨h1, h2⟩ := put_own (t := r) h hj
      obtain ⟨h3, h4⟩ := put_own (t := a) q h1
      exact ⟨h3, fun z => (List.mem_append.mp z).elim h4 h2⟩
  | .tup r, .tup vs, ρ, ρ', j, p, h, hj => put_own (t := r) h hj
  | .nil, .lst (_ :: _), _, _, _, _, h, _ => by cases h
  | .nil, .non, _, _, _, _, h, _ => by cases h
  | .nil, .bl _, _, _, _, _, h, _ => by cases h
  | .nil, .int _, _, _, _, _, h, _ => by cases h
  | .nil, .str _, _, _, _, _, h, _ => by cases h
  | .nil, .tup _, _, _, _, _, h, _ => by cases h
  | .nil, .dct _, _, _, _, _, h, _ => by cases h
  | .nil, .kdc _, _, _, _, _, h, _ => by cases h
  | .nil, .fn _, _, _, _, _, h, _ => by cases h
  | .nil, .cell _, _, _, _, _, h, _ => by cases h
  | .cons _ _, .lst [], _, _, _, _, h, _ => by cases h
  | .cons _ _, .non, _, _, _, _, h, _ => by cases h
  | .cons _ _, .bl _, _, _, _, _, h, _ => by cases h
  | .cons _ _, .int _, _, _, _, _, h, _ => by cases h
  | .cons _ _, .str _, _, _, _, _, h, _ => by cases h
  | .cons _ _, .tup _, _, _, _, _, h, _ => by cases h
  | .cons _ _, .dct _, _, _, _, _, h, _ => by cases h
  | .cons _ _, .kdc _, _, _, _, _, h, _ => by cases h
  | .cons _ _, .fn _, _, _, _, _, h, _ => by cases h
  | .cons _ _, .cell _, _, _, _, _, h, _ => by cases h
  | .tup _, .lst _, _, _, _, _, h, _ => by cases h
  | .tup _, .non, _, _, _, _, h, _ => by cases h
  | .tup _, .bl _, _, _, _, _, h, _ => by cases h
  | .tup _, .int _, _, _, _, _, h, _ => by cases h
  | .tup _, .str _, _, _, _, _, h, _ => by cases h
  | .tup _, .dct _, _, _, _, _, h, _ => by cases h
  | .tup _, .kdc _, _, _, _, _, h, _ => by cases h
  | .tup _, .fn _, _, _, _, _, h, _ => by cases h
  | .tup _, .cell _, _, _, _, _, h, _ => by cases h
theorem lc2_imp {w0 w1 : Bool} {t0 t1 : Tgt} {src0 tt0 src1 tt1 te : Den} {vs vs1 : List Nat} {σ : L2.St} {H0 : Hp} {Q : VK} (hv : ∀ i ∈ t0.slots, i ∈ vs) (hv1 : ∀ i ∈ t1.slots, i ∈ vs1) (hsub : ∀ i ∈ vs1, i ∈ vs) (h : tEf W g E (dLc2 vs vs1 t0 src0 tt0 t1 src1 tt1 te) σ H0 Q) :
    tLc2 (tI W w0 g E src0) (tG W w0 g t0) (tEt W g XK0 tt0) (tI W w1 g XK0 src1) (tG W w1 g t1) (tEt W g XK0 tt1) (tEv W g XK0 te) vs vs1 σ H0 Q := by
  refine (tF.seq (k := lcK2 vs vs1 t0 tt0 t1 src1 tt1 te) h).imp fun v S1 H1 b1 s1 ⟨ρ, O, e1, f⟩ J hJ D hD => ?_
  unfold lcK2 at f
  generalize hps : asL v = ps at f hJ
  have ew := e1.wipe vs
  have hDs := own_ne ew hD
  -- the outer state
  let LI : Nat → Hp → Prop := fun i H => ∃ S b acc pacc, Fill W g (wipeE ρ vs) O (L2.wipe σ vs) b1 H1 D H S b acc pacc ∧ i ≤ ps.length ∧ fin W E (fun v _ H' b' => ∀ a o, H' a = none → Mk1 W H' b' v o → Q (.ref a) (upd H' a o)) b1 H1 ((lcGo2 vs1 t0 tt0 t1 src1 tt1 te (wipeE ρ vs) (ps.drop i) S).bnd fun r S' => okLine (pacc ++ r) S')
  refine ⟨fun i m H => m = ps.length - i ∧ LI i H, ⟨_, rfl, S1, _, [], [], .begin ew hD, Nat.zero_le _, f⟩, ?_⟩
  rintro i m H ⟨rfl, S, b, acc, pacc, L, il, f⟩
  have kp1 := L.kp hD
  by_cases hlt : i < ps.length
  case neg =>
    have hie : ps.length ≤ i := Nat.le_of_not_lt hlt
    refine .inl ⟨(hJ H b kp1 (fun p hp => L.e.fresh hp) i).2 hie, ?_⟩
    rw [List.drop_of_length_le hie] at f
    simp only [lcGo2, Rs.bnd, List.append_nil, okLine] at f
    split at f
    · exact L.done f
    · exact f.elim
  have hdrop : ps.drop i = ps[i] :: ps.drop (i + 1) := List.drop_eq_getElem_cons hlt
  have hp : ps[i]? = some ps[i] := List.getElem?_eq_getElem hlt
  generalize ps[i] = p at hdrop hp
  obtain ⟨go, yl⟩ := (hJ H b kp1 (fun p hp => L.e.fresh hp) i).1 p hp
  refine .inr ⟨go, LI (i + 1), fun H' q => ⟨_, by omega, rfl, q⟩, fun x H' y => ?_⟩
  obtain ⟨gr, rx⟩ := yl x H' y
  rw [hdrop] at f
  simp only [lcGo2] at f
  have LH := L.adv (.grow L.e.st gr)
  cases q1 : t0.put p (wipeE ρ vs) with
  | none => simp only [q1] at f; exact f.elim
  | some ρ1 =>
    simp only [q1] at f
    refine ⟨_, S, b, _, p, ρ1, LH.e, rx, q1, fun σ2 l2 k2 e2 => ⟨?_, ?_⟩⟩
    · exact (wipe_ext l2 fun i hi => k2 i fun z => hi (hv i z)).trans (wipe_ext (wipe_length σ vs) fun i hi => wipe_get hi)
    refine ⟨ρ1, S, b, _, e2, ?_⟩
    cases q2 : tt0 ρ1 S with
    | exc c v S' => simp only [q2] at f; exact f.elim
    | bad => simp only [q2] at f; exact f.elim
    | ok c S2 =>
      simp only [q2] at f
      intro H3 b3 d3
      cases q3 : truth c with
      | none => simp only [q3] at f; exact f.elim
      | some cb =>
        simp only [q3] at f
        refine ⟨cb, rfl, ?_⟩
        cases cb with
        | false => exact ⟨S2, b3, acc, pacc, LH.adv d3, hlt, f⟩
        | true =>
          simp only [if_true]
          have L3 := LH.adv d3
          have e3 := e2.adv d3
          refine ⟨ρ1, S2, b3, _, e3, ?_⟩
          cases q4 : src1 ρ1 S2 with
          | exc c v S' => simp only [q4] at f; exact f.elim
          | bad => simp only [q4] at f; exact f.elim
          | ok qv S3 =>
            simp only [q4] at f
            intro H4 b4 d4 J1 hJ1
            generalize hqs : asL qv = qs at f hJ1
            have L4 := L3.adv d4
            have e4 := e3.adv d4
            have hDs2 : ∀ (i : Nat) (p : PV), look (wipeE ρ1 vs1) i = .own p → (L2.wipe σ2 vs1)[i]? ≠ some (some (.ref D)) := by
              intro j p' hj hz
              rw [look_wipe] at hj
              split at hj
              · cases hj
              · rename_i hj1
                rw [wipe_get hj1] at hz
                obtain ⟨h1, h2⟩ := put_own q1 hj
                rw [k2 j h2] at hz
                exact hDs j p' h1 hz
            let LI2 : Nat → Hp → Prop := fun j H => ∃ S b acc pacc, Fill W g (wipeE ρ vs) O (L2.wipe σ vs) b1 H1 D H S b acc pacc ∧ EnvOk W g (wipeE ρ1 vs1) S b (fun a => O a ∨ a = D) (L2.wipe σ2 vs1) H ∧ Kp b4 b H4 H ∧ j ≤ qs.length ∧
              fin W E (fun v _ H' b' => ∀ a o, H' a = none → Mk1 W H' b' v o → Q (.ref a) (upd H' a o)) b1 H1 ((lcGo t1 tt1 te (wipeE ρ1 vs1) (qs.drop j) S).bnd fun rs S3 => (lcGo2 vs1 t0 tt0 t1 src1 tt1 te (wipeE ρ vs) (ps.drop (i + 1)) S3).bnd fun r S4 => okLine (pacc ++ (rs ++ r)) S4)
            refine ⟨fun j k H => k = qs.length - j ∧ LI2 j H, ⟨_, rfl, S3, b4, acc, pacc, L4, e4.wipe vs1, .refl, Nat.zero_le _, ?_⟩, ?_⟩
            · have z : ((lcGo t1 tt1 te (wipeE ρ1 vs1) qs S3).bnd fun rs S3 => (lcGo2 vs1 t0 tt0 t1 src1 tt1 te (wipeE ρ vs) (ps.drop (i + 1)) S3).bnd fun r S4 => .ok (rs ++ r) S4).bnd (fun r S' => okLine (pacc ++ r) S')
                  = (lcGo t1 tt1 te (wipeE ρ1 vs1) qs S3).bnd fun rs S3 => (lcGo2 vs1 t0 tt0 t1 src1 tt1 te (wipeE ρ vs) (ps.drop (i + 1)) S3).bnd fun r S4 => okLine (pacc ++ (rs ++ r)) S4 := by
                cases lcGo t1 tt1 te (wipeE ρ1 vs1) qs S3 with
                | ok rs S5 => simp only [Rs.bnd]; cases lcGo2 vs1 t0 tt0 t1 src1 tt1 te (wipeE ρ vs) (ps.drop (i + 1)) S5 <;> rfl
                | exc c v S5 => rfl
                | bad => rfl
              rw [z] at f
              exact f
            rintro j k H ⟨rfl, S, b, acc, pacc, L, ei, kpi, jl, f⟩
            by_cases hlj : j < qs.length
            case neg =>
              have hje : qs.length ≤ j := Nat.le_of_not_lt hlj
              refine .inl ⟨(hJ1 H b kpi (fun p hp => L.e.fresh hp) j).2 hje, S, b, acc, pacc, L, hlt, ?_⟩
              rw [List.drop_of_length_le hje] at f
              simpa only [lcGo, Rs.bnd, List.nil_append] using f
            have hdj : qs.drop j = qs[j] :: qs.drop (j + 1) := List.drop_eq_getElem_cons hlj
            have hpj : qs[j]? = some qs[j] := List.getElem?_eq_getElem hlj
            generalize qs[j] = u at hdj hpj
            obtain ⟨goj, ylj⟩ := (hJ1 H b kpi (fun p hp => L.e.fresh hp) j).1 u hpj
            refine .inr ⟨goj, LI2 (j + 1), fun H' q => ⟨_, by omega, rfl, q⟩, fun x' H' yd => ?_⟩
            obtain ⟨gr', rx'⟩ := ylj x' H' yd
            rw [hdj] at f
            simp only [lcGo] at f
            have dg : Adv W b b H H' S := .grow L.e.st gr'
            have LH' := L.adv dg
            have eiH := ei.adv dg
            have kpH : Kp b4 b H4 H' := kpi.trans dg.stp.kp
            cases r1 : t1.put u (wipeE ρ1 vs1) with
            | none => simp only [r1] at f; exact f.elim
            | some ρ2 =>
              simp only [r1] at f
              refine ⟨_, S, b, _, u, ρ2, eiH, rx', r1, fun σ3 l3 k3 e5 => ⟨?_, ?_⟩⟩
              · exact (wipe_ext l3 fun i hi => k3 i fun z => hi (hv1 i z)).trans (wipe_ext (wipe_length σ2 vs1) fun i hi => wipe_get hi)
              refine ⟨ρ2, S, b, _, e5, ?_⟩
              cases r2 : tt1 ρ2 S with
              | exc c v S' => simp only [r2] at f; exact f.elim
              | bad => simp only [r2] at f; exact f.elim
              | ok c' S5 =>
                simp only [r2] at f
                intro H5 b5 d5
                cases r3 : truth c' with
                | none => simp only [r3] at f; exact f.elim
                | some cb' =>
                  simp only [r3] at f
                  refine ⟨cb', rfl, ?_⟩
                  cases cb' with
                  | false => exact ⟨S5, b5, acc, pacc, LH'.adv d5, eiH.adv d5, kpH.trans d5.stp.kp, hlj, f⟩
                  | true =>
                    simp only [if_true]
                    refine ⟨ρ2, S5, b5, _, e5.adv d5, ?_⟩
                    cases r4 : te ρ2 S5 with
                    | exc c v S' => simp only [r4] at f; exact f.elim
                    | bad => simp only [r4] at f; exact f.elim
                    | ok yv S6 =>
                      simp only [r4] at f
                      intro H6 b6 d6 y ry
                      have d56 := d5.trans d6
                      have L6 := LH'.adv d56
                      have z : ((lcGo t1 tt1 te (wipeE ρ1 vs1) (qs.drop (j + 1)) S6).bnd fun r S3 => Rs.ok (yv :: r) S3).bnd (fun rs S3 => (lcGo2 vs1 t0 tt0 t1 src1 tt1 te (wipeE ρ vs) (ps.drop (i + 1)) S3).bnd fun r S4 => okLine (pacc ++ (rs ++ r)) S4)
                          = (lcGo t1 tt1 te (wipeE ρ1 vs1) (qs.drop (j + 1)) S6).bnd (fun rs S3 => (lcGo2 vs1 t0 tt0 t1 src1 tt1 te (wipeE ρ vs) (ps.drop (i + 1)) S3).bnd fun r S4 => okLine (pacc ++ [yv] ++ (rs ++ r)) S4) := by
                        cases lcGo t1 tt1 te (wipeE ρ1 vs1) (qs.drop (j + 1)) S6 <;> simp [Rs.bnd]
                      rw [z] at f
                      refine ⟨acc, L6.hD, ?_, S6, b6, _, _, L6.more hDs ry, (eiH.adv d56).upd (.inr rfl) hDs2, (kpH.trans d56.stp.kp).trans ?_, hlj, f⟩
                      · rw [← L6.r.length]
                        cases q5 : lcGo t1 tt1 te (wipeE ρ1 vs1) (qs.drop (j + 1)) S6 with
                        | ok rs S7 =>
                          rw [q5] at f
                          simp only [Rs.bnd] at f
                          cases q6 : lcGo2 vs1 t0 tt0 t1 src1 tt1 te (wipeE ρ vs) (ps.drop (i + 1)) S7 with
                          | ok r S8 =>
                            rw [q6] at f
                            simp only [okLine] at f
                            split at f
                            · rename_i hl
                              simp only [List.length_append, List.length_singleton] at hl
                              omega
                            · exact f.elim
                          | exc c v S8 => exact absurd q6 (lcGo2_ne _ _ _ _ _)
                          | bad => rw [q6] at f; exact f.elim
                        | exc c v S7 => exact absurd q5 (lcGo_ne _ _ _ _ _)
                        | bad => rw [q5] at f; exact f.elim
                      · exact .of (fun a o q n => by
                          have z : a ≠ D := fun z => n (.inl ((L6.bB a).mpr (.inr z)))
                          exact ⟨by rw [upd_ne z]; exact q, n⟩) ⟨[], by simp⟩
theorem sf_lc2 {w0 w1 : Bool} {elt tg iter tg1 iter1 : Expr} {ifs ifs1 : List Expr} {scope : Scope} {own : List (Str × Nat)} {vs1 : List Nat} {pos : Pos} {t0 t1 : Tgt} {src0 tt0 src1 tt1 te : Den} (hc : X.calm = true) (hN : X.N.Nodup) (hi : PI X tg iter (tI W w0 g E src0)) (ok : BlkOk X.N X.env.scope scope own)
    (hv : ∀ i ∈ t0.slots, i ∈ own.map (·.2)) (hv1 : ∀ i ∈ t1.slots, i ∈ vs1) (hsub : ∀ i ∈ vs1, i ∈ own.map (·.2))
    (hg : ∀ (s : Shared) (H : Hp) (C : Addr) (cl : List (Str × Addr)) (fp : List Addr), PG (X.blk s H scope (compEnvC scope cl C X.env) fp) tg (tG W w0 g t0))
    (ht : ∀ (s : Shared) (H : Hp) (C : Addr) (cl : List (Str × Addr)) (fp : List Addr), PTs (X.blk s H scope (compEnvC scope cl C X.env) fp) ifs (tEt W g XK0 tt0))
    (hi1 : ∀ (s : Shared) (H : Hp) (C : Addr) (cl : List (Str × Addr)) (fp : List Addr), PI (X.blk s H scope (compEnvC scope cl C X.env) fp) tg1 iter1 (tI W w1 g XK0 src1))
    (hg1 : ∀ (s : Shared) (H : Hp) (C : Addr) (cl : List (Str × Addr)) (fp : List Addr), PG (X.blk s H scope (compEnvC scope cl C X.env) fp) tg1 (tG W w1 g t1))
    (ht1 : ∀ (s : Shared) (H : Hp) (C : Addr) (cl : List (Str × Addr)) (fp : List Addr), PTs (X.blk s H scope (compEnvC scope cl C X.env) fp) ifs1 (tEt W g XK0 tt1))
    (he : ∀ (s : Shared) (H : Hp) (C : Addr) (cl : List (Str × Addr)) (fp : List Addr), PE (X.blk s H scope (compEnvC scope cl C X.env) fp) elt (tEv W g XK0 te))
    (hs : ∀ x, foldedSetIterable iter X.env x = pure x) (hs1 : ∀ env x, foldedSetIterable iter1 env x = pure x) :
    PE X (.ListComp elt [⟨tg, iter, ifs, 0⟩, ⟨tg1, iter1, ifs1, 0⟩] scope pos) (tEf W g E (dLc2 (own.map (·.2)) vs1 t0 src0 tt0 t1 src1 tt1 te)) :=
  peI (pe_lc2 hc hN hi ok hsub hg ht hi1 hg1 ht1 he hs hs1) fun _ _ _ h => lc2_imp hv hv1 hsub h
/-! ### tests of a clause -/
theorem st_none : PTs X [] (tEt W g E (dC (.bl true))) := ⟨fun pins s σ H Q I ⟨ρ, S, b, O, e, f⟩ => pts_nil.run pins s σ H Q I (by
  obtain ⟨c, h1, h2⟩ := f H b (.refl e.st)
  cases h1
  exact h2)⟩
/-! ### a local name that holds a def -/
/-- the defs of the world -/
def dCallL (C : CallT) (nf i : Nat) (r : Den) : Den := fun ρ S => match look ρ i with
  | .val (.fn j) => if j < nf then (r ρ S).bnd fun vs S1 => C j (asL vs) S1 else .bad
  | _ => .bad
theorem se_callL {C : CallT} {nf i k : Nat} {x : Str} {p pos : Pos} {e : Expr} {es : List Expr} {dr : Den}
    (gd : X.A.guards = some []) (F : ∀ j, j < nf → ∃ fd ps, FnG X.prog X.w X.K X.mg X.base (CX X.prog X.w) k (W.fa j) fd ps (spOf W C j) ∧ PySem.W.keepIn X.K (.ref (W.fa j)) = true ∧ Binds X.K fd ps [])
    (hr : Room k X.A) (hN : X.N[i]? = some x) (hv : Vis X.env.scope x) (hx : Passes (CX X.prog X.w) X E) (ha : PA X (e :: es) (tEa W g E dr)) (hd : (x == ("__debug__" : Str)) = false) (hcd : (x == ("__classdict__" : Str)) = false)
    (he : starEach (e :: es) X.env = (false, eval e X.env) :: starEach es X.env) (hpl : (backTo pos (starEach es X.env)).any (·.1) = false) :
    PE X (.Call (.Name x p) (e :: es) [] pos) (tEv W g E (dCallL C nf i dr)) := by
  refine ⟨fun pins s σ H Q I h => ?_⟩
  obtain ⟨ρ, S, b, O, en, f⟩ := h
  unfold dCallL at f
  cases q : look ρ i with
  | no => rw [q] at f; exact f.elim
  | own v => rw [q] at f; exact f.elim
  | val v =>
    rw [q] at f
    cases v with
    | fn j =>
      simp only at f
      split at f
      case isFalse => exact f.elim
      rename_i hj
      have hs := en.slot i
      unfold SlOk at hs
      rw [q] at hs
      obtain ⟨z, hz, rz⟩ := hs
      cases rz
      obtain ⟨fd, ps, Fj, hk, hb⟩ := F j hj
      refine (callLG gd Fj hr hN hv hk hb hx ha hd hcd he hpl).run pins s σ H Q I ⟨hz, ?_⟩
      refine (tF.seq (k := fun _ vs S1 => C j (asL vs) S1) ⟨ρ, S, b, O, en, f⟩).imp fun v S1 H1 b1 s1 ⟨ρ, O, e1, f⟩ xs rs => ?_
      exact ⟨asL v, S1, b1, rs, s1, e1.tr, f⟩
    | _ => exact f.elim
/-! ### x[i] of a value or a cell's list -/
def ixS (v u : PV) (S : Store) : Option PV := match v, u with
  | .cell c, .int i => match S[c]? with
    | some l => atP l i
    | none => none
  | _, _ => vIdx v u
def dIx (a b : Den) : Den := fun ρ S => (a ρ S).bnd fun v S1 => (b ρ S1).bnd fun u S2 => okv (ixS v u S2) S2
theorem se_ix {a c : Expr} {da db : Den} {pos : Pos} (hP : X.prog = W.P) (hw : X.w = W.w) (hK : X.K = W.K) (ha : PE X a (tEr W g E (RW W) da)) (hb : PE X c (tEr W g E (RW W) db)) (hs : PlainIx c) : PE X (.Subscript a c pos) (tEv W g E (dIx da db)) := by
  refine peI (pe_ix (o_idx hP hw hK) ha hb hs) ?_
  intro σ H Q h
  refine (two (Ra := RW W) (Rb := RW W) (k := fun _ v u S => okv (ixS v u S) S) stb_w h).imp fun _ _ _ _ _ q x rx => (q x rx).imp fun _ _ _ _ _ q' y ry => ?_
  obtain ⟨ρ, S, b, O, v, u, e, ra, rb, f⟩ := q' y ry
  cases hq : ixS v u S with
  | none => rw [hq] at f; exact f.elim
  | some w =>
    rw [hq] at f
    unfold ixS at hq
    split at hq
    · rename_i cc i
      rcases ra with ra | ⟨_, _, _, r⟩
      · cases ra with
        | @cell _ a hm =>
          cases rw_int rb
          split at hq
          · rename_i l hl
            obtain ⟨xs, hx, r⟩ := e.st.2.2 cc a l hm hl
            obtain ⟨z, h1, h2⟩ := atP_of r hq
            exact .inl (.inl ⟨a, xs, i, z, rfl, rfl, SqL.of hx, h1, f _ b (.refl e.st) _ h2⟩)
          · cases hq
      · exact r.elim
    · exact f_idx v u w _ _ _ b _ (fun p hp => e.fresh hp) ra rb hq fun z H' k rz => f H' b (.grow e.st k) z rz
/-! ### raise -/
def dRaise (c : Nat) (d : Den) : DenS := fun ρ S => (d ρ S).bnd fun v S1 => .exc c v S1
end
end Tg
end
section
set_option Elab.async false
set_option linter.all false
set_option autoImplicit false
set_option maxRecDepth 100000
/-! repr of data; a list that is a cell from its making -/
namespace Tg
open PySem PySem.Spec PyProof.Rows L2
section
variable {X : Cx} {W : Wd} {g : Gh} {E : XK}
def r_repr (W : Wd) : List V → Hp → VK → Prop := fun xs H Q => ∃ v d, xs = [v] ∧ Dp W.K H v d ∧ showOk d = true ∧ Q (.str d.shown) H
theorem cr_repr (hK : X.K = W.K) (gd : X.A.guards = some []) (hu : X.A.units + 70 < cLine) : CallR X (.builtin "repr") (r_repr W) := by
  rintro pins s σ H xs us Q I r ⟨v, d, rfl, hd, ok, q⟩
  rw [← hK] at hd
  unfold showOk at ok
  simp only [Bool.and_eq_true, decide_eq_true_eq, Bool.not_eq_true'] at ok
  obtain ⟨⟨o1, o2⟩, o3, o4⟩ := ok
  cases r with
  | @cons _ u _ _ rv rn =>
    cases rn
    obtain ⟨as, rd⟩ := Dp.reads I d v u hd rv
    cases u with
    | ref a =>
      refine repr_of_reads' rd o1 (fun z => by rw [o2] at z; cases z) gd (by show X.A.units + _ < _; omega) (fun _ _ e => e) (fun h' u tk k => ?_) o4
      exact ⟨.str _, H, I.kept (t' := tk) k, ⟨_, rfl⟩, q⟩
    | none =>
      cases rd
      exact PySem.P.repr_of_none ⟨.str _, H, I.tok _, ⟨_, rfl⟩, q⟩
    | bool b =>
      cases rd
      exact PySem.P.repr_of_bool ⟨.str _, H, I.tok _, ⟨_, rfl⟩, q⟩
    | int i t =>
      cases rd
      exact PySem.P.repr_of_int (of_decide_eq_true o1) ⟨.str _, H, I.tok _, ⟨_, rfl⟩, q⟩
    | str x t =>
      cases rd
      exact PySem.P.repr_of_str ⟨.str _, H, I.tok _, ⟨_, rfl⟩, q⟩ o4
    | _ => cases rd
theorem f_repr : OpC W uRepr (r_repr W) := by
  intro v w x H b Q hf rv hw k
  unfold uRepr at hw
  cases q : toD v with
  | none => rw [q] at hw; cases hw
  | some d =>
    rw [q] at hw
    simp only at hw
    split at hw
    · rename_i ok
      cases hw
      refine ⟨x, d, rfl, dpw_of rv q, ok, ?_⟩
      have := k (.str ⟨d.shown.cps.toList.toArray⟩) H (fun _ _ e => e) (.str _)
      simpa using this
    · cases hw
/-- a new cell -/
theorem Adv.cell {b : Bn} {H : Hp} {S : Store} {p : Addr} {ps : List PV} {xs : List V} (s : StoreOk W H b S) (hp : H p = none) (hn : ¬ b.no p) (r : Reps W H b ps xs) :
    Adv W b ⟨b.B, b.m ++ [p]⟩ H (upd H p (.lst xs)) (S ++ [ps]) := by
  have st : Stp b ⟨b.B, b.m ++ [p]⟩ H (upd H p (.lst xs)) := by
    refine ⟨fun _ => Iff.rfl, ⟨[p], rfl⟩, fun a h n => ?_, fun a o e _ => ⟨o, ?_, .refl, fun _ => rfl⟩⟩
    · rcases List.mem_append.mp h with h | h
      · exact absurd h n
      · rw [List.mem_singleton.mp h]; exact hp
    · rw [upd_ne (ne_of_none e hp)]; exact e
  refine ⟨st, by rw [List.length_append, List.length_append, s.1]; rfl, ?_, fun i a qs h1 h2 => ?_⟩
  · refine List.nodup_append.mpr ⟨s.2.1, by simp, fun a ha c hc z => ?_⟩
    rw [List.mem_singleton.mp hc] at z
    exact hn (.inr (z ▸ ha))
  · by_cases hi : i < b.m.length
    · rw [List.getElem?_append_left hi] at h1
      rw [List.getElem?_append_left (by rw [← s.1]; exact hi)] at h2
      obtain ⟨ys, q, ry⟩ := s.2.2 i a qs h1 h2
      exact ⟨ys, by rw [upd_ne (ne_of_none q hp)]; exact q, ry.step st⟩
    · have hl := (List.getElem?_eq_some_iff.mp h1).1
      have ei : i = b.m.length := by
        rw [List.length_append] at hl
        have : ([p] : List Addr).length = 1 := rfl
        omega
      subst ei
      rw [List.getElem?_append_right (Nat.le_refl _), Nat.sub_self] at h1
      rw [s.1, List.getElem?_append_right (Nat.le_refl _), Nat.sub_self] at h2
      cases h1
      cases h2
      exact ⟨xs, upd_same, r.step st⟩
theorem se_lstc {es : List Expr} {dr : Den} {pos : Pos} (h : PA X es (tEa W g E dr)) : PE X (.List es pos) (tEv W g E (dLstC dr)) := by
  refine peI (pe_lst h) ?_
  intro σ H Q h
  refine (tF.seq (k := fun _ => cellK) h).imp fun v S1 H1 b1 s1 ⟨ρ, O, e1, f⟩ xs rs => ?_
  unfold cellK at f
  split at f
  · rename_i hl
    refine ⟨len_le rs hl, fun p hp => ?_⟩
    have ad := Adv.cell s1 hp (e1.fresh hp) rs
    refine f _ _ ad _ (.cell ?_)
    show (b1.m ++ [p])[S1.length]? = some p
    rw [← s1.1, List.getElem?_append_right (Nat.le_refl _), Nat.sub_self]
    rfl
  · exact f.elim
end
end Tg
end
section
set_option Elab.async false
set_option linter.all false
set_option autoImplicit false
set_option maxRecDepth 100000
/-! the code, its meaning, its look at the text -/
namespace Tg
open PySem PySem.Spec PyProof.Rows L2
structure Px where
  C : CallT
  nf : Nat
  G : List (Str × GV)
  /-- the exceptions' classes by their names -/
  R : List (Str × Nat)
inductive CE where
  | var (i : Nat) | bor (i : Nat) | c (p : PV) | g (k : Nat)
  | nil | cons (a r : CE) | tup (r : CE) | lst (r : CE) | lstc (r : CE)
  | bin (o : Nat) (a b : CE) | cmp (o : Nat) (a b : CE) | chain (o o' : Nat) (a b d : CE)
  | ite (t a b : CE) | and (a b : CE) | or (a b : CE) | one (a : CE) | not (a : CE) | neg (a : CE)
  | call (i : Nat) (r : CE) | callL (i : Nat) (r : CE)
  | u1 (k : Nat) (a : CE) | u2 (k : Nat) (a b : CE) | isi (k : Nat) (a : CE)
  | ix (a b : CE) | cutL (a b : CE) | cutH (a b : CE) | cutB (a b d : CE)
  | m1 (k : Nat) (a b : CE) | get (a b : CE) | get2 (a b d : CE)
  | fmt (a : CE) | jnil | jcons (a r : CE) | js (r : CE)
  | lc (t : Tgt) (vs : List Nat) (s tt e : CE) | lc2 (t0 t1 : Tgt) (vs vs1 : List Nat) (s0 tt0 s1 tt1 e : CE)
  | dict (a : CE) | dnew
  | tv (a : CE) | t1 (a : CE)
  | seq (a : CE) | rng (k : Nat) (r : CE) | zip (r : CE) | walk (m : DW) (a : CE)
/-! ### tables -/
def opF : Nat → PV → PV → Option PV
  | 0 => vAdd | 1 => vSub | 2 => vMul | 3 => vDiv | 4 => vMod | 5 => vPow | _ => fun _ _ => none
def opN : Nat → Option Operator
  | 0 => some .Add | 1 => some .Sub | 2 => some .Mult | 3 => some .FloorDiv | 4 => some .Mod | 5 => some .Pow | _ => none
def cmF : Nat → PV → PV → Option PV
  | 0 => vLt | 1 => vLe | 2 => vGt | 3 => vGe | 4 => vEq | 5 => vNe | 6 => vIn | 7 => vNotIn | 8 => vIs | 9 => vIsN | _ => fun _ _ => none
def cmN : Nat → Option CmpOp
  | 0 => some .Lt | 1 => some .LtE | 2 => some .Gt | 3 => some .GtE | 4 => some .Eq | 5 => some .NotEq | 6 => some .In | 7 => some .NotIn | 8 => some .Is | 9 => some .IsNot | _ => none
def u1F : Nat → PV → Option PV
  | 0 => uLen | 1 => uTuple | 2 => uList | 3 => uAll | 4 => uAny | 5 => uSum | 6 => uMin | 7 => uMax | 8 => uStr | 9 => uInt | 10 => uAbs | 11 => uBool | 12 => uRepr | _ => fun _ => none
def u1N : Nat → Option Str
  | 0 => some "len" | 1 => some "tuple" | 2 => some "list" | 3 => some "all" | 4 => some "any" | 5 => some "sum" | 6 => some "min" | 7 => some "max" | 8 => some "str" | 9 => some "int" | 10 => some "abs" | 11 => some "bool" | 12 => some "repr" | _ => none
def u2F : Nat → PV → PV → Option PV
  | 0 => vMax | 1 => vMin | _ => fun _ _ => none
def u2N : Nat → Option Str
  | 0 => some "max" | 1 => some "min" | _ => none
def isiN : Nat → Option String
  | 0 => some "int" | 1 => some "str" | 2 => some "tuple" | 3 => some "list" | 4 => some "bool" | _ => none
def m1F : Nat → PV → PV → Option PV
  | 0 => mJoin | 1 => mSplit | 2 => mPart | 3 => mRpart | _ => fun _ _ => none
def m1N : Nat → Option Str
  | 0 => some "join" | 1 => some "split" | 2 => some "partition" | 3 => some "rpartition" | _ => none
def rngF : Nat → List PV → Option (List PV)
  | 1 => rng1 | 2 => rng2 | _ => fun _ => none
/-! ### the meaning -/
def dG (G : List (Str × GV)) (k : Nat) : Den := fun _ S => match G[k]? with
  | some (_, .fn i) => .ok (.fn i) S
  | some (_, .val p) => .ok p S
  | _ => .bad
def ev (P : Px) : CE → Den
  | .var i => dVar i
  | .bor i => dBor i
  | .c p => dC p
  | .g k => dG P.G k
  | .nil => dNil
  | .cons a r => dCons (ev P a) (ev P r)
  | .tup r => dTup (ev P r)
  | .lst r => dLst (ev P r)
  | .lstc r => dLstC (ev P r)
  | .bin o a b => dB2 (opF o) (ev P a) (ev P b)
  | .cmp o a b => dB2 (cmF o) (ev P a) (ev P b)
  | .chain o o' a b d => dChain (cmF o) (cmF o') (ev P a) (ev P b) (ev P d)
  | .ite t a b => dIte (ev P t) (ev P a) (ev P b)
  | .and a b => dAnd (ev P a) (ev P b)
  | .or a b => dOr (ev P a) (ev P b)
  | .one a => ev P a
  | .not a => dNot (ev P a)
  | .neg a => dB1 vNeg (ev P a)
  | .call i r => dCall P.C i (ev P r)
  | .callL i r => dCallL P.C P.nf i (ev P r)
  | .u1 k a => dB1 (u1F k) (ev P a)
  | .u2 k a b => dB2 (u2F k) (ev P a) (ev P b)
  | .isi k a => dB1 (uIsi ((isiN k).getD "")) (ev P a)
  | .ix a b => dIx (ev P a) (ev P b)
  | .cutL a b => dCutL (ev P a) (ev P b)
  | .cutH a b => dCutH (ev P a) (ev P b)
  | .cutB a b d => dCutB (ev P a) (ev P b) (ev P d)
  | .m1 k a b => dM1 (m1F k) (ev P a) (ev P b)
  | .get a b => dMD mGet (ev P a) (ev P b)
  | .get2 a b d => dMD2 mGet2 (ev P a) (ev P b) (ev P d)
  | .fmt a => dFmt (ev P a)
  | .jnil => jNil
  | .jcons a r => jCons (ev P a) (ev P r)
  | .js r => dJs (ev P r)
  | .lc t vs s tt e => dLc vs t (ev P s) (ev P tt) (ev P e)
  | .lc2 t0 t1 vs vs1 s0 tt0 s1 tt1 e => dLc2 vs vs1 t0 (ev P s0) (ev P tt0) t1 (ev P s1) (ev P tt1) (ev P e)
  | .dict a => dB1 uDict (ev P a)
  | .dnew => dC (.dct [])
  | .tv a => ev P a
  | .t1 a => ev P a
  | .seq a => dSeq (ev P a)
  | .rng k r => dSrc (rngF k) (ev P r)
  | .zip r => dSrc zipV (ev P r)
  | .walk m a => dWalk m (ev P a)
def strong : CE → Bool
  | .bor _ => false
  | .one _ => true
  | _ => true
def fresh : CE → Bool
  | .lst _ => true
  | .lc .. => true
  | .lc2 .. => true
  | .dict _ => true
  | .dnew => true
  | _ => false
def pairs : CE → Bool
  | .zip _ => true
  | .walk .items _ => true
  | _ => false
/-! ### the look -/
/-- what the text is to be: an expression, a row, a source for a target, the parts of an f-string -/
inductive Nd where
  | e (x : Expr) | a (l : List Expr) | i (tg x : Expr) | j (l : List Expr) | t (x : Expr) | ts (l : List Expr)
structure Kx where
  N : List Str
  sc : Scope
  /-- within a block: the names that it stores -/
  fc : Option Scope
def vis (sc : Scope) (x : Str) : Bool := match sc.names.lookup x with
  | some .local => true
  | some .cell => true
  | some .free => true
  | _ => false
def glo (sc : Scope) (x : Str) : Bool := match sc.names.lookup x with
  | some .globalImplicit => true
  | _ => false
def okName (x : Str) : Bool := !(x == ("__debug__" : Str)) && !(x == ("__classdict__" : Str))
def notStar : Expr → Bool
  | .Starred .. => false
  | _ => true
def noStar (l : List Expr) : Bool := l.all notStar
/-- the top has not x -/
def gNo (G : List (Str × GV)) (x : Str) : Bool := G.any fun p => p.1 == x && (match p.2 with
  | .none => true
  | _ => false)
def slotIs (k : Kx) (i : Nat) (x : Str) : Bool := decide (k.N[i]? = some x) && (vis k.sc x && okName x)
/-- a built-in name -/
def blt (G : List (Str × GV)) (k : Kx) (x : Str) : Bool := glo k.sc x && gNo G x
def noCall0 : Expr → Bool
  | .Call _ [] [] _ => false
  | _ => true
/-- a target's row of slots -/
def tgtIs (k : Kx) : Tgt → Nd → Bool
  | .name i, .e (.Name x _) => decide (k.N[i]? = some x) && ((match k.sc.names.lookup x with
      | some .local => true
      | some .cell => true
      | _ => false) && (decide (k.sc.names.lookup x = some .local) || match k.fc with
      | some s => s.names.lookup x == some .cell
      | none => true))
  | .tup r, .e (.Tuple es _ _) => tgtIs k r (.a es) && (noStar es && r.row == some es.length)
  | .nil, .a [] => true
  | .cons t r, .a (e :: es) => tgtIs k t (.e e) && (notStar e && tgtIs k r (.a es))
  | _, _ => false
def constIs : PV → Const → Bool
  | .int i, .int j => decide (i = j)
  | .bl i, .bool j => i == j
  | .non, .none => true
  | .str s, .str x => decide (x = ⟨s.toArray⟩)
  | _, _ => false
/-- the block of a comprehension: its names by their slots -/
def ownOf (N : List Str) (vs : List Nat) : Option (List (Str × Nat)) := match vs with
  | [] => some []
  | v :: r => match N[v]?, ownOf N r with
    | some x, some l => some ((x, v) :: l)
    | _, _ => none
def blkIs (k : Kx) (vs : List Nat) (scope : Scope) : Bool := match ownOf k.N vs with
  | some own => blkC k.N k.sc scope own
  | none => false
def Kx.blk (k : Kx) (scope : Scope) : Kx := ⟨k.N, relS scope k.sc, some scope⟩
def notSet : Expr → Bool
  | .Set .. => false
  | _ => true
def plainIx : Expr → Bool
  | .Slice .. => false
  | _ => true
/-- a test that looks at its value -/
def valTest : Expr → Bool
  | .UnaryOp .Not _ _ => false
  | .BoolOp .. => false
  | .IfExp .. => false
  | .Compare .. => false
  | _ => true
def isTup : Expr → Bool
  | .Tuple .. => true
  | _ => false
def few1 (pos : Pos) : Bool := true
def src (G : List (Str × GV)) : CE → Kx → Nd → Bool
  | .var i, k, n => match n with
    | .e (.Name x _) => (slotIs k i x)
    | _ => false
  | .bor i, k, n => match n with
    | .e (.Name x _) => (slotIs k i x)
    | _ => false
  | .c p, _, n => match n with
    | .e (.Constant v _ _) => constIs p v
    | .ts [] => (match p with
      | .bl true => true
      | _ => false)
    | _ => false
  | .g j, k, n => match n with
    | .e (.Name x _) => (glo k.sc x && (okName x && (match G[j]? with
    | some (y, .fn _) => y == x
    | some (y, .val _) => y == x
    | _ => false)))
    | _ => false
  | .nil, _, n => match n with
    | .a [] => (true)
    | _ => false
  | .cons a r, k, n => match n with
    | .a (e :: es) => (src G a k (.e e) && (strong a && (notStar e && (src G r k (.a es) && noStar es))))
    | _ => false
  | .tup r, k, n => match n with
    | .e (.Tuple es _ _) => (src G r k (.a es))
    | _ => false
  | .lst r, k, n => match n with
    | .e (.List es _) => (src G r k (.a es))
    | _ => false
  | .lstc r, k, n => match n with
    | .e (.List es _) => (src G r k (.a es))
    | _ => false
  | .bin o a b, k, n => match n with
    | .e (.BinOp x op y _) => ((opN o == some op) && (src G a k (.e x) && src G b k (.e y)))
    | _ => false
  | .cmp o a b, k, n => match n with
    | .e (.Compare x [op] [y] _) => ((cmN o == some op) && (src G a k (.e x) && (src G b k (.e y) && notSet y)))
    | .t (.Compare x [op] [y] _) => ((cmN o == some op) && (src G a k (.e x) && (src G b k (.e y) && notSet y)))
    | _ => false
  | .chain o o' a b d, k, n => match n with
    | .e (.Compare x [op, op'] [y, z] _) => ((cmN o == some op && cmN o' == some op') && (src G a k (.e x) && (src G b k (.e y) && (src G d k (.e z) && (notSet y && notSet z)))))
    | .t (.Compare x [op, op'] [y, z] _) => ((cmN o == some op && cmN o' == some op') && (src G a k (.e x) && (src G b k (.e y) && (src G d k (.e z) && (notSet y && notSet z)))))
    | _ => false
  | .ite t a b, k, n => match n with
    | .e (.IfExp x y z _) => (src G t k (.t x) && (src G a k (.e y) && (src G b k (.e z) && (strong a && strong b))))
    | _ => false
  | .and a b, k, n => match n with
    | .e (.BoolOp .And (x :: y :: r) p) => (src G a k (.e x) && (src G b k (.e (.BoolOp .And (y :: r) p)) && (strong a && strong b)))
    | .t (.BoolOp .And (x :: y :: r) p) => (src G a k (.t x) && src G b k (.t (.BoolOp .And (y :: r) p)))
    | _ => false
  | .or a b, k, n => match n with
    | .e (.BoolOp .Or (x :: y :: r) p) => (src G a k (.e x) && (src G b k (.e (.BoolOp .Or (y :: r) p)) && (strong a && strong b)))
    | .t (.BoolOp .Or (x :: y :: r) p) => (src G a k (.t x) && src G b k (.t (.BoolOp .Or (y :: r) p)))
    | _ => false
  | .one a, k, n => match n with
    | .e (.BoolOp _ [x] _) => (src G a k (.e x) && strong a)
    | .t (.BoolOp _ [x] _) => (src G a k (.t x))
    | _ => false
  | .not a, k, n => match n with
    | .e (.UnaryOp .Not x _) => (src G a k (.e x) && strong a)
    | .t (.UnaryOp .Not x _) => (src G a k (.t x))
    | _ => false
  | .neg a, k, n => match n with
    | .e (.UnaryOp .USub x _) => (src G a k (.e x))
    | _ => false
  | .call i r, k, n => match n with
    | .e (.Call (.Name x _) es [] _) => (glo k.sc x && (okName x && ((G.any fun p => p.1 == x && (match p.2 with
      | .fn j => j == i
      | _ => false)) && (src G r k (.a es) && (noStar es && (!es.isEmpty || (match r with
      | .nil => true
      | _ => false)))))))
    | _ => false
  | .callL i r, k, n => match n with
    | .e (.Call (.Name x _) (e :: es) [] _) => (slotIs k i x && (src G r k (.a (e :: es)) && noStar (e :: es)))
    | _ => false
  | .u1 j a, k, n => match n with
    | .e (.Call (.Name x _) [e] [] _) => ((u1N j == some x) && (blt G k x && (src G a k (.e e) && notStar e)))
    | _ => false
  | .u2 j a b, k, n => match n with
    | .e (.Call (.Name x _) [e, f] [] _) => ((u2N j == some x) && (blt G k x && (src G a k (.e e) && (src G b k (.e f) && (notStar e && notStar f)))))
    | _ => false
  | .isi j a, k, n => match n with
    | .e (.Call (.Name x _) [e, .Name y _] [] _) => ((x == ("isinstance" : Str)) && (blt G k x && (blt G k y && ((match isiN j with
    | some T => y == PySem.Str.ofString T
    | none => false) && (src G a k (.e e) && notStar e)))))
    | _ => false
  | .ix a b, k, n => match n with
    | .e (.Subscript x y _) => (src G a k (.e x) && (src G b k (.e y) && plainIx y))
    | _ => false
  | .cutL a b, k, n => match n with
    | .e (.Subscript x (.Slice (some y) none none _) _) => (src G a k (.e x) && src G b k (.e y))
    | _ => false
  | .cutH a b, k, n => match n with
    | .e (.Subscript x (.Slice none (some y) none _) _) => (src G a k (.e x) && src G b k (.e y))
    | _ => false
  | .cutB a b d, k, n => match n with
    | .e (.Subscript x (.Slice (some y) (some z) none _) _) => (src G a k (.e x) && (src G b k (.e y) && src G d k (.e z)))
    | _ => false
  | .m1 j a b, k, n => match n with
    | .e (.Call (.Attribute x m ap) [e] [] cp) => ((m1N j == some m) && (src G a k (.e x) && (src G b k (.e e) && (noCall0 x && (notStar e && (ap.endLine == cp.line))))))
    | _ => false
  | .get a b, k, n => match n with
    | .e (.Call (.Attribute x m ap) [e] [] cp) => ((m == ("get" : Str)) && (src G a k (.e x) && (src G b k (.e e) && (noCall0 x && (notStar e && (ap.endLine == cp.line))))))
    | _ => false
  | .get2 a b d, k, n => match n with
    | .e (.Call (.Attribute x m ap) [e, f] [] cp) => ((m == ("get" : Str)) && (src G a k (.e x) && (src G b k (.e e) && (src G d k (.e f) && (strong d && (noCall0 x && (notStar e && (notStar f && (ap.endLine == cp.line)))))))))
    | _ => false
  | .fmt a, k, n => match n with
    | .e (.FormattedValue x c none _) => ((c == -1) && (src G a k (.e x) && strong a))
    | _ => false
  | .jnil, _, n => match n with
    | .j [] => (true)
    | _ => false
  | .jcons a r, k, n => match n with
    | .j (e :: es) => (src G a k (.e e) && (strong a && src G r k (.j es)))
    | _ => false
  | .js r, k, n => match n with
    | .e (.JoinedStr (x :: y :: es) _) => (src G r k (.j (x :: y :: es)))
    | _ => false
  | .lc t vs s tt e, k, n => match n with
    | .e (.ListComp x [⟨tg, it, ifs, 0⟩] scope _) => (blkIs k vs scope && (t.slots.all (fun i => vs.contains i) && (src G s k (.i tg it) && (notSet it && (tgtIs (k.blk scope) t (.e tg) && (src G tt (k.blk scope) (.ts ifs) && (src G e (k.blk scope) (.e x) && strong e)))))))
    | _ => false
  | .lc2 t0 t1 vs vs1 s0 tt0 s1 tt1 e, k, n => match n with
    | .e (.ListComp x [⟨tg, it, ifs, 0⟩, ⟨tg1, it1, ifs1, 0⟩] scope _) => (blkIs k vs scope && (t0.slots.all (fun i => vs.contains i) && (t1.slots.all (fun i => vs1.contains i) && (vs1.all (fun i => vs.contains i) && (src G s0 k (.i tg it) && (notSet it && (tgtIs (k.blk scope) t0 (.e tg) && (src G tt0 (k.blk scope) (.ts ifs) &&
      (src G s1 (k.blk scope) (.i tg1 it1) && (notSet it1 && (tgtIs (k.blk scope) t1 (.e tg1) && (src G tt1 (k.blk scope) (.ts ifs1) && (src G e (k.blk scope) (.e x) && strong e)))))))))))))
    | _ => false
  | .dict a, k, n => match n with
    | .e (.Call (.Name x _) [e] [] _) => ((x == ("dict" : Str)) && (blt G k x && (src G a k (.e e) && (strong a && notStar e))))
    | _ => false
  | .dnew, _, n => match n with
    | .e (.Dict [] [] _) => (true)
    | _ => false
  | .seq a, k, n => match n with
    | .i _ x => (src G a k (.e x) && strong a)
    | _ => false
  | .rng j r, k, n => match n with
    | .i _ (.Call (.Name x _) es [] _) => ((x == ("range" : Str)) && (blt G k x && (src G r k (.a es) && (noStar es && (j == es.length && (j == 1 || j == 2))))))
    | _ => false
  | .zip r, k, n => match n with
    | .i tg (.Call (.Name x _) es [] _) => ((x == ("zip" : Str)) && (blt G k x && (src G r k (.a es) && (noStar es && (es.length == 2 && isTup tg)))))
    | _ => false
  | .walk m' a, k, n => match m', n with
    | .vals, .i _ (.Call (.Attribute x m ap) [] [] cp) => ((m == ("values" : Str)) && (src G a k (.e x) && (strong a && (noCall0 x && (ap.endLine == cp.line)))))
    | .items, .i tg (.Call (.Attribute x m ap) [] [] cp) => ((m == ("items" : Str)) && (isTup tg && (src G a k (.e x) && (strong a && (noCall0 x && (ap.endLine == cp.line))))))
    | .keys, .i _ x => (src G a k (.e x) && strong a)
    | _, _ => false
  | .tv a, k, n => match n with
    | .t x => (src G a k (.e x) && valTest x)
    | _ => false
  | .t1 a, k, n => match n with
    | .ts [x] => (src G a k (.t x))
    | _ => false
end Tg
end
section
set_option Elab.async false
set_option linter.all false
set_option autoImplicit false
set_option maxRecDepth 100000
/-! the look is enough -/
namespace Tg
open PySem PySem.Spec PyProof.Rows L2
/-- a context that the code may run in -/
structure XOk (W : Wd) (P : Px) (kn : Nat) (k : Kx) (E : XK) (X : Cx) : Prop where
  prog : X.prog = W.P
  w : X.w = W.w
  K : X.K = W.K
  N : X.N = k.N
  nd : X.N.Nodup
  sc : X.env.scope = k.sc
  fc : ∀ x, match k.fc with
    | some s => X.fn x = (s.names.lookup x == some .cell)
    | none => X.fn x = true
  calm : X.calm = true
  un : X.A.units + 70 < cLine
  room : Room kn X.A
  gd : X.A.guards = some []
  fns : ∀ j, j < P.nf → ∃ fd ps, FnG X.prog X.w X.K X.mg X.base (CX X.prog X.w) kn (W.fa j) fd ps (spOf W P.C j) ∧ PySem.W.keepIn X.K (.ref (W.fa j)) = true ∧ Binds X.K fd ps []
  G : ∀ x gv, (x, gv) ∈ P.G → match gv with
    | .fn i => i < P.nf ∧ X.mg x = some (.ref (W.fa i))
    | .val p => ∃ v u, X.mg x = some u ∧ RelV v u ∧ ∀ H b, Rep W H b p v
    | .none => X.mg x = none
  pass : Passes (CX X.prog X.w) X E
section
variable {W : Wd} {P : Px} {kn : Nat} {k : Kx} {E : XK} {X : Cx}
theorem XOk.blk (o : XOk W P kn k E X) (s : Shared) (H : Hp) (scope : Scope) (C : Addr) (cl : List (Str × Addr)) (fp : List Addr) : XOk W P kn (k.blk scope) XK0 (X.blk s H scope (compEnvC scope cl C X.env) fp) where
  prog := o.prog
  w := o.w
  K := o.K
  N := o.N
  nd := o.nd
  sc := by
    show L2.relS scope X.env.scope = L2.relS scope k.sc
    rw [o.sc]
  fc := fun x => rfl
  calm := o.calm
  un := o.un
  room := o.room
  gd := o.gd
  fns := o.fns
  G := o.G
  pass := fun pins σ H s e s' I c => by
    obtain ⟨_, _, _, _, _, _, _, _, _, _, _, _, c⟩ := c
    exact c.elim
theorem XOk.vis (o : XOk W P kn k E X) {x : Str} (h : Tg.vis k.sc x = true) : Vis X.env.scope x := by
  rw [o.sc]
  unfold Tg.vis at h
  unfold Vis
  split at h
  · rename_i q; exact .inl q
  · rename_i q; exact .inr (.inl q)
  · rename_i q; exact .inr (.inr q)
  · cases h
theorem XOk.gl (o : XOk W P kn k E X) {x : Str} (h : glo k.sc x = true) : Gl X x := by
  show X.env.scope.names.lookup x = _
  rw [o.sc]
  unfold glo at h
  split at h
  · assumption
  · cases h
theorem okN_of {x : Str} (h : okName x = true) : (x == ("__debug__" : Str)) = false ∧ (x == ("__classdict__" : Str)) = false := by
  unfold okName at h
  simp only [Bool.and_eq_true, Bool.not_eq_true'] at h
  exact h
theorem XOk.slot (o : XOk W P kn k E X) {i : Nat} {x : Str} (h : slotIs k i x = true) : X.N[i]? = some x ∧ Vis X.env.scope x ∧ (x == ("__debug__" : Str)) = false ∧ (x == ("__classdict__" : Str)) = false := by
  unfold slotIs at h
  simp only [Bool.and_eq_true, decide_eq_true_eq] at h
  rw [o.N]
  exact ⟨h.1, o.vis h.2.1, okN_of h.2.2⟩
theorem XOk.no (o : XOk W P kn k E X) {x : Str} (h : gNo P.G x = true) : X.mg x = none := by
  unfold gNo at h
  rw [List.any_eq_true] at h
  obtain ⟨⟨y, gv⟩, hm, h⟩ := h
  simp only [Bool.and_eq_true, beq_iff_eq] at h
  obtain ⟨rfl, h⟩ := h
  have := o.G y gv hm
  cases gv with
  | none => exact this
  | _ => cases h
theorem XOk.blt (o : XOk W P kn k E X) {x : Str} (h : Tg.blt P.G k x = true) : Gl X x ∧ X.mg x = none := by
  unfold Tg.blt at h
  rw [Bool.and_eq_true] at h
  exact ⟨o.gl h.1, o.no h.2⟩
/-! ### of the text alone -/
theorem star_cons {e : Expr} {es : List Expr} {env : PySem.Env} (h : notStar e = true) : starEach (e :: es) env = (false, eval e env) :: starEach es env := by
  cases e <;> first | rfl | cases h
theorem plainS {pos : Pos} {env : PySem.Env} : ∀ {es : List Expr}, noStar es = true → (backTo pos (starEach es env)).any (·.1) = false
  | [], _ => rfl
  | e :: es, h => by
    unfold noStar at h
    rw [List.all_cons, Bool.and_eq_true] at h
    rw [star_cons h.1]
    show (false || (backTo pos (starEach es env)).any (·.1)) = false
    rw [plainS (es := es) h.2]
    rfl
theorem base_of {o : Expr} {m : Str} {env : PySem.Env} {whole : Sem Value} (h : noCall0 o = true) : attributeBase o m env whole = whole := by
  cases o with
  | Call f args kws pos =>
    cases args with
    | cons a r => cases f <;> rfl
    | nil =>
      cases kws with
      | nil => cases h
      | cons a r => cases f <;> rfl
  | _ => rfl
theorem folded_of {e : Expr} {env : PySem.Env} (h : notSet e = true) : ∀ x, foldedSetIterable e env x = pure x := by
  intro x
  cases e <;> first | rfl | cases h
theorem behind_of {op : CmpOp} {e : Expr} (h : notSet e = true) : behindInMarks op e = false := by
  cases e <;> first | rfl | cases h
theorem asg_cons {e : Expr} {es : List Expr} {env : PySem.Env} (h : notStar e = true) : assignEach (e :: es) env = (false, assign e env) :: assignEach es env := by
  cases e <;> first | rfl | cases h
theorem asg_len {env : PySem.Env} : ∀ {es : List Expr}, noStar es = true → (assignEach es env).length = es.length ∧ (assignEach es env).findIdx? (·.1) = none
  | [], _ => ⟨rfl, rfl⟩
  | e :: es, h => by
    unfold noStar at h
    rw [List.all_cons, Bool.and_eq_true] at h
    obtain ⟨h1, h2⟩ := asg_len (env := env) (es := es) h.2
    rw [asg_cons h.1]
    refine ⟨by rw [List.length_cons, List.length_cons, h1], ?_⟩
    rw [List.findIdx?_cons, h2]
    rfl
theorem ix_of {e : Expr} (h : plainIx e = true) : PlainIx e := by
  intro o i
  cases e <;> first | rfl | cases h
theorem tt_of' {e : Expr} {env : PySem.Env} (h : valTest e = true) : ∀ whole, isTrue e env whole = (do let v ← whole; standAt e.pos; holding [v] (truthy v)) := by
  intro whole
  cases e with
  | UnaryOp op x p => cases op <;> first | rfl | cases h
  | _ => first | rfl | cases h
theorem few_of {pos : Pos} {e : Expr} {env : PySem.Env} (h : notStar e = true) : ((backTo pos (starEach [e] env)).all (fun x => !x.1) && (backToKw pos (keywordEach [] env)).all (fun x => x.1.isSome)
    && decide (([e] : List Expr).length + ([] : List Keyword).length + (if ([] : List Keyword).isEmpty then 0 else 1) < 30)) = true := by
  rw [star_cons h]; rfl
theorem few_of2 {pos : Pos} {e f : Expr} {env : PySem.Env} (h : notStar e = true) (h2 : notStar f = true) : ((backTo pos (starEach [e, f] env)).all (fun x => !x.1) && (backToKw pos (keywordEach [] env)).all (fun x => x.1.isSome)
    && decide (([e, f] : List Expr).length + ([] : List Keyword).length + (if ([] : List Keyword).isEmpty then 0 else 1) < 30)) = true := by
  rw [star_cons h, star_cons h2]; rfl
theorem tree_of {pos : Pos} {e : Expr} {env : PySem.Env} (h : notStar e = true) : backTo pos (starEach [e] env) = [(false, eval e env)] := by
  rw [star_cons h]; rfl
theorem tree_of2 {pos : Pos} {e f : Expr} {env : PySem.Env} (h : notStar e = true) (h2 : notStar f = true) : backTo pos (starEach [e, f] env) = [(false, eval e env), (false, eval f env)] := by
  rw [star_cons h, star_cons h2]; rfl
theorem all_or {l : List Nat} {vs : List Nat} (h : l.all (fun i => vs.contains i) = true) : ∀ i ∈ l, i ∈ vs := fun i hi => by
  rw [List.all_eq_true] at h
  simpa using h i hi
/-! ### targets -/
theorem tgt_ok (o : XOk W P kn k E X) (g : Gh) : ∀ (t : Tgt) (n : Nd), tgtIs k t n = true → match n with
    | .e tg => ∀ w, (w = true → isTup tg = true) → PG X tg (tG W w g t)
    | .a es => PGs X es (tGs W g t)
    | _ => True := by
  intro t
  induction t with
  | name i =>
    intro n h
    cases n with
    | e tg =>
      cases tg with
      | Name x p =>
        intro w hw
        have hw : w = false := by
          cases w with
          | false => rfl
          | true => exact absurd (hw rfl) (by simp [isTup])
        subst hw
        simp only [tgtIs, Bool.and_eq_true, Bool.or_eq_true, decide_eq_true_eq] at h
        obtain ⟨hi, hl, hf⟩ := h
        refine sg_name o.nd (by rw [o.N]; exact hi) ?_ ?_
        · rw [o.sc]
          unfold L2.Loc
          split at hl
          · rename_i q; exact .inl q
          · rename_i q; exact .inr q
          · cases hl
        · rw [o.sc]
          rcases hf with hf | hf
          · exact .inr hf
          · left
            have := o.fc x
            cases hk : k.fc with
            | none => rw [hk] at this; exact this
            | some s =>
              rw [hk] at this hf
              rw [this]
              exact hf
      | _ => cases h
    | _ => first | trivial | cases h
  | nil =>
    intro n h
    cases n with
    | a es =>
      cases es with
      | nil => exact sg_nil
      | cons _ _ => cases h
    | _ => first | trivial | cases h
  | cons a r iha ihr =>
    intro n h
    cases n with
    | a es =>
      cases es with
      | nil => cases h
      | cons e es =>
        simp only [tgtIs, Bool.and_eq_true] at h
        have h1 := iha (.e e) h.1 false (by simp)
        have h2 := ihr (.a es) h.2.2
        exact sg_cons h1 h2 (by rw [asg_cons h.2.1]; rfl)
    | _ => first | trivial | cases h
  | tup r ih =>
    intro n h
    cases n with
    | e tg =>
      cases tg with
      | Tuple es kk p =>
        intro w hw
        simp only [tgtIs, Bool.and_eq_true, beq_iff_eq] at h
        obtain ⟨h1, h2⟩ := asg_len (env := X.env) h.2.1
        exact sg_tup o.K o.calm (ih (.a es) h.1) h.2.2 h1 h2
      | _ => cases h
    | _ => first | trivial | cases h
theorem own_of : ∀ {N : List Str} {vs : List Nat} {own : List (Str × Nat)}, ownOf N vs = some own → own.map (·.2) = vs
  | N, [], own, h => by cases h; rfl
  | N, v :: r, own, h => by
    unfold ownOf at h
    split at h
    · rename_i x l h1 h2
      cases h
      rw [List.map_cons, own_of h2]
    · cases h
theorem blk_of (o : XOk W P kn k E X) {vs : List Nat} {scope : Scope} (h : blkIs k vs scope = true) : ∃ own, BlkOk X.N X.env.scope scope own ∧ own.map (·.2) = vs := by
  unfold blkIs at h
  split at h
  · rename_i own q
    refine ⟨own, ?_, own_of q⟩
    rw [o.N, o.sc]
    exact blkOk_by h
  · cases h
end
end Tg
end
section
set_option Elab.async false
set_option linter.all false
set_option autoImplicit false
set_option maxRecDepth 100000
/-! the look is enough: expressions -/
namespace Tg
open PySem PySem.Spec PyProof.Rows L2
section
variable {W : Wd} {P : Px} {kn : Nat} {k : Kx} {E : XK} {X : Cx} {g : Gh}
theorem op_ok (o : XOk W P kn k E X) : ∀ (j : Nat) (op : Operator), opN j = some op → ∃ r, OpR X (binaryOp op) r ∧ Op2 W (RW W) (RW W) (opF j) r
  | 0, op, h => by cases h; exact ⟨_, o_add o.K, f_add⟩
  | 1, op, h => by cases h; exact ⟨_, op_sub, f_sub⟩
  | 2, op, h => by cases h; exact ⟨_, o_mul, f_mul⟩
  | 3, op, h => by cases h; exact ⟨_, op_fdivW, f_div⟩
  | 4, op, h => by cases h; exact ⟨_, op_mod, f_mod⟩
  | 5, op, h => by cases h; exact ⟨_, op_pow, f_pow⟩
  | n + 6, op, h => by cases h
theorem cm_ok (o : XOk W P kn k E X) : ∀ (j : Nat) (op : CmpOp), cmN j = some op → ∃ r, OpR X (compareOp op) r ∧ Op2 W (RW W) (RW W) (cmF j) r ∧ BlF (cmF j)
  | 0, op, h => by cases h; exact ⟨_, o_lt o.K (by have := o.un; omega), f_lt, blf_lt⟩
  | 1, op, h => by cases h; exact ⟨_, op_le, f_le, blf_le⟩
  | 2, op, h => by cases h; exact ⟨_, op_gt, f_gt, blf_gt⟩
  | 3, op, h => by cases h; exact ⟨_, op_ge, f_ge, blf_ge⟩
  | 4, op, h => by cases h; exact ⟨_, o_eq o.K (by have := o.un; omega), f_eq, blf_eq⟩
  | 5, op, h => by cases h; exact ⟨_, o_ne o.K (by have := o.un; omega), f_ne, blf_ne⟩
  | 6, op, h => by cases h; exact ⟨_, o_in o.prog o.w o.K (by have := o.un; omega), (show Op2 W (RW W) (RW W) vIn _ from by rw [vIn_eq]; exact f_in false), (show BlF vIn from by rw [vIn_eq]; exact blf_in false)⟩
  | 7, op, h => by cases h; exact ⟨_, o_notIn o.prog o.w o.K (by have := o.un; omega), (show Op2 W (RW W) (RW W) vNotIn _ from by rw [vNotIn_eq]; exact f_in true), (show BlF vNotIn from by rw [vNotIn_eq]; exact blf_in true)⟩
  | 8, op, h => by cases h; exact ⟨_, op_isN, f_is, blf_is⟩
  | 9, op, h => by cases h; exact ⟨_, op_notN, f_isN, blf_isN⟩
  | n + 10, op, h => by cases h
section
variable {e c : Expr} {da db : Den} {p pos : Pos} {x : Str}
theorem u1_ok (o : XOk W P kn k E X) (ha : PE X e (tEr W g E (RW W) da)) (hs : notStar e = true) (hg : Gl X x) (hm : X.mg x = none) : ∀ j, u1N j = some x → PE X (.Call (.Name x p) [e] [] pos) (tEv W g E (dB1 (u1F j) da))
  | 0, h => by cases h; exact sb_fun (o_len o.prog o.w o.K) f_len hg hm (by decide +kernel) ha (by decide) (by decide) (star_cons hs) rfl
  | 1, h => by cases h; exact sb_ty (o_tuple o.K) f_tuple hg hm (by decide +kernel) ha (by decide) (by decide) (star_cons hs) rfl
  | 2, h => by cases h; exact sb_ty (o_list o.K) f_list hg hm (by decide +kernel) ha (by decide) (by decide) (star_cons hs) rfl
  | 3, h => by cases h; exact sb_fun (o.K ▸ cr_all o.calm) f_all hg hm (by decide +kernel) ha (by decide) (by decide) (star_cons hs) rfl
  | 4, h => by cases h; exact sb_fun (o.K ▸ cr_any o.calm) f_any hg hm (by decide +kernel) ha (by decide) (by decide) (star_cons hs) rfl
  | 5, h => by cases h; exact sb_fun (o.K ▸ cr_sum o.calm) f_sum hg hm (by decide +kernel) ha (by decide) (by decide) (star_cons hs) rfl
  | 6, h => by cases h; exact sb_fun (o.K ▸ cr_min o.calm) f_min hg hm (by decide +kernel) ha (by decide) (by decide) (star_cons hs) rfl
  | 7, h => by cases h; exact sb_fun (o.K ▸ cr_max o.calm) f_max hg hm (by decide +kernel) ha (by decide) (by decide) (star_cons hs) rfl
  | 8, h => by cases h; exact sb_ty o_str f_str hg hm (by decide +kernel) ha (by decide) (by decide) (star_cons hs) rfl
  | 9, h => by cases h; exact sb_ty o_int f_int hg hm (by decide +kernel) ha (by decide) (by decide) (star_cons hs) rfl
  | 10, h => by cases h; exact sb_fun call_abs f_abs hg hm (by decide +kernel) ha (by decide) (by decide) (star_cons hs) rfl
  | 11, h => by cases h; exact sb_ty call_bool1 f_bool hg hm (by decide +kernel) ha (by decide) (by decide) (star_cons hs) rfl
  | 12, h => by cases h; exact sb_fun (cr_repr o.K o.gd o.un) f_repr hg hm (by decide +kernel) ha (by decide) (by decide) (star_cons hs) rfl
  | n + 13, h => by cases h
theorem u2_ok (o : XOk W P kn k E X) (ha : PE X e (tEr W g E (RW W) da)) (hb : PE X c (tEr W g E (RW W) db)) (hs : notStar e = true) (hs2 : notStar c = true) (hg : Gl X x) (hm : X.mg x = none) : ∀ j, u2N j = some x → PE X (.Call (.Name x p) [e, c] [] pos) (tEv W g E (dB2 (u2F j) da db))
  | 0, h => by cases h; exact sb_fun2 (call_max2 o.calm) f_max2 hg hm (by decide +kernel) ha hb (by decide) (by decide) (star_cons hs) (star_cons hs2) (plainS (es := [c]) (by simp [noStar, hs2]))
  | 1, h => by cases h; exact sb_fun2 (call_min2 o.calm) f_min2 hg hm (by decide +kernel) ha hb (by decide) (by decide) (star_cons hs) (star_cons hs2) (plainS (es := [c]) (by simp [noStar, hs2]))
  | n + 2, h => by cases h
theorem f_rpart : OpM W mRpart (fun x xs H Q => ∃ (a : List Nat) (c : Nat), x = .str ⟨a.toArray⟩ ∧ xs = [.str ⟨#[c]⟩] ∧ a.length ≤ sizeLine ∧
    NewT (match rpar c a with
      | some (p, q) => [.str ⟨p.toArray⟩, .str ⟨#[c]⟩, .str ⟨q.toArray⟩]
      | none => [.str ⟨#[]⟩, .str ⟨#[]⟩, .str ⟨a.toArray⟩]) H Q) := by
  intro v u w x y H b Q hf rv ru hw kk
  unfold mRpart at hw
  split at hw
  · rename_i a c
    split at hw
    · rename_i hl
      cases rw_str rv; cases rw_str ru
      refine ⟨a, c, rfl, rfl, hl, fun p o hp ho => ?_⟩
      cases hq : rpar c a with
      | none =>
        rw [hq] at hw; cases hw
        exact kk _ _ (same_upd hp) (.tup (.inl ⟨hf p hp, o, upd_same, ho⟩) (.cons (.str []) (.cons (.str []) (.cons (.str a) .nil))))
      | some pq =>
        obtain ⟨p1, q1⟩ := pq
        rw [hq] at hw; cases hw
        exact kk _ _ (same_upd hp) (.tup (.inl ⟨hf p hp, o, upd_same, ho⟩) (.cons (.str p1) (.cons (.str [c]) (.cons (.str q1) .nil))))
    · cases hw
  · cases hw
theorem m1_ok {m : Str} {apos : Pos} (o : XOk W P kn k E X) (ha : PE X e (tEr W g E (RW W) da)) (hb : PE X c (tEr W g E (RW W) db)) (hs : notStar c = true) (hn : noCall0 e = true) (hl : (apos.endLine == pos.line) = true) : ∀ j, m1N j = some m → PE X (.Call (.Attribute e m apos) [c] [] pos) (tEv W g E (dM1 (m1F j) da db))
  | 0, h => by cases h; exact sb_m1 PySem.F.slot_str_join PySem.F.type_str_join (o_join o.K) f_join ha hb hl (base_of hn) (star_cons hs)
  | 1, h => by cases h; exact sb_m1 PySem.F.slot_str_split PySem.F.type_str_split mt_split f_split ha hb hl (base_of hn) (star_cons hs)
  | 2, h => by cases h; exact sb_m1 PySem.F.slot_str_partition PySem.F.type_str_partition mt_partF f_part ha hb hl (base_of hn) (star_cons hs)
  | 3, h => by cases h; exact sb_m1 PySem.F.slot_str_rpartition PySem.F.type_str_rpartition mt_rpartF f_rpart ha hb hl (base_of hn) (star_cons hs)
  | n + 4, h => by cases h
theorem isi_ok {y : Str} {py : Pos} {T : String} (o : XOk W P kn k E X) (ha : PE X e (tEr W g E (RW W) da)) (hs : notStar e = true) (hg : Gl X "isinstance") (hm : X.mg "isinstance" = none) (hy : Gl X y) (hmy : X.mg y = none) (hT : y = PySem.Str.ofString T) :
    ∀ j, isiN j = some T → PE X (.Call (.Name "isinstance" p) [e, .Name y py] [] pos) (tEv W g E (dB1 (uIsi ((isiN j).getD "")) da))
  | 0, h => by cases h; subst hT; exact se_isi o.K rfl (by decide) hg hm hy hmy (by decide +kernel) ha (by decide) (by decide) (star_cons hs) rfl rfl
  | 1, h => by cases h; subst hT; exact se_isi o.K rfl (by decide) hg hm hy hmy (by decide +kernel) ha (by decide) (by decide) (star_cons hs) rfl rfl
  | 2, h => by cases h; subst hT; exact se_isi o.K rfl (by decide) hg hm hy hmy (by decide +kernel) ha (by decide) (by decide) (star_cons hs) rfl rfl
  | 3, h => by cases h; subst hT; exact se_isi o.K rfl (by decide) hg hm hy hmy (by decide +kernel) ha (by decide) (by decide) (star_cons hs) rfl rfl
  | 4, h => by cases h; subst hT; exact se_isi o.K rfl (by decide) hg hm hy hmy (by decide +kernel) ha (by decide) (by decide) (star_cons hs) rfl rfl
  | n + 5, h => by cases h
end
/-- what the code promises of the text -/
def Good (W : Wd) (P : Px) (X : Cx) (g : Gh) (E : XK) (c : CE) : Nd → Prop
  | .e x => PE X x (tEr W g E (RW W) (ev P c)) ∧ (strong c = true → PE X x (tEv W g E (ev P c))) ∧ (fresh c = true → PE X x (tEf W g E (ev P c)))
  | .a l => PA X l (tEa W g E (ev P c))
  | .i tg x => (pairs c = true → isTup tg = true) ∧ PI X tg x (tI W (pairs c) g E (ev P c))
  | .j l => JP X W g E l (ev P c)
  | .t x => PT X x (tEt W g E (ev P c)) ∧ ∀ op vs p, x = .BoolOp op vs p → PW X x (tEt W g E (ev P c))
  | .ts l => PTs X l (tEt W g E (ev P c))
theorem weak_of {e : Expr} {d : Den} (h : PE X e (tEv W g E d)) : PE X e (tEr W g E (RW W) d) := peI h fun _ _ _ q => tEw_of q
/-- a strong, not fresh one -/
theorem good_e {c : CE} {x : Expr} (h : PE X x (tEv W g E (ev P c))) (hf : fresh c = false) : Good W P X g E c (.e x) := ⟨weak_of h, fun _ => h, fun z => by rw [hf] at z; cases z⟩
theorem good_f {c : CE} {x : Expr} (h : PE X x (tEf W g E (ev P c))) : Good W P X g E c (.e x) := ⟨weak_of (ev_ef h), fun _ => ev_ef h, fun _ => h⟩
theorem good_t {c : CE} {x : Expr} (h : PT X x (tEt W g E (ev P c))) (hn : ∀ op vs p, x ≠ .BoolOp op vs p) : Good W P X g E c (.t x) := ⟨h, fun op vs p q => absurd q (hn op vs p)⟩
theorem good_w {c : CE} {x : Expr} (h : PW X x (tEt W g E (ev P c))) : Good W P X g E c (.t x) := ⟨h.pt, fun _ _ _ _ => h⟩
end
end Tg
end
section
set_option Elab.async false
set_option linter.all false
set_option autoImplicit false
set_option maxRecDepth 100000
/-! the look is enough: all expressions -/
namespace Tg
open PySem PySem.Spec PyProof.Rows L2
section
variable {W : Wd} {P : Px} {kn : Nat}
theorem tup_shape {tg : Expr} (h : isTup tg = true) : ∃ es kk pos, tg = .Tuple es kk pos := by
  cases tg <;> first | exact ⟨_, _, _, rfl⟩ | cases h
theorem snd : ∀ (c : CE) (k : Kx) (n : Nd), src P.G c k n = true → ∀ (E : XK) (X : Cx), XOk W P kn k E X → ∀ g, Good W P X g E c n := by
  intro c
  induction c with
  | var i =>
    intro k n h E X o g
    simp only [src] at h
    split at h
    · obtain ⟨h1, h2, h3, h4⟩ := o.slot h
      exact good_e (se_var h1 h2 h3 h4) rfl
    · cases h
  | bor i =>
    intro k n h E X o g
    simp only [src] at h
    split at h
    · obtain ⟨h1, h2, h3, h4⟩ := o.slot h
      exact ⟨se_bor h1 h2 h3 h4, (fun z => nomatch z), fun z => nomatch z⟩
    · cases h
  | c p =>
    intro k n h E X o g
    simp only [src] at h
    split at h
    · rename_i v j pos
      refine good_e ?_ rfl
      unfold constIs at h
      split at h
      · rw [decide_eq_true_eq] at h; subst h; exact se_c pe_int fun _ _ => .int _
      · rw [beq_iff_eq] at h; subst h; exact se_c pe_bl fun _ _ => .bl _
      · exact se_c pe_non fun _ _ => .non
      · rw [decide_eq_true_eq] at h; subst h; exact se_c pe_str fun _ _ => .str _
      · cases h
    · split at h
      · exact st_none
      · cases h
    · cases h
  | g j =>
    intro k n h E X o g
    simp only [src] at h
    split at h
    · rename_i x pos
      simp only [Bool.and_eq_true] at h
      obtain ⟨h1, h2, h3⟩ := h
      refine good_e ?_ rfl
      split at h3
      · rename_i y i q
        rw [beq_iff_eq] at h3
        subst h3
        obtain ⟨_, hm⟩ := o.G y (.fn i) (List.mem_of_getElem? q)
        have : PE X (.Name y pos) (tEv W g E (dC (.fn i))) := se_c (pe_glob (v := .ref (W.fa i)) (o.gl h1) hm rfl (okN_of h2).1) fun _ _ => .fn i
        refine peI this ?_
        rintro σ H Q ⟨ρ, S, b, O, e, f⟩
        refine ⟨ρ, S, b, O, e, ?_⟩
        simp only [ev, dG, q] at f
        exact f
      · rename_i y p q
        rw [beq_iff_eq] at h3
        subst h3
        obtain ⟨v, u, hm, rv, hr⟩ := o.G y (.val p) (List.mem_of_getElem? q)
        have : PE X (.Name y pos) (tEv W g E (dC p)) := se_c (pe_glob (o.gl h1) hm rv (okN_of h2).1) hr
        refine peI this ?_
        rintro σ H Q ⟨ρ, S, b, O, e, f⟩
        refine ⟨ρ, S, b, O, e, ?_⟩
        simp only [ev, dG, q] at f
        exact f
      · cases h3
    · cases h
  | nil =>
    intro k n h E X o g
    simp only [src] at h
    split at h
    · exact sa_nil
    · cases h
  | cons a r iha ihr =>
    intro k n h E X o g
    simp only [src] at h
    split at h
    · simp only [Bool.and_eq_true] at h
      exact sa_cons ((iha k _ h.1 E X o g).2.1 h.2.1) (ihr k _ h.2.2.2.1 E X o g) (star_cons h.2.2.1)
    · cases h
  | tup r ih =>
    intro k n h E X o g
    simp only [src] at h
    split at h
    · exact good_e (se_tup (ih k _ h E X o g)) rfl
    · cases h
  | lst r ih =>
    intro k n h E X o g
    simp only [src] at h
    split at h
    · exact good_f (sf_lst (ih k _ h E X o g))
    · cases h
  | lstc r ih =>
    intro k n h E X o g
    simp only [src] at h
    split at h
    · exact good_e (se_lstc (ih k _ h E X o g)) rfl
    · cases h
  | bin j a b iha ihb =>
    intro k n h E X o g
    simp only [src] at h
    split at h
    · simp only [Bool.and_eq_true, beq_iff_eq] at h
      obtain ⟨r, h1, h2⟩ := op_ok o j _ h.1
      exact good_e (se_bin (Ra := RW W) (Rb := RW W) stb_w h1 h2 (iha k _ h.2.1 E X o g).1 (ihb k _ h.2.2 E X o g).1) rfl
    · cases h
  | cmp j a b iha ihb =>
    intro k n h E X o g
    simp only [src] at h
    split at h
    · simp only [Bool.and_eq_true, beq_iff_eq] at h
      obtain ⟨r, h1, h2, h3⟩ := cm_ok o j _ h.1
      exact good_e (se_cmp (Ra := RW W) (Rb := RW W) stb_w h1 h2 (iha k _ h.2.1 E X o g).1 (ihb k _ h.2.2.1 E X o g).1 (behind_of h.2.2.2)) rfl
    · simp only [Bool.and_eq_true, beq_iff_eq] at h
      obtain ⟨r, h1, h2, h3⟩ := cm_ok o j _ h.1
      exact good_t (st_cmp (Ra := RW W) (Rb := RW W) stb_w h1 h2 h3 (iha k _ h.2.1 E X o g).1 (ihb k _ h.2.2.1 E X o g).1 (behind_of h.2.2.2)) (fun _ _ _ z => nomatch z)
    · cases h
  | chain j j' a b d iha ihb ihd =>
    intro k n h E X o g
    simp only [src] at h
    split at h
    · rename_i x op op' y z pos
      simp only [Bool.and_eq_true, beq_iff_eq] at h
      obtain ⟨r, h1, h2, h3⟩ := cm_ok o j _ h.1.1
      obtain ⟨r', h1', h2', h3'⟩ := cm_ok o j' _ h.1.2
      have hm : lastMarks [op, op'] [y, z] = false := behind_of h.2.2.2.2.2
      exact good_e (se_chain h1 h1' h2 h2' h3 (iha k _ h.2.1 E X o g).1 (ihb k _ h.2.2.1 E X o g).1 (ihd k _ h.2.2.2.1 E X o g).1 hm) rfl
    · rename_i x op op' y z pos
      simp only [Bool.and_eq_true, beq_iff_eq] at h
      obtain ⟨r, h1, h2, h3⟩ := cm_ok o j _ h.1.1
      obtain ⟨r', h1', h2', h3'⟩ := cm_ok o j' _ h.1.2
      have hm : lastMarks [op, op'] [y, z] = false := behind_of h.2.2.2.2.2
      exact good_t (st_chain h1 h1' h2 h2' h3 h3' (iha k _ h.2.1 E X o g).1 (ihb k _ h.2.2.1 E X o g).1 (ihd k _ h.2.2.2.1 E X o g).1 hm) (fun _ _ _ z => nomatch z)
    · cases h
  | ite t a b iht iha ihb =>
    intro k n h E X o g
    simp only [src] at h
    split at h
    · simp only [Bool.and_eq_true] at h
      exact good_e (se_ite (iht k _ h.1 E X o g).1 ((iha k _ h.2.1 E X o g).2.1 h.2.2.2.1) ((ihb k _ h.2.2.1 E X o g).2.1 h.2.2.2.2)) rfl
    · cases h
  | and a b iha ihb =>
    intro k n h E X o g
    simp only [src] at h
    split at h
    · simp only [Bool.and_eq_true] at h
      exact good_e (se_and ((iha k _ h.1 E X o g).2.1 h.2.2.1) ((ihb k _ h.2.1 E X o g).2.1 h.2.2.2)) rfl
    · simp only [Bool.and_eq_true] at h
      exact good_w (st_and (iha k _ h.1 E X o g).1 ((ihb k _ h.2 E X o g).2 _ _ _ rfl))
    · cases h
  | or a b iha ihb =>
    intro k n h E X o g
    simp only [src] at h
    split at h
    · simp only [Bool.and_eq_true] at h
      exact good_e (se_or ((iha k _ h.1 E X o g).2.1 h.2.2.1) ((ihb k _ h.2.1 E X o g).2.1 h.2.2.2)) rfl
    · simp only [Bool.and_eq_true] at h
      exact good_w (st_or (iha k _ h.1 E X o g).1 ((ihb k _ h.2 E X o g).2 _ _ _ rfl))
    · cases h
  | one a ih =>
    intro k n h E X o g
    simp only [src] at h
    split at h
    · simp only [Bool.and_eq_true] at h
      exact good_e (se_one ((ih k _ h.1 E X o g).2.1 h.2)) rfl
    · rename_i op x pos
      have := (ih k _ h E X o g).1
      cases op with
      | And => exact good_w (pw_and1 this)
      | Or => exact good_w (pw_or1 this)
    · cases h
  | not a ih =>
    intro k n h E X o g
    simp only [src] at h
    split at h
    · simp only [Bool.and_eq_true] at h
      exact good_e (se_not ((ih k _ h.1 E X o g).2.1 h.2)) rfl
    · exact good_t (st_not (ih k _ h E X o g).1) (fun _ _ _ z => nomatch z)
    · cases h
  | neg a ih =>
    intro k n h E X o g
    simp only [src] at h
    split at h
    · exact good_e (se_neg (ih k _ h E X o g).1) rfl
    · cases h
  | call i r ih =>
    intro k n h E X o g
    simp only [src] at h
    split at h
    · rename_i x xp es pos
      simp only [Bool.and_eq_true, List.any_eq_true] at h
      obtain ⟨h1, h2, ⟨⟨y, gv⟩, hm, hy, hi⟩, h4, h5, h6⟩ := h
      rw [beq_iff_eq] at hy
      subst hy
      cases gv with
      | fn j =>
        rw [beq_iff_eq] at hi
        subst hi
        obtain ⟨hj, hmg⟩ := o.G y _ hm
        obtain ⟨fd, ps, F, hk, hb⟩ := o.fns j hj
        refine good_e ?_ rfl
        cases es with
        | nil =>
          cases r with
          | nil => exact se_call0 o.gd F o.room (o.gl h1) hmg hk hb o.pass (okN_of h2).1
          | _ => simp at h6
        | cons e es =>
          unfold noStar at h5
          have hs := h5
          rw [List.all_cons, Bool.and_eq_true] at h5
          exact se_call o.gd F o.room (o.gl h1) hmg hk hb o.pass (ih k _ h4 E X o g) (okN_of h2).1 (star_cons h5.1) (plainS (es := es) h5.2)
      | _ => cases hi
    · cases h
  | callL i r ih =>
    intro k n h E X o g
    simp only [src] at h
    split at h
    · rename_i x xp e es pos
      simp only [Bool.and_eq_true] at h
      obtain ⟨h1, h2, h3⟩ := h
      obtain ⟨q1, q2, q3, q4⟩ := o.slot h1
      unfold noStar at h3
      rw [List.all_cons, Bool.and_eq_true] at h3
      exact good_e (se_callL o.gd o.fns o.room q1 q2 o.pass (ih k _ h2 E X o g) q3 q4 (star_cons h3.1) (plainS (es := es) h3.2)) rfl
    · cases h
  | u1 j a ih =>
    intro k n h E X o g
    simp only [src] at h
    split at h
    · simp only [Bool.and_eq_true, beq_iff_eq] at h
      obtain ⟨q1, q2⟩ := o.blt h.2.1
      exact good_e (u1_ok o (ih k _ h.2.2.1 E X o g).1 h.2.2.2 q1 q2 j h.1) rfl
    · cases h
  | u2 j a b iha ihb =>
    intro k n h E X o g
    simp only [src] at h
    split at h
    · simp only [Bool.and_eq_true, beq_iff_eq] at h
      obtain ⟨q1, q2⟩ := o.blt h.2.1
      exact good_e (u2_ok o (iha k _ h.2.2.1 E X o g).1 (ihb k _ h.2.2.2.1 E X o g).1 h.2.2.2.2.1 h.2.2.2.2.2 q1 q2 j h.1) rfl
    · cases h
  | isi j a ih =>
    intro k n h E X o g
    simp only [src] at h
    split at h
    · simp only [Bool.and_eq_true, beq_iff_eq] at h
      obtain ⟨rfl, h1, h2, h3, h4, h5⟩ := h
      obtain ⟨q1, q2⟩ := o.blt h1
      obtain ⟨q3, q4⟩ := o.blt h2
      split at h3
      · rename_i T hT
        rw [beq_iff_eq] at h3
        exact good_e (isi_ok o (ih k _ h4 E X o g).1 h5 q1 q2 q3 q4 h3 j hT) rfl
      · cases h3
    · cases h
  | ix a b iha ihb =>
    intro k n h E X o g
    simp only [src] at h
    split at h
    · simp only [Bool.and_eq_true] at h
      exact good_e (se_ix o.prog o.w o.K (iha k _ h.1 E X o g).1 (ihb k _ h.2.1 E X o g).1 (ix_of h.2.2)) rfl
    · cases h
  | cutL a b iha ihb =>
    intro k n h E X o g
    simp only [src] at h
    split at h
    · simp only [Bool.and_eq_true] at h
      exact good_e (se_cutL o.K (iha k _ h.1 E X o g).1 (ihb k _ h.2 E X o g).1) rfl
    · cases h
  | cutH a b iha ihb =>
    intro k n h E X o g
    simp only [src] at h
    split at h
    · simp only [Bool.and_eq_true] at h
      exact good_e (se_cutH o.K (iha k _ h.1 E X o g).1 (ihb k _ h.2 E X o g).1) rfl
    · cases h
  | cutB a b d iha ihb ihd =>
    intro k n h E X o g
    simp only [src] at h
    split at h
    · simp only [Bool.and_eq_true] at h
      exact good_e (se_cutB o.K (iha k _ h.1 E X o g).1 (ihb k _ h.2.1 E X o g).1 (ihd k _ h.2.2 E X o g).1) rfl
    · cases h
  | m1 j a b iha ihb =>
    intro k n h E X o g
    simp only [src] at h
    split at h
    · simp only [Bool.and_eq_true] at h
      obtain ⟨h1, h2, h3, h4, h5, h6⟩ := h
      rw [beq_iff_eq] at h1
      exact good_e (m1_ok o (iha k _ h2 E X o g).1 (ihb k _ h3 E X o g).1 h5 h4 h6 j h1) rfl
    · cases h
  | get a b iha ihb =>
    intro k n h E X o g
    simp only [src] at h
    split at h
    · simp only [Bool.and_eq_true] at h
      obtain ⟨h1, h2, h3, h4, h5, h6⟩ := h
      rw [beq_iff_eq] at h1
      subst h1
      exact good_e (sb_get o.prog o.w o.K (iha k _ h2 E X o g).1 (ihb k _ h3 E X o g).1 ⟨base_of h4, few_of h5, h6, tree_of h5⟩) rfl
    · cases h
  | get2 a b d iha ihb ihd =>
    intro k n h E X o g
    simp only [src] at h
    split at h
    · simp only [Bool.and_eq_true] at h
      obtain ⟨h1, h2, h3, h4, h5, h6, h7, h8, h9⟩ := h
      rw [beq_iff_eq] at h1
      subst h1
      exact good_e (sb_get2 o.prog o.w o.K (iha k _ h2 E X o g).1 (ihb k _ h3 E X o g).1 ((ihd k _ h4 E X o g).2.1 h5) ⟨base_of h6, few_of2 h7 h8, h9, tree_of2 h7 h8⟩) rfl
    · cases h
  | fmt a ih =>
    intro k n h E X o g
    simp only [src] at h
    split at h
    · simp only [Bool.and_eq_true] at h
      obtain ⟨h1, h2, h3⟩ := h
      rw [beq_iff_eq] at h1
      subst h1
      exact good_e (se_fmt ((ih k _ h2 E X o g).2.1 h3)) rfl
    · cases h
  | jnil =>
    intro k n h E X o g
    simp only [src] at h
    split at h
    · exact .nil
    · cases h
  | jcons a r iha ihr =>
    intro k n h E X o g
    simp only [src] at h
    split at h
    · simp only [Bool.and_eq_true] at h
      exact .cons ((iha k _ h.1 E X o g).2.1 h.2.1) (ihr k _ h.2.2 E X o g)
    · cases h
  | js r ih =>
    intro k n h E X o g
    simp only [src] at h
    split at h
    · exact good_e (se_js (ih k _ h E X o g)) rfl
    · cases h
  | lc t vs s tt e ihs iht ihe =>
    intro k n h E X o g
    simp only [src] at h
    split at h
    · rename_i x tg it ifs scope pos
      simp only [Bool.and_eq_true] at h
      obtain ⟨h1, h2, h3, h4, h5, h6, h7, h8⟩ := h
      obtain ⟨own, hb, rfl⟩ := blk_of o h1
      obtain ⟨hw, hi⟩ := ihs k _ h3 E X o g
      exact good_f (sf_lc o.calm o.nd hi hb (all_or h2) (fun s H C cl fp => tgt_ok (o.blk s H scope C cl fp) g t _ h5 _ hw) (fun s H C cl fp => iht _ _ h6 _ _ (o.blk s H scope C cl fp) g)
        (fun s H C cl fp => (ihe _ _ h7 _ _ (o.blk s H scope C cl fp) g).2.1 h8) (folded_of h4))
    · cases h
  | lc2 t0 t1 vs vs1 s0 tt0 s1 tt1 e ihs0 iht0 ihs1 iht1 ihe =>
    intro k n h E X o g
    simp only [src] at h
    split at h
    · rename_i x tg it ifs tg1 it1 ifs1 scope pos
      simp only [Bool.and_eq_true] at h
      obtain ⟨h1, h2, h3, h4, h5, h6, h7, h8, h9, h10, h11, h12, h13, h14⟩ := h
      obtain ⟨own, hb, rfl⟩ := blk_of o h1
      obtain ⟨hw, hi⟩ := ihs0 k _ h5 E X o g
      exact good_f (sf_lc2 o.calm o.nd hi hb (all_or h2) (all_or h3) (all_or h4) (fun s H C cl fp => tgt_ok (o.blk s H scope C cl fp) g t0 _ h7 _ hw) (fun s H C cl fp => iht0 _ _ h8 _ _ (o.blk s H scope C cl fp) g)
        (fun s H C cl fp => (ihs1 _ _ h9 _ _ (o.blk s H scope C cl fp) g).2) (fun s H C cl fp => tgt_ok (o.blk s H scope C cl fp) g t1 _ h11 _ (ihs1 _ _ h9 _ _ (o.blk s H scope C cl fp) g).1) (fun s H C cl fp => iht1 _ _ h12 _ _ (o.blk s H scope C cl fp) g)
        (fun s H C cl fp => (ihe _ _ h13 _ _ (o.blk s H scope C cl fp) g).2.1 h14) (folded_of h6) (fun env => folded_of h10))
    · cases h
  | dict a ih =>
    intro k n h E X o g
    simp only [src] at h
    split at h
    · simp only [Bool.and_eq_true, beq_iff_eq] at h
      obtain ⟨rfl, h1, h2, h3, h4⟩ := h
      obtain ⟨q1, q2⟩ := o.blt h1
      exact good_f (sf_dict o.K o.calm q1 q2 ((ih k _ h2 E X o g).2.1 h3) (star_cons h4) rfl)
    · cases h
  | dnew =>
    intro k n h E X o g
    simp only [src] at h
    split at h
    · exact good_f sf_dnew
    · cases h
  | tv a ih =>
    intro k n h E X o g
    simp only [src] at h
    split at h
    · rename_i x
      simp only [Bool.and_eq_true] at h
      refine good_t (st_truth o.K (ih k _ h.1 E X o g).1 (tt_of' h.2)) fun op vs p z => ?_
      subst z
      exact absurd h.2 (by simp [valTest])
    · cases h
  | t1 a ih =>
    intro k n h E X o g
    simp only [src] at h
    split at h
    · exact pts_one (ih k _ h E X o g).1
    · cases h
  | seq a ih =>
    intro k n h E X o g
    simp only [src] at h
    split at h
    · simp only [Bool.and_eq_true] at h
      exact ⟨(fun z => nomatch z), si_seq o.K ((ih k _ h.1 E X o g).2.1 h.2)⟩
    · cases h
  | rng j r ih =>
    intro k n h E X o g
    simp only [src] at h
    split at h
    · rename_i tg x xp es pos
      simp only [Bool.and_eq_true, beq_iff_eq] at h
      obtain ⟨rfl, h1, h2, h3, h4, h5⟩ := h
      obtain ⟨q1, q2⟩ := o.blt h1
      refine ⟨(fun z => nomatch z), ?_⟩
      unfold noStar at h3
      have ia := ih k _ h2 E X o g
      match es, h4 with
      | [], h4 => subst h4; simp at h5
      | [a], h4 =>
        subst h4
        simp only [List.all_cons, List.all_nil, Bool.and_true] at h3
        exact si_rng1 q1 q2 ia (by rw [star_cons h3]; rfl)
      | [a, b], h4 =>
        subst h4
        simp only [List.all_cons, List.all_nil, Bool.and_true, Bool.and_eq_true] at h3
        exact si_rng2 q1 q2 ia (by rw [star_cons h3.1, star_cons h3.2]; rfl) (by rw [star_cons h3.2]; rfl)
      | a :: b :: d :: r, h4 => subst h4; simp at h5
    · cases h
  | zip r ih =>
    intro k n h E X o g
    simp only [src] at h
    split at h
    · rename_i tg x xp es pos
      simp only [Bool.and_eq_true, beq_iff_eq] at h
      obtain ⟨rfl, h1, h2, h3, h4, h5⟩ := h
      obtain ⟨q1, q2⟩ := o.blt h1
      obtain ⟨ts, kk, tpos, rfl⟩ := tup_shape h5
      unfold noStar at h3
      have ia := ih k _ h2 E X o g
      refine ⟨fun _ => rfl, ?_⟩
      match es, h4 with
      | [a, b], h4 =>
        simp only [List.all_cons, List.all_nil, Bool.and_true, Bool.and_eq_true] at h3
        exact si_zip o.K q1 q2 ia (by rw [star_cons h3.1]) (plainS (es := [b]) (by simp [noStar, h3.2]))
    · cases h
  | walk m a ih =>
    intro k n h E X o g
    simp only [src] at h
    split at h
    · simp only [Bool.and_eq_true] at h
      obtain ⟨h1, h2, h3, h4, h5⟩ := h
      rw [beq_iff_eq] at h1
      subst h1
      exact ⟨(fun z => nomatch z), si_vals ((ih k _ h2 E X o g).2.1 h3) (base_of h4) h5⟩
    · simp only [Bool.and_eq_true] at h
      obtain ⟨h1, h2, h3, h4, h5, h6⟩ := h
      rw [beq_iff_eq] at h1
      subst h1
      obtain ⟨ts, kk, tpos, rfl⟩ := tup_shape h2
      exact ⟨fun _ => rfl, si_items ((ih k _ h3 E X o g).2.1 h4) (base_of h5) h6⟩
    · simp only [Bool.and_eq_true] at h
      exact ⟨(fun z => nomatch z), si_keys ((ih k _ h.1 E X o g).2.1 h.2)⟩
    · cases h
end
end Tg
end
section
set_option Elab.async false
set_option linter.all false
set_option autoImplicit false
set_option maxRecDepth 100000
/-! statements: the code, its meaning, its look -/
namespace Tg
open PySem PySem.Spec PyProof.Rows L2
inductive CS where
  | skip | seq (s r : CS) | frz (i : Nat)
  | expr (e : CE) | ret (e : CE) | retN | iff (t : CE) (a b : CS)
  | asg (t : Tgt) (e : CE) | own (i : Nat) (e : CE) | setLc (own : Bool) (i : Nat) (e : CE)
  | app (i : Nat) (r : CE) | put (i : Nat) (v k : CE) | aug (i o : Nat) (e : CE)
  | par2 (i j : Nat) (fl : List Bool) (r : CE) | par3 (i j l : Nat) (fl : List Bool) (r : CE)
  | whl (n : Nat) (t : CE) (b : CS) | for (t : Tgt) (s : CE) (b : CS)
  | brk | cnt | raise (c : Nat) (e : CE)
def augF : Nat → PV → PV → Option PV
  | 0, .int i, .int j => some (.int (i + j))
  | 0, .str s, .str t => isz (s.length + t.length) (.str (s ++ t))
  | 1, .int i, .int j => some (.int (i - j))
  | _, _, _ => none
def evO (P : Px) : CE → List Bool → DenO
  | .nil, _ => oNil
  | .cons a r, fl => oCons (fl.headD false) (ev P a) (evO P r fl.tail)
  | _, _ => fun _ _ => .bad
def evS (P : Px) : CS → DenS
  | .skip => dSkip
  | .seq s r => dSeqS (evS P s) (evS P r)
  | .frz i => dFrz i
  | .expr e => dExpr (ev P e)
  | .ret e => dRet (ev P e)
  | .retN => dRetN
  | .iff t a b => dIfS (ev P t) (evS P a) (evS P b)
  | .asg t e => dAsg t (ev P e)
  | .own i e => dOwn i (ev P e)
  | .setLc own i e => if own = true then dOwn i (ev P e) else dAsg (.name i) (ev P e)
  | .app i r => dApp i (ev P r)
  | .put i v k => dPut i (ev P v) (ev P k)
  | .aug i o e => dAug i (augF o) (ev P e)
  | .par2 i j fl r => dPar2 i j (evO P r fl)
  | .par3 i j l fl r => dPar3 i j l (evO P r fl)
  | .whl n t b => dWh (ev P t) (evS P b) n
  | .for t s b => dFor t (ev P s) (evS P b)
  | .brk => dBrk
  | .cnt => dCnt
  | .raise c e => dRaise c (ev P e)
def srcO (G : List (Str × GV)) : CE → List Bool → Kx → List Expr → Bool
  | .nil, _, _, [] => true
  | .cons a r, fl, k, e :: es => src G a k (.e e) && ((if fl.headD false = true then fresh a else strong a) && (notStar e && srcO G r fl.tail k es))
  | _, _, _, _ => false
inductive NS where
  | s (x : Stmt) | l (x : List Stmt)
def noComp : Expr → Bool
  | .ListComp .. => false
  | .SetComp .. => false
  | .DictComp .. => false
  | _ => true
/-! ### the order of the stores -/
def isTupE : Expr → Bool
  | .Tuple .. => true
  | _ => false
def isRow : Expr → Bool
  | .Tuple .. => true
  | .List .. => true
  | _ => false
/-- stored in the written order -/
def inOrder (t v : Expr) : Bool := match t, v with
  | .Tuple ts _ _, .Tuple vs _ _ => !(ts.length == 2 || ts.length == 3) || vs.length != ts.length
  | _, .Tuple .. => !isRow t
  | _, _ => true
theorem inOrder_of {env : PySem.Env} {t v : Expr} (h : inOrder t v = true) : swappedStores [t] v env = pure none := by
  unfold inOrder at h
  split at h
  · rename_i ts k p vs k2 p2
    unfold swappedStores
    have : (!(ts.length == 2 || ts.length == 3) || vs.length != ts.length || env.blockKind != .function) = true := by rw [h]; rfl
    simp only [this, if_true]
  · rename_i vs k p _
    unfold swappedStores
    cases t <;> first | rfl | (simp [isRow] at h)
  · rename_i h1 h2
    unfold swappedStores
    cases v with
    | Tuple vs k p => first | exact (h1 vs k p rfl).elim | exact (h2 vs k p rfl).elim
    | _ => cases t <;> rfl
/-- swapped: two names -/
def swap2 (sc : Scope) (x y : Str) (px py : Pos) (a c : Expr) : Bool :=
  decide (sc.names.lookup x = some .local) && (decide (sc.names.lookup y = some .local) && (py.line == px.line && (!(y == x) && (notStar a && (notStar c && (!(foldedForSure 8 a && foldedForSure 8 c) && !(constantsAlone 8 a && constantsAlone 8 c)))))))
theorem swap2_of {env : PySem.Env} {sc : Scope} {x y : Str} {px py pt pt2 : Pos} {kt k2 : Nat} {a c : Expr} (hk : env.blockKind = .function) (hs : env.scope = sc) (h : swap2 sc x y px py a c = true) :
    swappedStores [.Tuple [.Name x px, .Name y py] kt pt] (.Tuple [a, c] k2 pt2) env = pure (some [x, y]) := by
  subst hs
  unfold swap2 at h
  simp only [Bool.and_eq_true, decide_eq_true_eq, Bool.not_eq_true', beq_iff_eq] at h
  obtain ⟨h1, h2, h3, h4, h5, h6, h7, h8⟩ := h
  unfold swappedStores
  have e1 : (env.kindOf x == some .local) = true := by show (env.scope.names.lookup x == _) = true; rw [h1]; rfl
  have e2 : (env.kindOf y == some .local) = true := by show (env.scope.names.lookup y == _) = true; rw [h2]; rfl
  have hn : (y == x) = false := h4
  have hl2 : (py.line == px.line) = true := by simpa using h3
  have e1' : env.kindOf x = some .local := h1
  have e2' : env.kindOf y = some .local := h2
  have hpl : py.line = px.line := by simpa using h3
  have hxy : ¬ y = x := by simpa using h4
  have hf : ([a, c].all (foldedForSure 8)) = false := by simpa using h7
  have hc : ([a, c].all (constantsAlone 8)) = false := by simpa using h8
  dsimp only
  refine (if_neg (by rw [hk]; exact Bool.false_ne_true)).trans ?_
  refine (if_neg ?_).trans ?_
  · intro h
    rw [List.any_eq_true] at h
    obtain ⟨z, hz, h⟩ := h
    have hz' : notStar z = true := by
      simp only [List.mem_cons, List.not_mem_nil, or_false] at hz
      rcases hz with rfl | rfl
      · exact h5
      · exact h6
    cases z <;> first | (simp at h; done) | cases hz'
  have hnm : ∀ f : Expr → Option Str, f (.Name x px) = some x → f (.Name y py) = some y → List.filterMap f [.Name x px, .Name y py] = [x, y] := fun f q1 q2 => by
    simp [List.filterMap_cons, q1, q2]
  have hlen : ([x, y].length != [Expr.Name x px, Expr.Name y py].length || [x, y].eraseDups.length != [x, y].length) = false := by
    simp [List.eraseDups, List.eraseDupsBy, List.eraseDupsBy.loop, hn]
  have hp0 : (Expr.Name x px).pos.line = px.line := rfl
  rw [hnm _ (by simp [e1', hp0]) (by simp [e2', hpl, hp0])]
  refine (if_neg (by rw [hlen]; exact Bool.false_ne_true)).trans ?_
  refine (if_neg (by rw [hf]; exact Bool.false_ne_true)).trans ?_
  refine (if_neg (by rw [hc]; exact Bool.false_ne_true)).trans ?_
  rfl
/-- swapped: three names -/
def swap3 (sc : Scope) (x y z : Str) (px py pz : Pos) (a c d : Expr) : Bool :=
  decide (sc.names.lookup x = some .local) && (decide (sc.names.lookup y = some .local) && (decide (sc.names.lookup z = some .local) && (py.line == px.line && (pz.line == px.line && ([x, y, z].eraseDups.length == 3 && (notStar a && (notStar c && (notStar d &&
    (!([a, c, d].all (foldedForSure 8)) && !([a, c, d].all (constantsAlone 8)))))))))))
theorem swap3_of {env : PySem.Env} {sc : Scope} {x y z : Str} {px py pz pt pt2 : Pos} {kt k2 : Nat} {a c d : Expr} (hk : env.blockKind = .function) (hs : env.scope = sc) (h : swap3 sc x y z px py pz a c d = true) :
    swappedStores [.Tuple [.Name x px, .Name y py, .Name z pz] kt pt] (.Tuple [a, c, d] k2 pt2) env = pure (some [x, y, z]) := by
  subst hs
  unfold swap3 at h
  simp only [Bool.and_eq_true, decide_eq_true_eq, Bool.not_eq_true', beq_iff_eq] at h
  obtain ⟨h1, h2, h3, h4, h5, hn, s1, s2, s3, hf, hc⟩ := h
  unfold swappedStores
  have e1 : env.kindOf x = some .local := h1
  have e2 : env.kindOf y = some .local := h2
  have e3 : env.kindOf z = some .local := h3
  dsimp only
  refine (if_neg (by rw [hk]; exact Bool.false_ne_true)).trans ?_
  refine (if_neg ?_).trans ?_
  · intro h
    rw [List.any_eq_true] at h
    obtain ⟨u, hz, h⟩ := h
    have hz' : notStar u = true := by
      simp only [List.mem_cons, List.not_mem_nil, or_false] at hz
      rcases hz with rfl | rfl | rfl
      · exact s1
      · exact s2
      · exact s3
    cases u <;> first | (simp at h; done) | cases hz'
  have hnm : ∀ f : Expr → Option Str, f (.Name x px) = some x → f (.Name y py) = some y → f (.Name z pz) = some z → List.filterMap f [.Name x px, .Name y py, .Name z pz] = [x, y, z] := fun f q1 q2 q3 => by
    simp [List.filterMap_cons, q1, q2, q3]
  have hlen : ([x, y, z].length != [Expr.Name x px, Expr.Name y py, Expr.Name z pz].length || [x, y, z].eraseDups.length != [x, y, z].length) = false := by
    rw [hn]; rfl
  have hp0 : (Expr.Name x px).pos.line = px.line := rfl
  rw [hnm _ (by simp [e1, hp0]) (by simp [e2, h4, hp0]) (by simp [e3, h5, hp0])]
  refine (if_neg (by rw [hlen]; exact Bool.false_ne_true)).trans ?_
  refine (if_neg (by rw [hf]; exact Bool.false_ne_true)).trans ?_
  refine (if_neg (by rw [hc]; exact Bool.false_ne_true)).trans ?_
  rfl
theorem noSwapS {e t : Expr} {l : Nat} {env : PySem.Env} (h : noComp e = true) : swapsWithSole [t] e l env = pure false := by
  cases e <;> first | rfl | cases h
theorem noSwap {e : Expr} {t : Option Expr} {l : Nat} {env : PySem.Env} (h : noComp e = true) : swapsWith e t l env = pure false := by
  cases e <;> first | rfl | cases h
end Tg
end
section
set_option Elab.async false
set_option linter.all false
set_option autoImplicit false
set_option maxRecDepth 100000
/-! statements: the look is enough -/
namespace Tg
open PySem PySem.Spec PyProof.Rows L2
/-- a name that is stored -/
def setIs (k : Kx) (i : Nat) (x : Str) : Bool := tgtIs k (.name i) (.e (.Name x default))
def isFrz : CS → Option Nat
  | .frz i => some i
  | _ => none
def srcS (G : List (Str × GV)) (R : List (Str × Nat)) : CS → Kx → NS → Bool
  | .skip, _, n => match n with
    | .l [] => true
    | .s (.Pass _) => true
    | .s (.Expr (.Constant (.str _) _ _) _) => true
    | _ => false
  | .seq s r, k, n => match n with
    | .l l => (match isFrz s with
      | some _ => srcS G R r k (.l l)
      | none => (match l with
        | st :: rest => srcS G R s k (.s st) && srcS G R r k (.l rest)
        | [] => false))
    | _ => false
  | .frz _, _, _ => false
  | .expr e, k, n => match n with
    | .s (.Expr x _) => src G e k (.e x) && noComp x
    | _ => false
  | .ret e, k, n => match n with
    | .s (.Return (some x) _) => src G e k (.e x) && strong e
    | _ => false
  | .retN, _, n => match n with
    | .s (.Return none _) => true
    | _ => false
  | .iff t a b, k, n => match n with
    | .s (.If x l1 l2 _) => src G t k (.t x) && (srcS G R a k (.l l1) && srcS G R b k (.l l2))
    | _ => false
  | .asg t e, k, n => match n with
    | .s (.Assign [tg] x _) => src G e k (.e x) && (strong e && (tgtIs k t (.e tg) && (noComp x && (inOrder tg x && notStar tg))))
    | _ => false
  | .own i e, k, n => match n with
    | .s (.Assign [.Name x _] y _) => src G e k (.e y) && (fresh e && (setIs k i x && noComp y))
    | _ => false
  | .setLc _ i e, k, n => match n with
    | .s (.Assign [.Name y py] (.ListComp x gs scope pos) sp) => src G e k (.e (.ListComp x gs scope pos)) && (decide (k.N[i]? = some y) && (decide (k.sc.names.lookup y = some .local) && (py.line == pos.line && (!(scope.names.any fun (n, kd) => n == y && (kd == .local || kd == .cell))
        && (match e, gs with
          | .lc .., [_] => true
          | _, _ => false)))))
    | _ => false
  | .app i r, k, n => match n with
    | .s (.Expr (.Call (.Attribute (.Name x _) m ap) [e] [] cp) _) => (m == ("append" : Str)) && (slotIs k i x && (src G r k (.a [e]) && (notStar e && ap.endLine == cp.line)))
    | _ => false
  | .put i v kk, k, n => match n with
    | .s (.Assign [.Subscript (.Name x _) y _] e _) => slotIs k i x && (src G v k (.e e) && (strong v && (src G kk k (.e y) && (strong kk && (plainIx y && (noComp e))))))
    | _ => false
  | .aug i o e, k, n => match n with
    | .s (.AugAssign (.Name x _) op y _) => setIs k i x && (src G e k (.e y) && (strong e && ((o == 0 && op == .Add) || (o == 1 && op == .Sub))))
    | _ => false
  | .par2 i j fl r, k, n => match n with
    | .s (.Assign [.Tuple [.Name x px, .Name y py] _ _] (.Tuple [a, c] _ _) _) => decide (k.N[i]? = some x) && (decide (k.N[j]? = some y) && (decide (i ≠ j) && (swap2 k.sc x y px py a c && srcO G r fl k [a, c])))
    | _ => false
  | .par3 i j l fl r, k, n => match n with
    | .s (.Assign [.Tuple [.Name x px, .Name y py, .Name z pz] _ _] (.Tuple [a, c, d] _ _) _) => decide (k.N[i]? = some x) && (decide (k.N[j]? = some y) && (decide (k.N[l]? = some z) && (decide (i ≠ j) && (decide (i ≠ l) && (decide (j ≠ l) && (swap3 k.sc x y z px py pz a c d && srcO G r fl k [a, c, d]))))))
    | _ => false
  | .whl _ t b, k, n => match n with
    | .s (.While x l [] _) => src G t k (.t x) && srcS G R b k (.l l)
    | _ => false
  | .for t s b, k, n => match n with
    | .s (.For tg it l [] _) => src G s k (.i tg it) && (notSet it && (tgtIs k t (.e tg) && srcS G R b k (.l l)))
    | _ => false
  | .brk, _, n => match n with
    | .s (.Break _) => true
    | _ => false
  | .cnt, _, n => match n with
    | .s (.Continue _) => true
    | _ => false
  | .raise c e, k, n => match n with
    | .s (.Raise (some (.Call (.Name x _) [y] [] _)) none _) => glo k.sc x && (okName x && ((R.any fun p => p.1 == x && p.2 == c) && (src G e k (.e y) && (strong e && notStar y))))
    | _ => false
/-- .. and a def's body may raise -/
structure XOkS (W : Wd) (P : Px) (kn : Nat) (k : Kx) (E : XK) (X : Cx) : Prop extends XOk W P kn k E X where
  own : PassesOwn (model X.prog X.w) X.A X.env X.xe
  tk : Takes X fun cls d _ H => E cls d H
  kind : X.env.scope.kind = .function
  rz : ∀ x c, (x, c) ∈ P.R → ∀ (p pos : Pos) (e : Expr) (te : TE), Gl X x → (x == ("__debug__" : Str)) = false → notStar e = true → PE X e te → PMk X (.Call (.Name x p) [e] [] pos) fun σ H Q => te σ H fun v H1 => ∀ d, H1 d = none → Q (.ref (W.ca c)) (some d) (upd H1 d (.xd [("value", v)]))
section
variable {W : Wd} {P : Px} {kn : Nat} {k : Kx} {E : XK} {X : Cx} {g : Gh}
theorem XOkS.blockKind (o : XOkS W P kn k E X) : X.env.blockKind = .function := by
  unfold PySem.Env.blockKind
  rw [o.kind]
  rfl
theorem XOk.set (o : XOk W P kn k E X) {i : Nat} {x : Str} (h : setIs k i x = true) : X.N[i]? = some x ∧ L2.Loc X.env.scope x ∧ (X.fn x = true ∨ X.env.scope.names.lookup x = some .local) := by
  unfold setIs at h
  simp only [tgtIs, Bool.and_eq_true, Bool.or_eq_true, decide_eq_true_eq] at h
  obtain ⟨hi, hl, hf⟩ := h
  refine ⟨by rw [o.N]; exact hi, ?_, ?_⟩
  · rw [o.sc]
    unfold L2.Loc
    split at hl
    · rename_i q; exact .inl q
    · rename_i q; exact .inr q
    · cases hl
  · rw [o.sc]
    rcases hf with hf | hf
    · exact .inr hf
    · left
      have := o.fc x
      cases hk : k.fc with
      | none => rw [hk] at this; exact this
      | some s =>
        rw [hk] at this hf
        rw [this]
        exact hf
/-- raise C(e) -/
theorem ss_raise {x : Str} {c : Nat} {y : Expr} {d : Den} {p pos pos' : Pos} (o : XOkS W P kn k E X) (hr : (x, c) ∈ P.R) (hg : Gl X x) (hd : (x == ("__debug__" : Str)) = false) (hs : notStar y = true) (he : PE X y (tEv W g E d)) :
    PS X (.Raise (some (.Call (.Name x p) [y] [] pos)) none pos') (tS W g E (dRaise c d)) := by
  refine psI (L2.ps_raise o.calm o.tk (o.rz x c hr p pos y _ hg hd hs he)) ?_
  intro D σ H h
  refine (exS h).imp fun v S1 H1 b1 s1 ⟨ρ, O, e1, f⟩ x rx dd hdd => ?_
  have e2 := e1.adv (.new (o := .xd [("value", x)]) s1 hdd)
  exact f x dd _ _ e2.gh (e2.low (rx.grow (same_upd hdd))) upd_same
theorem aug_add : Op2 W (RW W) (RW W) (augF 0) (fun x y H Q => rI0 (fun i j => .int (i + j)) x y H Q ∨ (∃ i j, x = .str i ∧ y = .str j ∧ i.length + j.length ≤ sizeLine ∧ Q (.str (i ++ j)) H)) := by
  intro v u w x y H b Q hf rv ru hw kk
  unfold augF at hw
  split at hw
  · cases rw_int rv; cases rw_int ru; cases hw
    exact .inl ⟨_, _, rfl, rfl, kk _ H (fun _ _ e => e) (.int _)⟩
  · cases rw_str rv; cases rw_str ru
    obtain ⟨h1, rfl⟩ := isz_some hw
    refine .inr ⟨_, _, rfl, rfl, by simpa [lenL] using h1, ?_⟩
    rw [sL]
    exact kk _ H (fun _ _ e => e) (.str _)
  · exact absurd (by assumption : (0 : Nat) = 1) (by decide)
  · cases hw
theorem aug_sub : Op2 W (RW W) (RW W) (augF 1) (rI0 fun i j => .int (i - j)) := by
  intro v u w x y H b Q hf rv ru hw kk
  unfold augF at hw
  split at hw
  · exact absurd (by assumption : (1 : Nat) = 0) (by decide)
  · exact absurd (by assumption : (1 : Nat) = 0) (by decide)
  · cases rw_int rv; cases rw_int ru; cases hw
    exact ⟨_, _, rfl, rfl, kk _ H (fun _ _ e => e) (.int _)⟩
  · cases hw
theorem sndO (o : XOk W P kn k E X) : ∀ (c : CE) (fl : List Bool) (es : List Expr), srcO P.G c fl k es = true → PA X es (tO W g E (evO P c fl)) := by
  intro c
  induction c with
  | nil =>
    intro fl es h
    cases es with
    | nil => exact so_nil
    | cons _ _ => cases h
  | cons a r iha ihr =>
    intro fl es h
    cases es with
    | nil => cases h
    | cons e es =>
      simp only [srcO, Bool.and_eq_true] at h
      have ga := snd a k _ h.1 E X o g
      have gr := ihr fl.tail es h.2.2.2
      simp only [evO]
      cases hf : fl.headD false with
      | true =>
        rw [hf] at h
        exact so_own (ga.2.2 (by simpa using h.2.1)) gr (star_cons h.2.2.1)
      | false =>
        rw [hf] at h
        exact so_val (ga.2.1 (by simpa using h.2.1)) gr (star_cons h.2.2.1)
  | _ => intro fl es h; cases es <;> cases h
/-- what the code promises of a statement, a block -/
def GoodS (W : Wd) (P : Px) (X : Cx) (E : XK) (c : CS) : NS → Prop
  | .s x => ∀ g, PS X x (tS W g E (evS P c))
  | .l l => ∀ g, PSs X l (tS W g E (evS P c))
theorem sndS (o : XOkS W P kn k E X) : ∀ (c : CS) (n : NS), srcS P.G P.R c k n = true → GoodS W P X E c n := by
  intro c
  induction c with
  | skip =>
    intro n h
    simp only [srcS] at h
    split at h
    · exact fun g => ss_skip
    · exact fun g => ss_pass
    · exact fun g => ss_doc
    · cases h
  | seq s r ihs ihr =>
    intro n h
    simp only [srcS] at h
    split at h
    · rename_i l
      split at h
      · rename_i i q
        have hs : s = .frz i := by
          cases s <;> simp [isFrz] at q
          rw [q]
        subst hs
        exact fun g => ss_frz (ihr _ h g)
      · split at h
        · rename_i st rest
          rw [Bool.and_eq_true] at h
          exact fun g => ss_seq (ihs _ h.1 g) (ihr _ h.2 g)
        · cases h
    · cases h
  | frz i =>
    intro n h
    cases h
  | expr e =>
    intro n h
    simp only [srcS] at h
    split at h
    · rw [Bool.and_eq_true] at h
      exact fun g => ss_expr (snd e k _ h.1 E X o.toXOk g).1 (noSwap h.2)
    · cases h
  | ret e =>
    intro n h
    simp only [srcS] at h
    split at h
    · rw [Bool.and_eq_true] at h
      exact fun g => ss_ret ((snd e k _ h.1 E X o.toXOk g).2.1 h.2)
    · cases h
  | retN =>
    intro n h
    simp only [srcS] at h
    split at h
    · exact fun g => ss_retN
    · cases h
  | iff t a b iha ihb =>
    intro n h
    simp only [srcS] at h
    split at h
    · simp only [Bool.and_eq_true] at h
      exact fun g => ss_if (snd t k _ h.1 E X o.toXOk g).1 (iha _ h.2.1 g) (ihb _ h.2.2 g)
    · cases h
  | asg t e =>
    intro n h
    simp only [srcS] at h
    split at h
    · rename_i tg x pos
      simp only [Bool.and_eq_true] at h
      obtain ⟨h1, h2, h3, h4, h5, h6⟩ := h
      exact fun g => ss_asg ((snd e k _ h1 E X o.toXOk g).2.1 h2) (tgt_ok o.toXOk g t _ h3 false (fun z => nomatch z)) (noSwapS h4) (inOrder_of h5) (by rw [asg_cons h6]; rfl)
    · cases h
  | own i e =>
    intro n h
    simp only [srcS] at h
    split at h
    · rename_i x p y pos
      simp only [Bool.and_eq_true] at h
      obtain ⟨h1, h2, h3, h4⟩ := h
      obtain ⟨q1, q2, q3⟩ := o.toXOk.set h3
      exact fun g => ss_own o.nd q1 q2 ((snd e k _ h1 E X o.toXOk g).2.2 h2) (noSwap h4) q3
    · cases h
  | setLc own i e =>
    intro n h
    simp only [srcS] at h
    split at h
    · rename_i y py x gs scope pos sp
      simp only [Bool.and_eq_true, decide_eq_true_eq, Bool.not_eq_true'] at h
      obtain ⟨h1, h2, h3, h4, h5, h6⟩ := h
      split at h6
      · rename_i t vs s tt e' gen
        simp only [src] at h1
        split at h1
        · rename_i x' tg it ifs sc' pos' heq
          cases heq
          simp only [Bool.and_eq_true] at h1
          obtain ⟨a1, a2, a3, a4, a5, a6, a7, a8⟩ := h1
          obtain ⟨own', hb, hw⟩ := blk_of o.toXOk a1
          subst hw
          intro g
          obtain ⟨hp, hi⟩ := snd s k _ a3 E X o.toXOk g
          exact ss_setLc o.calm o.nd (by rw [o.N]; exact h2) (by rw [o.sc]; exact h3) (sw_true o.kind (by rw [o.sc]; exact h3) h4 h5) hi hb (all_or a2) (fun s H C cl fp => tgt_ok (o.toXOk.blk s H scope C cl fp) g t _ a5 _ hp)
            (fun s H C cl fp => snd tt _ _ a6 _ _ (o.toXOk.blk s H scope C cl fp) g) (fun s H C cl fp => (snd e' _ _ a7 _ _ (o.toXOk.blk s H scope C cl fp) g).2.1 a8) (folded_of a4)
        · cases h1
      · cases h6
    · cases h
  | app i r =>
    intro n h
    simp only [srcS] at h
    split at h
    · rename_i x p0 m ap e cp pos
      simp only [Bool.and_eq_true] at h
      obtain ⟨h1, h2, h3, h4, h5⟩ := h
      rw [beq_iff_eq] at h1
      subst h1
      obtain ⟨q1, q2, q3, q4⟩ := o.toXOk.slot h2
      exact fun g => ss_app o.K q1 q2 q3 q4 (snd r k _ h3 E X o.toXOk g) (base_of rfl) h5 (few_of h4) (star_cons h4) rfl (noSwap rfl)
    · cases h
  | put i v kk =>
    intro n h
    simp only [srcS] at h
    split at h
    · rename_i x p0 y tp e pos
      simp only [Bool.and_eq_true] at h
      obtain ⟨h1, h2, h3, h4, h5, h6, h7⟩ := h
      obtain ⟨q1, q2, q3, q4⟩ := o.toXOk.slot h1
      exact fun g => ss_put (by have := o.un; omega) q1 q2 q3 q4 ((snd v k _ h2 E X o.toXOk g).2.1 h3) ((snd kk k _ h4 E X o.toXOk g).2.1 h5) (by intro v; cases y <;> first | rfl | cases h6) (noSwapS h7) (inOrder_of (by unfold inOrder; cases e <;> rfl)) rfl
    · cases h
  | aug i j e =>
    intro n h
    simp only [srcS] at h
    split at h
    · rename_i x p0 op y pos
      simp only [Bool.and_eq_true, Bool.or_eq_true, beq_iff_eq] at h
      obtain ⟨h1, h2, h3, h4⟩ := h
      obtain ⟨q1, q2, q3⟩ := o.toXOk.set h1
      intro g
      have he := (snd e k _ h2 E X o.toXOk g).2.1 h3
      rcases h4 with ⟨rfl, rfl⟩ | ⟨rfl, rfl⟩
      · exact ss_aug o.nd q1 q2 he (r := fun x y H Q => rI0 (fun i j => .int (i + j)) x y H Q ∨ (∃ i j, x = .str i ∧ y = .str j ∧ i.length + j.length ≤ sizeLine ∧ Q (.str (i ++ j)) H)) (OpR.or iop_add iop_add_str) aug_add q3
      · exact ss_aug o.nd q1 q2 he (r := rI0 fun i j => .int (i - j)) iop_sub aug_sub q3
    · cases h
  | par2 i j fl r =>
    intro n h
    simp only [srcS] at h
    split at h
    · rename_i x px y py kt pt a c k2 pt2 pos
      simp only [Bool.and_eq_true, decide_eq_true_eq] at h
      obtain ⟨h1, h2, h3, h4, h5⟩ := h
      have hx : k.sc.names.lookup x = some .local := by
        unfold swap2 at h4
        simp only [Bool.and_eq_true, decide_eq_true_eq] at h4
        exact h4.1
      have hy : k.sc.names.lookup y = some .local := by
        unfold swap2 at h4
        simp only [Bool.and_eq_true, decide_eq_true_eq] at h4
        exact h4.2.1
      exact fun g => ss_par2 o.calm o.nd (by rw [o.N]; exact h1) (by rw [o.N]; exact h2) h3 (by rw [o.sc]; exact hx) (by rw [o.sc]; exact hy) (sndO o.toXOk r fl _ h5) (swap2_of o.blockKind o.sc h4) (noSwapS rfl)
    · cases h
  | par3 i j l fl r =>
    intro n h
    simp only [srcS] at h
    split at h
    · rename_i x px y py z pz kt pt a c d k2 pt2 pos
      simp only [Bool.and_eq_true, decide_eq_true_eq] at h
      obtain ⟨h1, h2, h3, h4, h5, h6, h7, h8⟩ := h
      have hh := h7
      unfold swap3 at hh
      simp only [Bool.and_eq_true, decide_eq_true_eq] at hh
      exact fun g => ss_par3 o.calm o.nd (by rw [o.N]; exact h1) (by rw [o.N]; exact h2) (by rw [o.N]; exact h3) h4 h5 h6 (by rw [o.sc]; exact hh.1) (by rw [o.sc]; exact hh.2.1) (by rw [o.sc]; exact hh.2.2.1) (sndO o.toXOk r fl _ h8) (swap3_of o.blockKind o.sc h7) (noSwapS rfl)
    · cases h
  | whl n t b ihb =>
    intro m h
    simp only [srcS] at h
    split at h
    · rw [Bool.and_eq_true] at h
      exact fun g => ss_while n o.own (snd t k _ h.1 E X o.toXOk g).1 (ihb _ h.2 g)
    · cases h
  | «for» t s b ihb =>
    intro n h
    simp only [srcS] at h
    split at h
    · simp only [Bool.and_eq_true] at h
      obtain ⟨h1, h2, h3, h4⟩ := h
      intro g
      obtain ⟨hp, hi⟩ := snd s k _ h1 E X o.toXOk g
      exact ss_for o.own o.calm hi (fun g => tgt_ok o.toXOk g t _ h3 _ hp) (ihb _ h4) (folded_of h2)
    · cases h
  | brk =>
    intro n h
    simp only [srcS] at h
    split at h
    · exact fun g => ss_brk
    · cases h
  | cnt =>
    intro n h
    simp only [srcS] at h
    split at h
    · exact fun g => ss_cnt
    · cases h
  | raise c e =>
    intro n h
    simp only [srcS] at h
    split at h
    · simp only [Bool.and_eq_true, List.any_eq_true] at h
      obtain ⟨h1, h2, ⟨⟨y, c'⟩, hm, hy, hc⟩, h4, h5, h6⟩ := h
      rw [beq_iff_eq] at hy hc
      subst hy hc
      exact fun g => ss_raise o hm (o.toXOk.gl h1) (okN_of h2).1 h6 ((snd e k _ h4 E X o.toXOk g).2.1 h5)
    · cases h
end
end Tg
end
section
set_option Elab.async false
set_option linter.all false
set_option autoImplicit false
set_option maxRecDepth 100000
/-! defs -/
namespace Tg
open PySem PySem.Spec PyProof.Rows L2
/-- a def's code: its parameters, its slots, its body -/
structure FD where
  np : Nat
  nl : Nat
  body : CS
/-- a def by its code, or by a meaning that is proved apart -/
inductive FE where
  | code (fd : FD) | ext (f : CallT → List PV → Store → Rs PV)
def startE (ps : List PV) (nl : Nat) : Env := ps.map .val ++ List.replicate (nl - ps.length) .no
def outF : Rs Fl → Rs PV
  | .ok (.rt v) S => .ok v S
  | .ok (.nx _) S => .ok .non S
  | .ok _ _ => .bad
  | .exc c v S => .exc c v S
  | .bad => .bad
section
variable (G : List (Str × GV)) (R : List (Str × Nat)) (F : List FE)
def callN : Nat → CallT
  | 0 => fun _ _ _ => .bad
  | n + 1 => fun i ps S => match F[i]? with
    | none => .bad
    | some (.code fd) => if ps.length = fd.np then outF (evS ⟨callN n, F.length, G, R⟩ fd.body (startE ps fd.nl) S) else .bad
    | some (.ext f) => f (callN n) ps S
end
section
variable {W : Wd} {mg : Str → Option Value} {base : Heap}
/-- the entry of a def's run -/
def gh0 (b : Bn) (H : Hp) : Gh := ⟨H, b.m, b.B, fun _ => False⟩
theorem start_ok {b : Bn} {H : Hp} {S : Store} {ps : List PV} {vs : List V} {N : List Str} (r : Reps W H b ps vs) (st : StoreOk W H b S) (tr : ∀ a, b.no a → ∃ o, H a = some o) (hn : ps.length ≤ N.length) :
    EnvOk W (gh0 b H) (startE ps N.length) S b (fun _ => False) (L2.start N vs) H where
  len := by
    unfold startE L2.start
    rw [List.length_append, List.length_append, List.length_map, List.length_map, List.length_replicate, List.length_replicate, r.length]
  slot := fun i => by
    unfold startE L2.start
    rw [look_app]
    by_cases h : i < (ps.map Sl.val).length
    · rw [if_pos h]
      have h' : i < ps.length := by simpa using h
      obtain ⟨x, hx, rx⟩ := r.get (List.getElem?_eq_getElem h')
      have hl : look (ps.map Sl.val) i = .val ps[i] := by
        unfold look
        rw [List.getElem?_map, List.getElem?_eq_getElem h']; rfl
      rw [hl]
      refine ⟨x, ?_, rx⟩
      rw [List.getElem?_append_left (by rw [List.length_map, ← r.length]; exact h'), List.getElem?_map, hx]
      rfl
    · rw [if_neg h]
      have : look (List.replicate (N.length - ps.length) Sl.no) (i - (ps.map Sl.val).length) = .no := by
        unfold look
        rw [List.getElem?_replicate]
        split <;> rfl
      rw [this]
      trivial
  inj := fun i j p q a h => by
    exfalso
    unfold startE at h
    rw [look_app] at h
    split at h
    · unfold look at h
      rw [List.getElem?_map] at h
      cases e : ps[i]? with
      | none => rw [e] at h; cases h
      | some _ => rw [e] at h; cases h
    · unfold look at h
      rw [List.getElem?_replicate] at h
      split at h <;> cases h
  oB := fun a h => h.elim
  Bo := fun a => ⟨.inl, fun h => h.elim id False.elim⟩
  B0t := fun a h => tr a (.inl h)
  BM := fun a h => h.elim
  tr := tr
  st := st
  m0 := ⟨[], by simp [gh0]⟩
  mn := fun a h n => absurd h n
  mt := fun a h => h.elim
  keep := fun a o q _ _ => ⟨o, q, .refl, fun _ => rfl⟩
/-- what the run leaves, from its entry -/
theorem GhOk.adv {b b' : Bn} {H H' : Hp} {S' : Store} (h : GhOk W (gh0 b H) S' b' H') : Adv W b b' H H' S' :=
  ⟨⟨h.B, h.m0, fun a ha hn => h.mn a ha hn, fun a o q n => h.keep a o q n id⟩, h.st⟩
/-- the promises of all defs -/
def FnsOk (W : Wd) (mg : Str → Option Value) (base : Heap) (nf k : Nat) (C : CallT) : Prop :=
  ∀ j, j < nf → ∃ fd ps, FnG W.P W.w W.K mg base (CX W.P W.w) k (W.fa j) fd ps (spOf W C j) ∧ PySem.W.keepIn W.K (.ref (W.fa j)) = true ∧ Binds W.K fd ps []
/-- what is known of the def i: its text, how it is bound; of its body -/
structure FnFact (W : Wd) (mg : Str → Option Value) (base : Heap) (G : List (Str × GV)) (R : List (Str × Nat)) (nf : Nat) (i : Nat) (fe : FE) : Prop where
  ex : ∃ (oc : Value) (od : Option Addr) (name qual : Str) (params : Arguments) (body : List Stmt) (scope : Scope) (dV kV doc pm cdv ct : Value) (an : Option Addr) (osl : Array (Option Value)) (N ps : List Str),
    W.K.lookup (W.fa i) = some ⟨oc, od, .func (PySem.W.fnOf name qual params body scope dV kV doc pm an cdv ct), osl⟩ ∧ PySem.W.codeIn W.K cdv qual = true ∧ FnScope N ps scope ∧
    PySem.W.keepIn W.K (.ref (W.fa i)) = true ∧ Binds W.K (PySem.W.fnOf name qual params body scope dV kV doc pm an cdv ct) ps [] ∧
    match fe with
    | .code fd => N.length = fd.nl ∧ ps.length = fd.np ∧ fd.np ≤ fd.nl ∧ srcS G R fd.body ⟨N, scope, none⟩ (.l body) = true
    | .ext f => (∀ C qs S, f C qs S ≠ .bad → qs.length = ps.length) ∧
      ∀ (k : Nat) (C : CallT) (E : XK) (A : Around) (outer : List PySem.Env) (s : Shared) (H : Hp), FnsOk W mg base nf k C → A.guards = some [] → 3 ≤ k → Room k (A.deeper (envOfC qual scope s.heap.objs.size (W.fa i) cdv)) →
        ∀ qs S b vs Q, Reps W H b qs vs → StoreOk W H b S → (∀ a, b.no a → ∃ o, H a = some o) → fin W E (fun v _ H' b' => ∀ x, Rep W H' b' v x → Q x H') b H (f C qs S) →
          ∃ t, PSs (cxOf (CX W.P W.w) W.P W.w W.K mg base N qual scope (W.fa i) cdv A outer s H E) body t ∧ t { nx := fun _ H' => Q .non H', rt := Q } (L2.start N vs) H
/-- what the world gives: the top's names, how its exceptions are made -/
structure Tops (W : Wd) (mg : Str → Option Value) (base : Heap) (G : List (Str × GV)) (R : List (Str × Nat)) (nf : Nat) : Prop where
  G : ∀ x gv, (x, gv) ∈ G → match gv with
    | .fn i => i < nf ∧ mg x = some (.ref (W.fa i))
    | .val p => ∃ v u, mg x = some u ∧ RelV v u ∧ ∀ H b, Rep W H b p v
    | .none => mg x = none
  rz : ∀ X : Cx, X.prog = W.P → X.w = W.w → X.K = W.K → X.mg = mg → X.base = base → X.calm = true → Room 3 X.A → Takes X (fun _ _ _ _ => False) ∨ True → ∀ x c, (x, c) ∈ R → ∀ (p pos : Pos) (e : Expr) (te : TE), Gl X x → (x == ("__debug__" : Str)) = false → notStar e = true → PE X e te →
    PMk X (.Call (.Name x p) [e] [] pos) fun σ H Q => te σ H fun v H1 => ∀ d, H1 d = none → Q (.ref (W.ca c)) (some d) (upd H1 d (.xd [("value", v)]))
theorem fns_ok {G : List (Str × GV)} {R : List (Str × Nat)} {F : List FE} (T : Tops W mg base G R F.length) (hF : ∀ i fe, F[i]? = some fe → FnFact W mg base G R F.length i fe) :
    ∀ n, FnsOk W mg base F.length (n + 3) (callN G R F n) := by
  intro n
  induction n with
  | zero =>
    intro i hi
    obtain ⟨oc, od, name, qual, params, body, scope, dV, kV, doc, pm, cdv, ct, an, osl, N, ps, lk, hcd, hS, hk, hb, _⟩ := (hF i _ (List.getElem?_eq_getElem hi)).ex
    refine ⟨_, ps, ⟨fun vs H Q E h => ?_, fun A outer s H args us vs Q E _ _ _ _ _ h => ?_⟩, hk, hb⟩
    · obtain ⟨_, _, _, _, _, _, h⟩ := h
      exact h.elim
    · obtain ⟨_, _, _, _, _, _, h⟩ := h
      exact h.elim
  | succ n ih =>
    intro i hi
    have hfi : F[i]? = some F[i] := List.getElem?_eq_getElem hi
    generalize F[i] = fe at hfi
    obtain ⟨oc, od, name, qual, params, body, scope, dV, kV, doc, pm, cdv, ct, an, osl, N, ps, lk, hcd, hS, hk, hb, hfe⟩ := (hF i _ hfi).ex
    cases fe with
    | ext f =>
      obtain ⟨hlen, run⟩ := hfe
      refine ⟨_, ps, fnG_of (k := n + 3) lk hcd hS (fun vs H Q E h => ?_) (fun A outer s H vs Q E gd hr h => ?_), hk, hb⟩
      · obtain ⟨qs, S, b, r, _, _, h⟩ := h
        simp only [callN, hfi] at h
        rw [← r.length]
        refine hlen (callN G R F n) qs S fun z => ?_
        rw [z] at h
        exact h.elim
      · obtain ⟨qs, S, b, r, st, tr, h⟩ := h
        simp only [callN, hfi] at h
        exact run (n + 3) (callN G R F n) E A outer s H ih gd (by omega) hr qs S b vs Q r st tr h
    | code fd =>
      obtain ⟨hN, hps, hle, hsrc⟩ := hfe
      refine ⟨_, ps, fnG_of (k := n + 3) lk hcd hS (fun vs H Q E h => ?_) (fun A outer s H vs Q E gd hr h => ?_), hk, hb⟩
      · obtain ⟨qs, S, b, r, _, _, h⟩ := h
        simp only [callN, hfi] at h
        split at h
        · rename_i hl
          rw [← r.length, hl, hps]
        · exact h.elim
      · obtain ⟨qs, S, b, r, st, tr, h⟩ := h
        simp only [callN, hfi] at h
        split at h
        case isFalse => exact h.elim
        rename_i hl
        refine ⟨tS W (gh0 b H) E (evS ⟨callN G R F n, F.length, G, R⟩ fd.body), ?_, ?_⟩
        · have tk : Takes (cxOf (CX W.P W.w) W.P W.w W.K mg base N qual scope (W.fa i) cdv A outer s H E) (fun cls d _ H => E cls d H) := takes_of rfl rfl rfl rfl
          have o : XOkS W ⟨callN G R F n, F.length, G, R⟩ (n + 3) ⟨N, scope, none⟩ E (cxOf (CX W.P W.w) W.P W.w W.K mg base N qual scope (W.fa i) cdv A outer s H E) :=
            { prog := rfl, w := rfl, K := rfl, N := rfl, nd := hS.nd, sc := rfl, fc := fun _ => rfl, calm := rfl
              un := by have := hr.un; show (A.deeper _).units + 70 < cLine; omega
              room := hr
              gd := gd
              fns := ih
              G := T.G
              pass := passes_call tk fun _ _ _ _ q => q
              own := passes_of rfl
              tk := tk
              kind := hS.kind
              rz := fun x c hm p pos e te q1 q2 q3 q4 => T.rz _ rfl rfl rfl rfl rfl rfl (hr.mono (by omega)) (.inr trivial) x c hm p pos e te q1 q2 q3 q4 }
          exact sndS o fd.body (.l body) hsrc _
        · refine ⟨startE qs N.length, S, b, fun _ => False, start_ok r st tr (by rw [hl, hN]; exact hle), ?_⟩
          rw [hN]
          generalize evS ⟨callN G R F n, F.length, G, R⟩ fd.body (startE qs fd.nl) S = res at h
          cases res with
          | ok f S' =>
            cases f with
            | nx ρ' => exact fun σ' H' b' O' e' => h H' _ e'.gh.adv .non .non
            | rt v => exact fun x H' b' q r => h H' b' q.adv x r
            | bk ρ' => exact h.elim
            | ct ρ' => exact h.elim
          | exc c v S' => exact fun x d H' b' q r hd => h x d H' b' q.adv r hd
          | bad => exact h.elim
end
end Tg
end
section
set_option Elab.async false
set_option linter.all false
set_option autoImplicit false
set_option maxRecDepth 100000
set_option maxHeartbeats 4000000
/-! the program's own exception: its __init__ says super().__init__(text), then self.value = value -/
namespace Tg
namespace TE
open PySem PySem.W PySem.Calls PyProof.Rows PySem.HandSPX
def iA (p1 p2 : Pos) : Arguments := { posonlyargs := [], args := [{ arg := "self", annotation := none, pos := p1 }, { arg := "value", annotation := none, pos := p2 }], vararg := none, kwonlyargs := [], kw_defaults := [], kwarg := none, defaults := [] }
def iB (t : Str) (k : Nat) (a1 a2 a3 a4 a5 a6 a7 a8 a9 b1 : Pos) : List Stmt := [.Expr (.Call (.Attribute (.Call (.Name "super" a1) [] [] a2) "__init__" a3) [.Constant (.str t) k a4] [] a5) a6, .Assign [.Attribute (.Name "self" a7) "value" a8] (.Name "value" a9) b1]
abbrev iF (p1 p2 : Pos) (qual : Str) (b : List Stmt) (cel : Addr) (kV doc pm cdv ct : Value) (an : Option Addr) : FuncData :=
  { name := "__init__", qualname := qual, params := iA p1 p2, body := .stmts b, scope := iS, globals := mainGlobals, closure := [("__class__", cel)], defaults := .none, kwdefaults := kV, doc, pyModule := pm, annotations := an, code := cdv, closureTuple := ct, builtins := builtinsNs }
/-- what the written part says of the first class's __init__: at fI; C0 the class -/
structure TeTxt (P : Program) (K : Frag) (C0 fI : Addr) : Prop where
  fn : ∃ (oc : Value) (od : Option Addr) (qual : Str) (kV doc pm : Value) (an : Option Addr) (cc : Addr) (ct : Value) (osl : Array (Option Value)) (p1 p2 a1 a2 a3 a4 a5 a6 a7 a8 a9 b1 : Pos) (t : Str) (k : Nat) (cel : Addr),
    K.lookup fI = some ⟨oc, od, .func (iF p1 p2 qual (iB t k a1 a2 a3 a4 a5 a6 a7 a8 a9 b1) cel kV doc pm (.ref cc) ct an), osl⟩ ∧ codeIn K (.ref cc) qual = true ∧
    (∃ ol od2 sl, K.lookup cel = some ⟨ol, od2, .cell (some (.ref C0)), sl⟩) ∧
    (a3.endLine == a5.line) = true ∧ (∃ o2 d2 vs s2 file tf, K.lookup cc = some ⟨o2, d2, .fields vs, s2⟩ ∧ vs[2]? = some (.str file tf) ∧ ((P.main.file : Str) == file) = true)
  top : (P.main.scope.names.lookup ("super" : Str)).isSome = false
  cls : ∃ cd, clsIn K C0 = some cd
  opq : nsIn K cStatics "thirdparty.any" = some none
/-- .. and of a class of them, at C -/
structure ClTxt (K : Frag) (C0 fI C : Addr) : Prop where
  cls : ∃ nm q N bs bm sn sub ab col dd k0 k1 k2 k3 k5, K.lookup C = some (excClassObj nm q C N bs bm true sn sub ab col dd k0 k1 k2 k3 k5 "ValueError.__new__") ∧ refsVE bm = true
  sa : findIn K (.ref C) "__setattr__" = some (some (.builtin "object.__setattr__"))
  noV : findIn K (.ref C) "value" = some none
  iC : findIn K (.ref C) "__init__" = some (some (.ref fI))
  tI : typeIn K (.ref fI) = some (.type "function")
  kC : keepIn K (.ref C) = true
  exC : subIn K (.ref C) (.type "BaseException") = some true
  veC : subIn K (.ref C) (.type "ValueError") = some true
  tyC : typeIn K (.ref C) = some (.type "type")
  sub0 : mroIn K C (.ref C0) = some true
  sup : ks_superIn K C C0 "__init__" = some (some (.builtin "ValueError.__init__"))
theorem call_bwV {prog : Program} {w : World} {A : Around} {E : Value → Shared → Prop} {h : Heap} {g : Array GenState} {d : Drawn} {t : Nat} {os : OsState}
    {nm q : Str} {C N : Addr} {bs bm : List Value} {hdct : Bool} {sn : List Str} {sub : List Value} {ab : Bool} {col : Option Bool} {dd : Option Addr} {k0 k1 k2 k3 k5 : Option Value} {u e t0 : Addr} {rest : List Value} {Q : Value → Shared → Prop}
    (hC : h.get? C = some (excClassObj nm q C N bs bm hdct sn sub ab col dd k0 k1 k2 k3 k5 "ValueError.__new__")) (he : h.get? e = some (excO C t0)) (hu : h.get? u = some (kxs_mw "ValueError.__init__" e)) (hrest : rest.length ≤ sizeLine)
    (hq : ∀ h' t1, (∀ b o, b ≠ e → h.get? b = some o → h'.get? b = some o) → h'.get? e = some (excO C t1) → Q .none ⟨h', g, d, t, os⟩) :
    wpAny (model prog w) A (call (.ref u) rest) Q E ⟨h, g, d, t, os⟩ := by
  refine wpAny_call (codeAny_of_tree ?_)
  show wpAny _ A.in1 (callAny (.ref u) ⟨rest, []⟩) _ _ _
  simp only [callAny]
  refine wpAny_bind (wpAny_load hu ?_)
  simp only [kxs_mw, show (Value.type "method-wrapper" == Value.type "method" || Value.type "method-wrapper" == Value.type "builtin_function_or_method" || Value.type "method-wrapper" == Value.type "method-wrapper") = true by decide, if_true]
  refine KFB.if_so (by decide) ?_
  refine wpAny_bind (PySem.ESX.check_bound F.excBase_ValueError hC he rfl ?_)
  refine wpAny_bind (wpAny_pure (wpAny_pure ?_))
  refine ⟨Code.quiet_builtin _ (by decide +kernel), codeAny_builtin F.excBase_ValueError.initEntry ?_⟩
  rw [Around.under_plainId F.excBase_ValueError.init.plain _]
  wp_walk
  refine hq _ h.objs.size (fun b o hb ho => ?_) ?_
  · rw [Heap.get?_update_other _ _ (Ne.symm hb)]
    exact Heap.get?_push_of_some _ ho
  · rw [Heap.get?_update_self _ (Heap.get?_push_of_some _ he) rfl]
    rfl
/-- what __init__ leaves of a fresh exception at x -/
structure InitEnd (h h' : Heap) (x C dx t1 : Addr) (v : Value) : Prop where
  keep : ∀ b o, b ≠ x → h.get? b = some o → h'.get? b = some o
  obj : h'.get? x = some { cls := .ref C, dict := some dx, data := .fields #[.ref t1, .none, .none, .none, .bool false, .none] }
  dbig : h.objs.size ≤ dx
  dne : dx ≠ x
  ns : h'.Ns1 dx (fun y => if y = "value" then some v else none)
structure OwnMade (h h' : Heap) (e C d : Addr) (v : Value) : Prop where
  keep : ∀ b o, h.get? b = some o → h'.get? b = some o
  new : h.objs.size ≤ e
  obj : ∃ oe vs, h'.get? e = some oe ∧ oe.cls = .ref C ∧ oe.dict = some d ∧ oe.data = .fields vs ∧ vs[1]? = some .none
  dbig : h.objs.size ≤ d
  dne : d ≠ e
  ns : h'.Ns1 d (fun y => if y = "value" then some v else none)
theorem ld_local {M : Model} {A : Around} {E : Value → Shared → Prop} {s : Shared} {env : PySem.Env} {m : Str → Option Value} {x : Str} {pos : Pos} {v : Value} {Q : Value → Shared → Prop} (hn : s.heap.Ns env.locals m) (hv : m x = some v) (hk : env.scope.kind = .function) (hl : env.kindOf x = some .local) (h : Q v s)
    (hd : (x == ("__debug__" : Str)) = false := by decide) : wpAny M A (eval (.Name x pos) env) Q E s := wpAny_Name (wpAny_loadName_local hk hl hn hv h) hd
theorem one_size (v : Value) : [v].length ≤ sizeLine := by
  rw [sizeLine_eq]
  exact (by decide : 1 ≤ 16777216)
section
variable {prog : Program} {w : World} {A : Around} {E : Value → Shared → Prop} {R : Result → Shared → Prop} {s : Shared} {K : Frag} {C C0 fI : Addr} {mg mb : Str → Option Value}
theorem te_init (T : TeTxt prog K C0 fI) (TC : ClTxt K C0 fI C) {x t0 : Addr} {v : Value} (X : K.In s.heap) (hlim : s.heap.NoLimit) (hx : s.heap.get? x = some (excO C t0)) (hnx : K.lookup x = none) (hroom : A.depth < recursionLimit)
    (hmg : s.heap.Ns mainGlobals mg) (hs : mg "super" = none) (hmb : s.heap.Ns builtinsNs mb) (hbs : mb "super" = some (.type "super"))
    (hq : ∀ h' tk dx t1, InitEnd s.heap h' x C dx t1 v → R (.ok (.ret .none)) { s with heap := h', toks := tk }) :
    codeAny (model prog w) A (.call (.ref fI) ⟨[.ref x, v], []⟩) R s := by
  obtain ⟨oc, od, qual, kV, doc, pm, an, cc, ct, osl, p1, p2, a1, a2, a3, a4, a5, a6, a7, a8, a9, b1, tt, kk, cel, ho, hcd, ⟨ol, od2, sl, hcel⟩, hline, o2, d2, cvs, s2, file, tf, hcc, hvs, hfile⟩ := T.fn
  obtain ⟨nm, q, N, bs, bm, sn, sub, ab, col, dd, k0, k1, k2, k3, k5, hC, hbm⟩ := TC.cls
  obtain ⟨cd0, hcd0⟩ := T.cls
  have hcl : clsIn K C = some { name := nm, bases := bs, mro := .ref C :: bm, ns := N, qualname := q, hasDict := true, slotNames := sn, subclasses := sub, abstract := ab, collection := col, hasDel := false } := by unfold clsIn; rw [hC] <;> rfl
  obtain ⟨hp, g, dr, tk, os⟩ := s
  refine ks_codeAny_call_defAt (binds := [("self", .ref x), ("value", v)]) hroom (X _ _ ho) rfl hlim (codeRec_of X hcd) rfl (BindsTo.of_eq (by first | rfl | with_unfolding_all rfl)) (fun y hy => ?_) (fun y hy => ?_) (fun h₁ hn k => ?_) rfl rfl rfl
  · simp [iS] at hy
    rcases hy with rfl | rfl | rfl | rfl <;> simp
  · simp at hy
    rcases hy with rfl | rfl <;> rfl
  have X₁ : K.In h₁ := X.keeps k
  have hx₁ := k _ _ hx
  have hxL : hp.objs.size ≠ x := Nat.ne_of_gt (Heap.lt_size hx)
  generalize hL : hp.objs.size = L at *
  have hself : (List.lookup ("self" : Str) [(("self" : Str), Value.ref x), (("value" : Str), v)].reverse) = some (Value.ref x) := by first | rfl | with_unfolding_all rfl
  have hval : (List.lookup ("value" : Str) [(("self" : Str), Value.ref x), (("value" : Str), v)].reverse) = some v := by first | rfl | with_unfolding_all rfl
  have hks : (callEnv (iF p1 p2 qual (iB tt kk a1 a2 a3 a4 a5 a6 a7 a8 a9 b1) cel kV doc pm (.ref cc) ct an) L fI).kindOf "super" = some .globalImplicit := by first | rfl | with_unfolding_all rfl | kernel_rfl
  have hkc : (callEnv (iF p1 p2 qual (iB tt kk a1 a2 a3 a4 a5 a6 a7 a8 a9 b1) cel kV doc pm (.ref cc) ct an) L fI).kindOf "__class__" = some .free := by first | rfl | with_unfolding_all rfl | kernel_rfl
  have hka : (callEnv (iF p1 p2 qual (iB tt kk a1 a2 a3 a4 a5 a6 a7 a8 a9 b1) cel kV doc pm (.ref cc) ct an) L fI).kindOf "self" = some .local := by first | rfl | with_unfolding_all rfl | kernel_rfl
  have hkv : (callEnv (iF p1 p2 qual (iB tt kk a1 a2 a3 a4 a5 a6 a7 a8 a9 b1) cel kV doc pm (.ref cc) ct an) L fI).kindOf "value" = some .local := by first | rfl | with_unfolding_all rfl | kernel_rfl
  obtain ⟨oD, hD1, hD2⟩ : ∃ oD, h₁.get? C0 = some oD ∧ oD.data = .cls cd0 := by
    unfold clsIn at hcd0
    split at hcd0
    · rename_i c d cd' sl ho
      cases hcd0
      exact ⟨_, X₁ _ _ ho, rfl⟩
    · cases hcd0
  refine ks_wpAt_execs_cons (ks_wpAt_Expr_any ?_ rfl rfl)
  rw [arm_eval_Call]
  refine _root_.PySem.wpAt_bind ?_
  refine ks_wpAt_super_base (ar := { arg := "self", annotation := none, pos := p1 }) hks hkc (by decide) rfl (X₁ _ _ ho) rfl rfl rfl (X₁ _ _ hcc) rfl hvs hfile T.top ?_
  refine ks_loadName_global rfl hks (loadGlobal_builtin (hmg.keeps k) hs (hmb.keeps k) hbs ⟨rfl, ?_⟩)
  refine wpAny_loadName_free rfl hkc rfl ⟨_, X₁ _ _ hcel, rfl⟩ ?_
  refine wpAny_loadName_local rfl hka hn hself ?_
  refine ks_wpAny_isType_cls hD1 hD2 ⟨rfl, ?_⟩
  refine ks_wpAny_call_super hD1 hD2 hx₁ rfl (fun c e => by cases e) (looks_mroIn X₁ TC.sub0) (fun h₂ hso k₂ => ?_)
  have X₂ : K.In h₂ := X₁.keeps k₂
  have hx₂ := k₂ _ _ hx₁
  have I₂ : InstAt h₂ x (excO C t0) C none := ⟨hx₂, rfl, rfl, trivial⟩
  have hm := TC.sup
  unfold ks_superIn at hm
  rw [hcl] at hm
  refine _root_.PySem.wpAt_bind (_root_.PySem.wpAt_of_wpAny (wpAny_standAt ?_))
  have hpos : ∀ env : PySem.Env, methodCallPos true (.Call (.Name "super" a1) [] [] a2) env a3 a5 = pure a5 := fun env => by unfold methodCallPos; simp [hline]
  refine _root_.PySem.wpAt_bind (ks_wpAt_holding ?_)
  have hform : ∀ env : PySem.Env, methodCallForm ([Expr.Constant (Const.str tt) kk a4].length + ([] : List Keyword).length) (backTo a5 (starEach [Expr.Constant (Const.str tt) kk a4] env)) (backToKw a5 (keywordEach [] env)) = true := fun env => rfl
  simp only [hform, calleeOf, if_true]
  refine _root_.PySem.wpAt_of_wpAny ?_
  refine kxs_getMethod kxs_ValueError hso (looks_opaque X₂ T.opq) (l₀ := .ref C :: bm) (fun A Q E s k q => wpAny_bind ((looks_clsIn X₂ hcl) A _ E s k (wpAny_pure q))) rfl X₂ hm (I₂.type.andThen (looks_subIn X₂ TC.veC)) (ks_ne X₂ I₂ hcl) (by decide) ?_
  have k₃ : ∀ b o, h₂.get? b = some o → (h₂.push (kxs_mw "ValueError.__init__" x)).get? b = some o := fun b o e => Heap.get?_push_of_some _ e
  have hu : (h₂.push (kxs_mw "ValueError.__init__" x)).get? h₂.objs.size = some (kxs_mw "ValueError.__init__" x) := Heap.get?_push_at rfl rfl
  simp only [hpos]
  refine _root_.PySem.wpAt_of_wpAny ?_
  refine wpAny_bind (wpAny_pure ?_)
  refine kxs_callWith (i := "ValueError.__init__") (x := x) (by rfl) (evalArgs_plain ?_)

  refine Calls.spliced_cons (Calls.Constant_str (k := kk) (pos := a4) (Calls.spliced_nil ⟨hu, ?_⟩))
  have hC₃ := X₂.keeps k₃ _ _ hC
  refine call_bwV hC₃ (k₃ _ _ hx₂) hu (one_size _) (fun h₄ t1 k₄ hx₄ => ?_)
  -- self.value = value
  have k₁₄ : ∀ b o, b ≠ x → h₁.get? b = some o → h₄.get? b = some o := fun b o hb e => k₄ b o hb (k₃ _ _ (k₂ _ _ e))
  have hCx : C ≠ x := fun z => by
    have e1 := X₁ _ _ hC
    rw [z, hx₁] at e1
    cases e1
  have nin : ∀ a o, K.lookup a = some o → a ≠ x := fun a o e z => by
    rw [z, hnx] at e
    cases e
  have X₄ : K.In h₄ := fun a o e => k₁₄ a o (nin a o e) (X₁ a o e)
  show _root_.PySem.wpAt _ _ _ (execs _ _) _ _ _
  refine ks_wpAt_execs_cons (_root_.PySem.wpAt_of_wpAny ?_)
  refine plainObj_wpAny_Assign_Attribute ?_
  have hn₄ := hn.at (fun o e => k₁₄ _ o hxL e)
  refine ld_local (v := v) hn₄ hval rfl hkv (ld_local (v := .ref x) hn₄ hself rfl hka ?_)
  refine set_plain X₄ (ox := excO C t1) (od := none) ⟨hx₄, rfl, rfl, trivial⟩ TC.sa ?_
  refine exc_osa X₄ hx₄ hcl (show refsVE (.ref C :: bm) = true from hbm) rfl TC.noV (fun h₅ tk₅ dx k₅ dn dne hx₅ hn₅ => ?_)
  refine _root_.PySem.wpAt_of_wpAny (wpAny_execs_nil ?_)
  have k₀₅ : ∀ b o, b ≠ x → hp.get? b = some o → h₅.get? b = some o := fun b o hb e => k₅ b o hb (k₁₄ b o hb (k b o e))
  refine hq h₅ tk₅ dx t1 ⟨k₀₅, hx₅, ?_, dne, hn₅⟩
  have hL4 : L < h₄.objs.size := by
    obtain ⟨o, _, _, e, _⟩ := hn₄
    exact Heap.lt_size e
  show hp.objs.size ≤ dx
  rw [hL]
  exact Nat.le_of_lt (Nat.lt_of_lt_of_le hL4 dn)
theorem te_made (T : TeTxt prog K C0 fI) (TC : ClTxt K C0 fI C) {v : Value} (X : K.In s.heap) (hlim : s.heap.NoLimit) (hroom : A.depth + 1 < recursionLimit)
    (hmg : s.heap.Ns mainGlobals mg) (hs : mg "super" = none) (hmb : s.heap.Ns builtinsNs mb) (hbs : mb "super" = some (.type "super"))
    (hq : ∀ h' tk e d, OwnMade s.heap h' e C d v → R (.ok (.ret (.ref e))) { s with heap := h', toks := tk }) :
    codeAny (model prog w) A (.call (.ref C) ⟨[v], []⟩) R s := by
  obtain ⟨nm, q, N, bs, bm, sn, sub, ab, col, dd, k0, k1, k2, k3, k5, hC, hbm⟩ := TC.cls
  obtain ⟨hp, g, dr, tk, os⟩ := s
  have k : ∀ b o, hp.get? b = some o → ((hp.push (kdv_tup [v])).push (excO C hp.objs.size)).get? b = some o := fun b o e => Heap.get?_push_of_some _ (Heap.get?_push_of_some _ e)
  have hget : ((hp.push (kdv_tup [v])).push (excO C hp.objs.size)).get? (hp.objs.size + 1) = some (excO C hp.objs.size) := by heap_get
  have hnx : K.lookup (hp.objs.size + 1) = none := by
    cases e : K.lookup (hp.objs.size + 1) with
    | none => rfl
    | some o =>
      have z : hp.get? (hp.objs.size + 1) = some o := X _ _ e
      exact absurd (Nat.lt_of_succ_lt (Heap.lt_size z)) (Nat.lt_irrefl _)
  refine call_own F.excBase_ValueError (fun X => refsVE_contains X bm hbm) (X _ _ hC) (looks_findIn X TC.iC) (fun self => bind_fn X self TC.tI) (one_size v) ?_
  refine te_init (s := ⟨(hp.push (kdv_tup [v])).push (excO C hp.objs.size), g, dr, tk, os⟩) T TC (X.keeps k) (hlim.keeps k) hget hnx ?_ (hmg.keeps k) hs (hmb.keeps k) hbs fun h' tk' dx t1 ⟨k', hx, dn, dne, hns⟩ => ?_
  · show A.depth + 1 < recursionLimit
    exact hroom
  · have old : ∀ b o, hp.get? b = some o → h'.get? b = some o := fun b o e => k' b o (Nat.ne_of_lt (Nat.lt_succ_of_lt (Heap.lt_size e))) (k b o e)
    have z : hp.objs.size + 1 + 1 ≤ dx := by
      first
        | (simpa only [Heap.size_push] using dn)
        | exact dn
        | (have q := dn; rw [Heap.size_push, Heap.size_push] at q; exact q)
    exact ⟨rfl, hq h' tk' (hp.objs.size + 1) dx ⟨old, Nat.le_succ _, ⟨_, _, hx, rfl, rfl, rfl, rfl⟩, Nat.le_trans (Nat.le_trans (Nat.le_succ _) (Nat.le_succ _)) z, dne, hns⟩⟩
end
end TE
open PySem PySem.Spec PyProof.Rows L2
theorem relO_te {v : V} {v' : Value} (r : RelV v v') (f : Str) : RelO (List.lookup f [(("value" : Str), v)]) (if f = "value" then some v' else none) := by
  by_cases hw : f = "value"
  · subst hw
    rw [if_pos rfl]
    have q : List.lookup ("value" : Str) [(("value" : Str), v)] = some v := by simp [List.lookup]
    rw [q]
    exact r
  · rw [if_neg hw]
    have qw : (f == ("value" : Str)) = false := by simpa using hw
    have q2 : List.lookup f [(("value" : Str), v)] = none := by simp [List.lookup, qw]
    rw [q2]
    trivial
theorem pmk_te {X : Cx} {C C0 fI : Addr} {x : Str} {e : Expr} {te : TE} {p pos : Pos} {k : Nat} (T : TE.TeTxt X.prog X.K C0 fI) (TC : TE.ClTxt X.K C0 fI C) (hr : Room (k + 1) X.A) (hgC : X.mg x = some (.ref C)) (hgS : X.mg "super" = none) (hg : Gl X x) (hdb : (x == ("__debug__" : Str)) = false) (hst : notStar e = true) (he : PE X e te) :
    PMk X (.Call (.Name x p) [e] [] pos) fun σ H Q => te σ H fun v H1 => ∀ d, H1 d = none → Q (.ref C) (some d) (upd H1 d (.xd [("value", v)])) := by
  have hst' := star_cons (es := []) (env := X.env) hst
  intro pins s σ H Q I h
  refine wpAny_Call_Name_kw (ld_glob I hg hgC ?_ hdb)
  refine PySem.W.callWith_K (h₀ := X.base) I.ok.mod.kin TC.kC ?_ hst' rfl
  rw [hst']
  refine Calls.spliced_cons ?_
  refine thn (he.run pins s σ H _ I h) fun v' s1 ⟨v, H1, I1, rv, q1⟩ => Calls.spliced_nil ⟨I1.kIn, ?_⟩
  show wpAny _ _ (call (.ref C) [v']) _ _ _
  have hlim := I1.nolimit
  obtain ⟨mb, hb1, hb2⟩ := I1.mod.blt
  have hmg := I1.mod.glob.keeps I1.bk
  have hmb := hb1.keeps I1.bk
  have hbs : mb "super" = some (.type "super") := (hb2 _ (by decide)).trans (by decide +kernel)
  obtain ⟨hp, g, dr, tk, os⟩ := s1
  refine wpAny_call (TE.te_made T TC I1.kIn hlim (by have := hr.dp; omega) hmg hgS hmb hbs fun h' tk' e d M => ?_)
  show MkP X pins σ Q (.ref e) ⟨h', g, dr, tk', os⟩
  obtain ⟨oe, fv, hoe, hc, hd, hdat, h1⟩ := M.obj
  have hns := M.ns
  obtain ⟨G', g1, g2⟩ := restrict h' fun b => decide (b ≠ e)
  have gk : ∀ b, b ≠ e → G'.get? b = h'.get? b := fun b hb => g1 b (decide_eq_true hb)
  have ge : G'.get? e = none := g2 e (by simp)
  have old : ∀ b o, hp.get? b = some o → G'.get? b = some o := fun b o q => (gk b (Nat.ne_of_lt (Nat.lt_of_lt_of_le (Heap.lt_size q) M.new))).trans (M.keep b o q)
  have ob : ObjOk X.prog X.w (upd H1 d (.xd [(("value" : Str), v)])) G' d (.xd [(("value" : Str), v)]) :=
    ⟨_, hns.at (fun o q => (gk d M.dne).trans q), fun f => relO_te rv f⟩
  have J : Inv X pins σ (upd H1 d (.xd [(("value" : Str), v)])) ⟨G', g, dr, tk', os⟩ := I1.laid (t' := tk') old M.dbig ob
  refine ⟨e, oe, fv, ⟨G', g, dr, tk', os⟩, _, .ref C, some d, rfl, J, fun b o q => ?_, ge, hoe, ⟨hc, hd⟩, hdat, h1, ?_, rfl, I1.bare, raises_own TC.exC TC.tyC, q1 d (I1.hok.fresh M.dbig)⟩
  · by_cases hb : b = e
    · have q' : G'.get? b = some o := q
      rw [hb, ge] at q'; cases q'
    · exact (gk b hb).symm.trans q
  · rw [upd_ne (Ne.symm M.dne)]
    exact I1.hok.fresh M.new
end Tg
end
section
set_option Elab.async false
set_option linter.all false
set_option autoImplicit false
set_option maxRecDepth 100000
/-! binding -/
namespace Tg
open PySem PySem.Spec PyProof.Rows L2
theorem zip_some : ∀ {ps : List Str} {us : List Value} {n : Str}, us.length = ps.length → n ∈ ps → ((ps.zip us).lookup n).isNone = false
  | [], _, _, _, h => by cases h
  | p :: ps, [], _, hl, _ => by cases hl
  | p :: ps, u :: us, n, hl, h => by
    rw [List.zip_cons_cons, List.lookup_cons]
    cases e : (n == p) with
    | true => rfl
    | false =>
      simp only
      refine zip_some (by simpa using hl) ?_
      rcases List.mem_cons.mp h with rfl | h
      · rw [beq_self_eq_true] at e; cases e
      · exact h
theorem fm_congr {α β : Type} {f g : α → Option β} : ∀ {l : List α}, (∀ x ∈ l, f x = g x) → l.filterMap f = l.filterMap g
  | [], _ => rfl
  | x :: l, h => by
    rw [List.filterMap_cons, List.filterMap_cons, h x (List.mem_cons_self ..), fm_congr fun y hy => h y (List.mem_cons_of_mem _ hy)]
theorem fm_zip : ∀ {ps : List Str} {us : List Value}, us.length = ps.length → ps.Nodup → (ps.filterMap fun n => ((ps.zip us).lookup n).map fun v => (n, v)) = ps.zip us
  | [], _, _, _ => rfl
  | p :: ps, [], hl, _ => by cases hl
  | p :: ps, u :: us, hl, hn => by
    obtain ⟨n1, n2⟩ := List.nodup_cons.mp hn
    have e1 : ((p :: ps).zip (u :: us)).lookup p = some u := by rw [List.zip_cons_cons, List.lookup_cons, beq_self_eq_true]
    have e2 : ∀ n ∈ ps, (((p :: ps).zip (u :: us)).lookup n).map (fun v => (n, v)) = ((ps.zip us).lookup n).map fun v => (n, v) := fun n hm => by
      have : (n == p) = false := by
        rw [beq_eq_false_iff_ne]
        rintro rfl
        exact n1 hm
      rw [List.zip_cons_cons, List.lookup_cons, this]
    rw [List.filterMap_cons, e1]
    simp only [Option.map_some]
    rw [fm_congr e2, fm_zip (by simpa using hl) n2, List.zip_cons_cons]
theorem bind_plain {name qual : Str} {args : List Arg} {kd : List (Option Expr)} {df : List Expr} {body : List Stmt} {scope : Scope} {kV doc pm cdv ct : Value} {an : Option Addr} {us : List Value} (hl : us.length = (args.map (·.arg)).length) (hn : (args.map (·.arg)).Nodup) :
    bindArgs (PySem.W.fnOf name qual ⟨[], args, none, [], kd, none, df⟩ body scope .none kV doc pm an cdv ct) ⟨us, []⟩ = pure ((args.map (·.arg)).zip us) := by
  have h1 : ((args.map (·.arg)).filter fun n => (((args.map (·.arg)).zip us).lookup n).isNone) = [] := by
    rw [List.filter_eq_nil_iff]
    intro n hn
    rw [zip_some hl hn]
    exact Bool.false_ne_true
  have h2 : (args.map (·.arg)).take ((args.map (·.arg)).length) = args.map (·.arg) := by rw [List.take_length]
  have h4 := fm_zip hl hn
  have hl' : us.length = args.length := by simpa using hl
  unfold bindArgs
  simp [PySem.W.fnOf, seqItems?, hl']
  have c : (!(List.filter (fun n => (List.lookup n ((List.map (fun x => x.arg) args).zip us)).isNone)
                    (List.take
                      ((List.map (fun x : Arg => x.arg) [] ++ List.map (fun x => x.arg) args).length -
                        (List.drop ((#[] : Array Value).size - (List.map (fun x : Arg => x.arg) [] ++ List.map (fun x => x.arg) args).length)
                            ([] : List Value)).length)
                      (List.map (fun x : Arg => x.arg) [] ++ List.map (fun x => x.arg) args))).isEmpty) = false := by
    have : (List.take ((List.map (fun x : Arg => x.arg) [] ++ List.map (fun x => x.arg) args).length - (List.drop ((#[] : Array Value).size - (List.map (fun x : Arg => x.arg) [] ++ List.map (fun x => x.arg) args).length) ([] : List Value)).length)
        (List.map (fun x : Arg => x.arg) [] ++ List.map (fun x => x.arg) args)) = List.map (fun x => x.arg) args := by
      simpa using h2
    rw [this, h1]
    rfl
  rw [List.filterMap_map] at h4
  simp only [c, Bool.false_eq_true, if_false]
  rw [h4]
  rfl
end Tg
end
section
set_option Elab.async false
set_option linter.all false
set_option autoImplicit false
set_option maxRecDepth 100000
/-! what the top has left, read by one check -/
namespace Tg
open PySem PySem.Spec PyProof.Rows L2
theorem atomB_ok {p : PV} {u : Value} (h : atomB p u = true) : ∃ v, RelV v u ∧ ∀ W H b, Rep W H b p v := by
  cases p with
  | non => cases u with
    | none => exact ⟨.non, rfl, fun _ _ _ => .non⟩
    | _ => cases h
  | bl x => cases u with
    | bool y =>
      have e : x = y := eq_of_beq (show (x == y) = true from h)
      subst e
      exact ⟨.bl x, rfl, fun _ _ _ => .bl x⟩
    | _ => cases h
  | int i => cases u with
    | int j t =>
      have e : i = j := of_decide_eq_true h
      subst e
      exact ⟨.int i, ⟨t, rfl⟩, fun _ _ _ => .int i⟩
    | _ => cases h
  | str l => cases u with
    | str x t =>
      have e : x = ⟨l.toArray⟩ := of_decide_eq_true h
      subst e
      exact ⟨.str ⟨l.toArray⟩, ⟨t, rfl⟩, fun _ _ _ => .str l⟩
    | _ => cases h
  | _ => cases u <;> cases h
theorem atomsB_ok : ∀ {ps : List PV} {us : List Value}, atomsB ps us = true → ∃ xs, Vals xs us ∧ ∀ W H b, Reps W H b ps xs
  | [], [], _ => ⟨[], .nil, fun _ _ _ => .nil⟩
  | [], _ :: _, h => by cases h
  | _ :: _, [], h => by cases h
  | p :: ps, u :: us, h => by
    obtain ⟨h1, h2⟩ := He.ba (show (atomB p u && atomsB ps us) = true from h)
    obtain ⟨x, r, e⟩ := atomB_ok h1
    obtain ⟨xs, rs, es⟩ := atomsB_ok h2
    exact ⟨x :: xs, .cons r rs, fun W H b => .cons (e W H b) (es W H b)⟩
/-- the keys of the entries with their hashes -/
def hashOf (e : DictEntry) : Option (Str × Int) := He.keyOf e
theorem entB_ok {P : Program} {w : World} : ∀ {qs : List (KP × PV)} {es : List DictEntry}, entB qs es = true → PySem.W.KeysLit w.params es →
    ∃ (kvs : List (Key × V)) (vs : List (Key × Value)), KV kvs vs ∧ kvs.map (·.1) = qs.map (fun q => kK q.1) ∧ vs.map (·.1) = qs.map (fun q => kK q.1) ∧ Pairs (mixKind P w) es vs ∧ (∀ e ∈ es, ∃ k, (mixKind P w).is k e.key = true ∧ e.hash = (mixKind P w).hash k) ∧ ∀ W H b, RepK W H b qs kvs
  | [], [], _, _ => ⟨[], [], .nil, rfl, rfl, .nil, (fun _ h => absurd h List.not_mem_nil), fun _ _ _ => .nil⟩
  | [], _ :: _, h, _ => by cases h
  | _ :: _, [], h, _ => by cases h
  | q :: qs, e :: es, h, hk => by
    obtain ⟨h1, h2⟩ := He.ba (show ((keyB q.1 e.key && atomB q.2 e.val) && entB qs es) = true from h)
    obtain ⟨h3, h4⟩ := He.ba h1
    obtain ⟨kvs, vs, a1, a2, a3, a4, a5, a6⟩ := entB_ok (P := P) h2 hk.2
    obtain ⟨x, r, hr⟩ := atomB_ok h4
    obtain ⟨y, t, q1, q2⟩ := hk.1
    obtain ⟨k, p⟩ := q
    cases k with
    | i n =>
      rw [q1] at h3
      cases h3
    | s l =>
      rw [q1] at h3
      have ey : y = ⟨l.toArray⟩ := of_decide_eq_true h3
      subst ey
      have hkey : (mixKind P w).is (kK (.s l)) e.key = true := by
        rw [q1]
        exact keyIs_str _ t
      have hh : e.hash = (mixKind P w).hash (kK (.s l)) := by
        rw [q2]
        rfl
      refine ⟨(kK (.s l), x) :: kvs, (kK (.s l), e.val) :: vs, .cons ⟨rfl, r⟩ a1, by simp [a2], by simp [a3], .cons hkey rfl a4, ?_, fun W H b => .cons (hr W H b) (a6 W H b)⟩
      intro e' he'
      rcases List.mem_cons.mp he' with rfl | he'
      · exact ⟨_, hkey, hh⟩
      · exact a5 e' he'
theorem dicB_ok {W : Wd} {a : Addr} {qs : List (KP × PV)} {ks : List Str} (h : dicB W.K a qs = true) (hk : He.dicW W.K a = some (He.keysIn W.w.params ks)) : ∃ kvs, KDic W a kvs ∧ ∀ H b, RepK W H b qs kvs := by
  unfold dicB at h
  split at h
  · rename_i c es n sl e
    obtain ⟨h1, h2⟩ := He.ba h
    obtain ⟨h3, h4⟩ := He.ba h1
    obtain ⟨h5, h6⟩ := He.ba h4
    obtain ⟨h7, h8⟩ := He.ba h2
    obtain ⟨h9, h10⟩ := He.ba h7
    have ec : c = "dict" := of_decide_eq_true h3
    subst ec
    have es0 : sl = #[] := Array.isEmpty_iff.mp h5
    subst es0
    unfold He.dicW at hk
    rw [e] at hk
    have hb : (decide (("dict" : String) = "dict") && ((#[] : Array (Option Value)).isEmpty && !(a == sysModules))) = true := by
      rw [h6]; rfl
    replace hk : (match (decide (("dict" : String) = "dict") && ((#[] : Array (Option Value)).isEmpty && !(a == sysModules))) with
      | true => some (List.map He.keyOf es.toList)
      | false => none) = some (He.keysIn W.w.params ks) := hk
    rw [hb] at hk
    obtain ⟨kvs, vs, a1, a2, a3, a4, a5, a6⟩ := entB_ok (P := W.P) h8 (He.keysLit_of (Option.some.inj hk))
    have hl : kvs.length ≤ sizeLine := by
      have l1 := congrArg List.length a2
      have l2 := a4.length
      have l3 := congrArg List.length a3
      rw [List.length_map, List.length_map] at l1 l3
      have := of_decide_eq_true h9
      rw [← Array.length_toList, l2, l3, ← l1] at this
      exact this
    have hs : (a == sysModules) = false := by
      cases q : a == sysModules with
      | false => rfl
      | true => rw [q] at h6; cases h6
    refine ⟨kvs, ⟨⟨_, e, rfl⟩, hs, hl, vs, a1, fun hp hin => ⟨_, es, n, hin _ _ e, ⟨rfl, rfl, rfl⟩, rfl, fun x hx => a5 x (by simpa using hx), a4, ?_⟩⟩, fun H b => a6 W H b⟩
    rw [a3]
    exact of_decide_eq_true h10
  · cases h
theorem tupB_ok {W : Wd} {a : Addr} {ps : List PV} (h : tupB W.K a ps = true) : ∀ H b, Rep W H b (.tup ps) (.ref a) := by
  unfold tupB at h
  split at h
  · rename_i c its n sl e
    obtain ⟨h1, h2⟩ := He.ba h
    obtain ⟨h3, h4⟩ := He.ba h1
    have ec : c = "tuple" := of_decide_eq_true h3
    subst ec
    obtain ⟨xs, r, hr⟩ := atomsB_ok h2
    exact fun H b => .tup (.inr ⟨_, its, n, ⟨e, rfl, rfl, of_decide_eq_true h4, r⟩, rfl⟩) (hr W H b)
  · cases h
end Tg
end
section
set_option Elab.async false
set_option linter.all false
set_option autoImplicit false
set_option maxRecDepth 100000
/-! a caught exception of the program: its class, its value -/
namespace Tg
open PySem PySem.Spec PyProof.Rows L2
/-! calls within a try -/
section
variable {X : Cx} {CX : CXT} {k : Nat} {f : Addr} {fd : FuncData} {ps : List Str} {sp : Sp} {E : L2.St → XK} {x : Str} {p pos : Pos} {e : Expr} {es : List Expr} {t : TA}
theorem callGS (gd : X.A.guards = some []) (F : FnG X.prog X.w X.K X.mg X.base CX k f fd ps sp) (hr : Room k X.A) (hg : Gl X x) (hm : X.mg x = some (.ref f))
    (hk : PySem.W.keepIn X.K (.ref f) = true) (hb : Binds X.K fd ps []) (hx : ∀ σ, PassesAt CX X σ (E σ)) (ha : PA X (e :: es) t) (hdb : (x == ("__debug__" : Str)) = false)
    (he : starEach (e :: es) X.env = (false, eval e X.env) :: starEach es X.env) (hpl : (backTo pos (starEach es X.env)).any (·.1) = false) :
    PE X (.Call (.Name x p) (e :: es) [] pos) fun σ H Q => t σ H fun vs H1 => sp vs H1 Q (E σ) := by
  constructor
  intro pins s σ H Q I h
  refine wpAny_Call_Name_kw (ld_glob I hg hm ?_ hdb)
  refine PySem.W.callWith_K (h₀ := X.base) I.ok.mod.kin hk (thn (ha.run pos pins s σ H _ I h) fun us s1 z => (⟨z.choose_spec.choose_spec.1.kIn, ?_⟩ : X.K.In s1.heap ∧ _)) he hpl
  obtain ⟨vs, H1, I1, r, q⟩ := z
  have bd := hb s1 us I1.kIn (by rw [List.append_nil, ← r.length]; exact F.len _ _ _ _ q)
  rw [List.append_nil] at bd
  refine wpAny_call (codeAny_mono (F.run X.A X.stack s1 H1 ⟨us, []⟩ us vs Q (E σ) gd hr I1.env0 bd r q) ?_)
  rintro (er | (u | _ | _ | _)) s' hq
  · exact hx σ pins H1 s1 er s' I1 hq
  all_goals first | exact I1.after hq | exact False.elim hq
end
/-- what the written part says of a class of the program's exceptions, at C; C0 the first one; D another one, b: whether C is D -/
structure ExT (K : PySem.W.Frag) (C0 C : Addr) (DS : List Addr) : Prop where
  xf : XfC K C
  cl : (PySem.W.clsIn K C).isSome = true
  ha : PySem.W.findIn K (.ref C) "__class__" = some (some (.builtin "object.__class__"))
  hn : PySem.W.specialIn K (.builtin "object.__class__") "__get__" = some (some (.builtin "getset_descriptor.__get__"))
  ht : PySem.W.takesIn K (.builtin "object.__class__") = some true
  hm : PySem.W.mroIn K C (.type "object") = some true
  nv : PySem.W.findIn K (.ref C) "value" = some none
  ex : PySem.W.exmOne K (.ref C) (.ref C0) = some true
  is : ∀ D ∈ DS, PySem.W.kitOne K (.ref C) (.ref D) = some (decide (C = D) || decide (D = C0))
theorem exB_ok {K : PySem.W.Frag} {C0 C : Addr} {DS : List Addr} (h : exB K C0 DS C = true) (h0 : exB0 K = true) : ExT K C0 C DS := by
  obtain ⟨h1, h⟩ := He.ba h
  obtain ⟨a1, h1⟩ := He.ba h1
  obtain ⟨a2, a3⟩ := He.ba h1
  obtain ⟨h2, h3⟩ := He.ba h
  obtain ⟨a4, h2⟩ := He.ba h2
  obtain ⟨a5, a6⟩ := He.ba h2
  obtain ⟨b1, b2⟩ := He.ba h0
  exact ⟨xfB_ok a1, a2, He.eqO_ok a3, He.eqO_ok b1, of_decide_eq_true b2, of_decide_eq_true a4, He.eqO_ok a5, of_decide_eq_true a6, fun D hD => of_decide_eq_true (List.all_eq_true.mp h3 D hD)⟩
theorem kitAny_of {K : PySem.W.Frag} {C0 C : Addr} {DS : List Addr} (T : ExT K C0 C DS) : ∀ {Ds : List Addr}, (∀ D ∈ Ds, D ∈ DS) → PySem.W.kitAny K (.ref C) (Ds.map Value.ref) = some (Ds.any fun D => decide (C = D) || decide (D = C0))
  | [], _ => rfl
  | D :: Ds, h => by
    have e1 := T.is D (h D (List.mem_cons_self ..))
    have e2 := kitAny_of T (Ds := Ds) fun D hD => h D (List.mem_cons_of_mem _ hD)
    rw [List.map_cons, List.any_cons]
    show (match PySem.W.kitOne K (.ref C) (.ref D) with
      | some true => some true
      | some false => PySem.W.kitAny K (.ref C) (Ds.map Value.ref)
      | none => none) = _
    rw [e1, e2]
    cases decide (C = D) || decide (D = C0) <;> rfl
section
variable {X : Cx} {a C C0 dd : Addr} {oe : Obj} {pn : List (Addr × Obj)} {DS : List Addr}
/-- the caught exception's object -/
theorem inst_of {pins : List (Addr × Obj)} {σ : L2.St} {H : Hp} {s : Shared} {fs : List (Str × V)} (I : Inv (X.suite a ((a, oe) :: pn)) pins σ H s) (hz : Zc (.ref C) (some dd) oe) (hf : ∃ vs, oe.data = .fields vs) (hd : H dd = some (.xd fs)) :
    ∃ od, PySem.W.InstAt s.heap a oe C (some od) := by
  obtain ⟨ha, _⟩ := I.pin (a, oe) (List.mem_append_left _ List.mem_cons_self)
  obtain ⟨vs, hv⟩ := hf
  have hx : ObjOk X.prog X.w H s.heap dd (.xd fs) := I.hok dd _ hd
  obtain ⟨mA, hns, _⟩ := hx
  obtain ⟨od, ho, _⟩ := lookIn_ns hns
  exact ⟨od, ha, hz.1, by unfold PySem.W.notCls; rw [hv] <;> rfl, by rw [hz.2]; exact ho⟩
theorem kitx_of {od : Obj} (T : ExT X.K C0 C DS) : PySem.W.KitX X.K (.ref a) (.ref C) (fun h => PySem.W.InstAt h a oe C (some od)) :=
  PySem.W.kitx_exc T.cl T.xf.ga T.xf.gg T.xf.exC T.ha T.hn T.ht T.hm
/-- isinstance(e, D) -/
theorem cr_isE (T : ExT X.K C0 C DS) (hz : Zc (.ref C) (some dd) oe) (hf : ∃ vs, oe.data = .fields vs) :
    CallR (X.suite a ((a, oe) :: pn)) (.builtin "isinstance") fun xs H Q => ∃ (D : Addr) (fs : List (Str × V)), xs = [.ref a, .ref D] ∧ D ∈ DS ∧ H dd = some (.xd fs) ∧ Q (.bl (decide (C = D) || decide (D = C0))) H := by
  rintro pins s σ H xs us Q I r ⟨D, fs, rfl, hD, hd, q⟩
  obtain ⟨od, J⟩ := inst_of I hz hf hd
  cases r with
  | cons r1 r =>
    cases r with
    | cons r2 r =>
      cases r
      cases r1
      cases r2
      exact PySem.W.kia_one (kitx_of (od := od) T) I.kIn J (T.is D hD) (fun z => nomatch z) fun tk => ⟨.bl _, H, I.tok tk, rfl, q⟩
theorem vals_refs : ∀ {Ds : List Addr} {us : List Value}, Vals (Ds.map V.ref) us → us = Ds.map Value.ref
  | [], _, .nil => rfl
  | D :: Ds, _, .cons h t => by
    cases h
    rw [vals_refs t]; rfl
/-- isinstance(e, (D, ..)) -/
theorem cr_isET (T : ExT X.K C0 C DS) (hz : Zc (.ref C) (some dd) oe) (hf : ∃ vs, oe.data = .fields vs) :
    CallR (X.suite a ((a, oe) :: pn)) (.builtin "isinstance") fun xs H Q => ∃ (tp : Addr) (Ds : List Addr) (fs : List (Str × V)), xs = [.ref a, .ref tp] ∧ (∀ D ∈ Ds, D ∈ DS) ∧ Rd H tp (.tup (Ds.map V.ref)) ∧ H dd = some (.xd fs) ∧
      Q (.bl (Ds.any fun D => decide (C = D) || decide (D = C0))) H := by
  rintro pins s σ H xs us Q I r ⟨tp, Ds, fs, rfl, hD, ht, hd, q⟩
  obtain ⟨od, J⟩ := inst_of I hz hf hd
  obtain ⟨_, its, rv, o, h1, h2, n, h3⟩ := ht.ok I.hok
  cases r with
  | cons r1 r =>
    cases r with
    | cons r2 r =>
      cases r
      cases r1
      cases r2
      obtain ⟨oc, od', dt, sl⟩ := o
      simp only at h2 h3
      subst h2 h3
      rw [vals_refs rv] at h1
      exact PySem.W.kia_tup (kitx_of (od := od) T) I.kIn J h1 (kitAny_of T hD) (fun z => nomatch z) fun tk => ⟨.bl _, H, I.tok tk, rfl, q⟩
end
end Tg
end
section
set_option Elab.async false
set_option linter.all false
set_option autoImplicit false
set_option maxRecDepth 100000
/-! one look at what the top has left -/
namespace Tg
open PySem PySem.Spec PyProof.Rows L2
/-- the parameters, the names -/
def ckS (N : List Str) (ar : Arguments) (sc : Scope) : Bool := match ar with
  | ⟨[], args, none, [], _, none, _⟩ => ((decide (sc.kind = .function) && !sc.isCoroutine) && (!sc.isGenerator && decide N.Nodup)) &&
      ((decide (N.take (args.map (·.arg)).length = args.map (·.arg)) && ((args.map (·.arg)).all fun x => decide (sc.names.lookup x = some .local) || decide (sc.names.lookup x = some .cell))) &&
        ((sc.names.all fun y => !decide (y.2 = .free)) && decide (args.map (·.arg)).Nodup))
  | _ => false
def ckLit (G : List (Str × GV)) (R : List (Str × Nat)) (N : List Str) (fe : FE) : DV → Bool
  | some (ar, b, sc) => ckS N ar sc && match fe with
    | .code fd => (decide (N.length = fd.nl) && (decide ((ar.args.map (·.arg)).length = fd.np) && decide (fd.np ≤ fd.nl))) && srcS G R fd.body ⟨N, sc, none⟩ (.l b)
    | .ext _ => true
  | none => false
/-- .. of a row of defs -/
def ckLits (G : List (Str × GV)) (R : List (Str × Nat)) : List (List Str) → List FE → List DV → Bool
  | [], [], [] => true
  | N :: Ns, f :: fs, d :: ds => ckLit G R N f d && ckLits G R Ns fs ds
  | _, _, _ => false
theorem ckLits_at {G : List (Str × GV)} {R : List (Str × Nat)} : ∀ {Ns : List (List Str)} {fs : List FE} {ds : List DV} {i : Nat} {f : FE}, ckLits G R Ns fs ds = true → fs[i]? = some f → ∃ N d, Ns[i]? = some N ∧ ds[i]? = some d ∧ ckLit G R N f d = true
  | [], [], [], i, f, _, e => by simp at e
  | N :: Ns, g :: fs, d :: ds, 0, f, h, e => by
    simp at e
    subst e
    exact ⟨N, d, rfl, rfl, (He.ba (show (ckLit G R N g d && ckLits G R Ns fs ds) = true from h)).1⟩
  | N :: Ns, g :: fs, d :: ds, i + 1, f, h, e => by
    obtain ⟨N', d', h1, h2, h3⟩ := ckLits_at (i := i) (He.ba (show (ckLit G R N g d && ckLits G R Ns fs ds) = true from h)).2 (by simpa using e)
    exact ⟨N', d', by simpa using h1, by simpa using h2, h3⟩
  | [], [], _ :: _, _, _, h, _ => by cases h
  | [], _ :: _, _, _, _, h, _ => by cases h
  | _ :: _, [], _, _, _, h, _ => by cases h
  | _ :: _, _ :: _, [], _, _, h, _ => by cases h
/-- what is known of the def's text, its body apart -/
theorem def_ex {K : PySem.W.Frag} {a : Addr} {N : List Str} {ar : Arguments} {b : List Stmt} {sc : Scope} (h : ck1 K a = true) (e : fnV K a = some (ar, b, sc)) (s : ckS N ar sc = true) :
    ∃ (oc : Value) (od : Option Addr) (name qual : Str) (dV kV doc pm cdv ct : Value) (an : Option Addr) (osl : Array (Option Value)),
      K.lookup a = some ⟨oc, od, .func (PySem.W.fnOf name qual ar b sc dV kV doc pm an cdv ct), osl⟩ ∧ PySem.W.codeIn K cdv qual = true ∧ FnScope N (ar.args.map (·.arg)) sc ∧
      PySem.W.keepIn K (.ref a) = true ∧ Binds K (PySem.W.fnOf name qual ar b sc dV kV doc pm an cdv ct) (ar.args.map (·.arg)) [] := by
  obtain ⟨hk, h⟩ := He.ba h
  unfold fnV at e
  cases q : K.lookup a with
  | none => rw [q] at h; cases h
  | some o =>
    rw [q] at h e
    obtain ⟨oc, od, dt, osl⟩ := o
    cases dt with
    | func fd =>
      obtain ⟨name, qual, params, body, scope, gl, cl, dV, kV, doc, pm, an, cdv, ct, bi⟩ := fd
      cases body with
      | stmts b' =>
        simp only at h e
        cases e
        obtain ⟨h0, c1⟩ := He.ba h
        obtain ⟨h01, h02⟩ := He.ba h0
        obtain ⟨h1, h2⟩ := He.ba h01
        obtain ⟨h3, h4⟩ := He.ba h02
        have e1 : dV = .none := by cases dV <;> first | rfl | cases h1
        have e2 : gl = mainGlobals := of_decide_eq_true h2
        have e3 : cl = [] := List.isEmpty_iff.mp h3
        have e4 : bi = builtinsNs := of_decide_eq_true h4
        subst e1 e2 e3 e4
        unfold ckS at s
        split at s
        · rename_i args kd df
          obtain ⟨s0, s⟩ := He.ba s
          obtain ⟨s01, s02⟩ := He.ba s0
          obtain ⟨s1, s2⟩ := He.ba s01
          obtain ⟨s3, s4⟩ := He.ba s02
          obtain ⟨p0, s⟩ := He.ba s
          obtain ⟨p1, p2⟩ := He.ba p0
          obtain ⟨f1, f2⟩ := He.ba s
          exact ⟨oc, od, name, qual, .none, kV, doc, pm, cdv, ct, an, osl, rfl, c1,
            { kind := of_decide_eq_true s1
              co := by simpa using s2
              gen := by simpa using s3
              nd := of_decide_eq_true s4
              pre := of_decide_eq_true p1
              par := fun x hx => by
                have := List.all_eq_true.mp p2 x hx
                rcases Bool.or_eq_true_iff.mp this with q | q
                · exact .inl (of_decide_eq_true q)
                · exact .inr (of_decide_eq_true q)
              nofree := fun y hy q => by
                have := List.all_eq_true.mp f1 y hy
                rw [q] at this
                cases this }, hk, .all fun us hl => bind_plain hl (of_decide_eq_true f2)⟩
        · cases s
      | _ => cases e
    | _ => cases e
theorem gB_ok {W : Wd} {h : Heap} {mg : Str → Option Value} {nf : Nat} {x : Str} {gv : GV} (X : W.K.In h) (Gn : h.Ns mainGlobals mg) (c : gB W.K W.fa nf (x, gv) = true) (d : hsO W.K (x, gv) = hsV W.w (x, gv)) : match gv with
    | .fn i => i < nf ∧ mg x = some (.ref (W.fa i))
    | .val p => ∃ v u, mg x = some u ∧ RelV v u ∧ ∀ H b, Rep W H b p v
    | .none => mg x = none := by
  cases gv with
  | fn i =>
    obtain ⟨c1, c2⟩ := He.ba c
    exact ⟨of_decide_eq_true c1, PySem.W.mg_of X Gn (He.eqO_ok c2)⟩
  | none => exact PySem.W.mg_none_of X Gn (He.eqO_ok c)
  | val p =>
    have atom : ∀ p, (match PySem.W.nsIn W.K mainGlobals x with
        | some (some u) => atomB p u
        | _ => false) = true → ∃ v u, mg x = some u ∧ RelV v u ∧ ∀ H b, Rep W H b p v := by
      intro p c
      split at c
      · rename_i u e
        obtain ⟨v, r, k⟩ := atomB_ok c
        exact ⟨v, u, PySem.W.mg_of X Gn e, r, k W⟩
      · cases c
    cases p with
    | tup ps =>
      have c' : (match PySem.W.nsIn W.K mainGlobals x with
        | some (some (.ref a)) => tupB W.K a ps
        | _ => false) = true := c
      split at c'
      · rename_i a e
        exact ⟨.ref a, .ref a, PySem.W.mg_of X Gn e, rfl, tupB_ok c'⟩
      · cases c'
    | kdc qs =>
      have c' : (match PySem.W.nsIn W.K mainGlobals x with
        | some (some (.ref a)) => dicB W.K a qs
        | _ => false) = true := c
      split at c'
      · rename_i a e
        have d' : He.dicW W.K (He.ga W.K x) = some (He.keysIn W.w.params (qs.map fun q => kStr q.1)) := d
        have ea : He.ga W.K x = a := by unfold He.ga; rw [e]
        rw [ea] at d'
        obtain ⟨kvs, k1, k2⟩ := dicB_ok c' d'
        exact ⟨.ref a, .ref a, PySem.W.mg_of X Gn e, rfl, fun H b => .kdc k1 (k2 H b)⟩
      · cases c'
    | _ => exact atom _ c
theorem hs_at {K : PySem.W.Frag} {w : World} : ∀ {G : List (Str × GV)}, G.map (hsO K) = G.map (hsV w) → ∀ e ∈ G, hsO K e = hsV w e
  | [], _, e, h => by cases h
  | x :: r, q, e, h => by
    rw [List.map_cons, List.map_cons] at q
    injection q with q1 q2
    rcases List.mem_cons.mp h with rfl | h
    · exact q1
    · exact hs_at q2 e h
/-! ### the classes of exceptions -/
theorem clObjB_ok {K : PySem.W.Frag} {C : Addr} (h : clObjB K C = true) : ∃ nm q N bs bm sn sub ab col dd k0 k1 k2 k3 k5, K.lookup C = some (excClassObj nm q C N bs bm true sn sub ab col dd k0 k1 k2 k3 k5 "ValueError.__new__") ∧ PySem.HandSPX.refsVE bm = true := by
  unfold clObjB at h
  split at h
  · rename_i c dd cd sl ho
    obtain ⟨h0, h⟩ := He.ba h
    split at h
    · rename_i C' bm k0 k1 k2 k3 n k5 hm hs
      obtain ⟨h1, h⟩ := He.ba h
      obtain ⟨h2, h3⟩ := He.ba h1
      obtain ⟨h4, h⟩ := He.ba h
      obtain ⟨h5, h6⟩ := He.ba h
      have e0 : c = "type" := of_decide_eq_true h0
      have e1 : C' = C := of_decide_eq_true h2
      have e2 : n = "ValueError.__new__" := of_decide_eq_true h3
      subst e0 e1 e2
      obtain ⟨nm, bs, mro, ns, qn, hd, sn, sub, ab, col, del⟩ := cd
      dsimp only at hm h4 h5
      subst hm
      have e3 : del = false := by simpa using h4
      subst e3 h5
      have hsl : sl = #[k0, k1, k2, k3, some (.builtin "ValueError.__new__"), k5] := by
        obtain ⟨l⟩ := sl
        simp only at hs
        rw [hs]
      subst hsl
      exact ⟨nm, qn, ns, bs, bm, sn, sub, ab, col, dd, k0, k1, k2, k3, k5, ho, h6⟩
    · cases h
  · cases h
theorem clB_ok {K : PySem.W.Frag} {C0 fI C : Addr} (h : clB K C0 fI C = true) : TE.ClTxt K C0 fI C := by
  unfold clB at h
  obtain ⟨h1, h⟩ := He.ba h
  obtain ⟨h2, h⟩ := He.ba h
  obtain ⟨a1, h2⟩ := He.ba h2
  obtain ⟨a2, a3⟩ := He.ba h2
  obtain ⟨h3, h⟩ := He.ba h
  obtain ⟨a4, h3⟩ := He.ba h3
  obtain ⟨a5, a6⟩ := He.ba h3
  obtain ⟨h4, h⟩ := He.ba h
  obtain ⟨a7, a8⟩ := He.ba h4
  obtain ⟨a9, a10⟩ := He.ba h
  exact ⟨clObjB_ok h1, He.eqO_ok a1, He.eqO_ok a2, He.eqO_ok a3, of_decide_eq_true a4, a5, of_decide_eq_true a6, of_decide_eq_true a7, of_decide_eq_true a8, of_decide_eq_true a9, He.eqO_ok a10⟩
theorem iBB_ok {ar : Arguments} {b : List Stmt} (h : iBB ar b = true) : ∃ p1 p2 t k a1 a2 a3 a4 a5 a6 a7 a8 a9 b1, ar = TE.iA p1 p2 ∧ b = TE.iB t k a1 a2 a3 a4 a5 a6 a7 a8 a9 b1 ∧ (a3.endLine == a5.line) = true := by
  unfold iBB at h
  split at h
  · obtain ⟨h1, h2⟩ := He.ba h
    obtain ⟨h3, h4⟩ := He.ba h1
    obtain ⟨h5, h6⟩ := He.ba h3
    obtain ⟨h7, h8⟩ := He.ba h4
    obtain ⟨h9, h10⟩ := He.ba h2
    obtain ⟨h11, h12⟩ := He.ba h9
    obtain ⟨h13, h14⟩ := He.ba h10
    rw [of_decide_eq_true h5, of_decide_eq_true h6, of_decide_eq_true h7, of_decide_eq_true h8, of_decide_eq_true h11, of_decide_eq_true h12, of_decide_eq_true h13]
    exact ⟨_, _, _, _, _, _, _, _, _, _, _, _, _, _, rfl, rfl, h14⟩
  · cases h
theorem scB_ok {sc : Scope} (h : scB sc = true) : sc = TE.iS := by
  unfold scB at h
  obtain ⟨h1, h⟩ := He.ba h
  obtain ⟨h2, h⟩ := He.ba h
  obtain ⟨h3, h5⟩ := He.ba h
  obtain ⟨h3, h4⟩ := He.ba h3
  obtain ⟨kind, names, ig, ic, more⟩ := sc
  have e1 : kind = .function := of_decide_eq_true h1
  have e2 : names = TE.iS.names := of_decide_eq_true h2
  have e3 : ig = false := by simpa using h3
  have e4 : ic = false := by simpa using h4
  have e5 : more = [] := List.isEmpty_iff.mp h5
  subst e1 e2 e3 e4 e5
  rfl
theorem teB_ok {P : Program} {K : PySem.W.Frag} {C0 fI : Addr} (h : teB P K C0 fI = true) : TE.TeTxt P K C0 fI := by
  unfold teB at h
  obtain ⟨h, hz⟩ := He.ba h
  obtain ⟨hz, hop⟩ := He.ba hz
  obtain ⟨htop, hc0⟩ := He.ba hz
  refine ⟨?_, by simpa using htop, Option.isSome_iff_exists.mp hc0, He.eqO_ok hop⟩
  split at h
  · rename_i oc od nm qual params b sc gl cl dV kV doc pm an cdv ct bi osl ho
    obtain ⟨h1, h⟩ := He.ba h
    obtain ⟨h1, h2⟩ := He.ba h1
    obtain ⟨h3, h1⟩ := He.ba h1
    obtain ⟨h4, h5⟩ := He.ba h1
    obtain ⟨h6, h2⟩ := He.ba h2
    obtain ⟨h7, h8⟩ := He.ba h2
    obtain ⟨h9, h10⟩ := He.ba h
    obtain ⟨h11, h12⟩ := He.ba h9
    obtain ⟨p1, p2, t, k, a1, a2, a3, a4, a5, a6, a7, a8, a9, b1, rfl, rfl, hl⟩ := iBB_ok h4
    have e1 := scB_ok h5
    have e2 : gl = mainGlobals := of_decide_eq_true h6
    have e3 : bi = builtinsNs := of_decide_eq_true h10
    have e4 : nm = "__init__" := of_decide_eq_true h3
    have e5 : dV = .none := by cases dV <;> first | rfl | cases h8
    subst e1 e2 e3 e4 e5
    cases cl with
    | nil => cases h7
    | cons xc r =>
      cases r with
      | cons _ _ => cases h7
      | nil =>
        obtain ⟨x, c⟩ := xc
        obtain ⟨e6, g7⟩ := He.ba (show (decide (x = "__class__") && (match K.lookup c with
          | some ⟨_, _, .cell (some (.ref D)), _⟩ => decide (D = C0)
          | _ => false)) = true from h7)
        have e6 : x = "__class__" := of_decide_eq_true e6
        subst e6
        split at g7
        case h_2 => cases g7
        rename_i ol od2 D sl hcel
        have e7 : D = C0 := of_decide_eq_true g7
        subst e7
        cases cdv with
        | ref cc =>
          have g12 : (match K.lookup cc with
            | some ⟨_, _, .fields vs, _⟩ => (match (vs.toList[2]? : Option Value) with
              | some (.str file _) => ((P.main.file : Str) == file)
              | _ => false)
            | _ => false) = true := h12
          split at g12
          · rename_i o2 d2 vs s2 hcc
            split at g12
            · rename_i file tf hv
              exact ⟨oc, od, qual, kV, doc, pm, an, cc, ct, osl, p1, p2, a1, a2, a3, a4, a5, a6, a7, a8, a9, b1, t, k, c, ho, h11, ⟨ol, od2, sl, hcel⟩, hl, o2, d2, vs, s2, file, tf, hcc, by simpa using hv, g12⟩
            · cases g12
          · cases g12
        | _ => cases h12
  · cases h
/-! ### the look -/
def LD.W (L : LD) (w : World) (K : PySem.W.Frag) : Wd := ⟨L.P, w, K, L.fa, L.ca⟩
theorem map_at {α β : Type} {f : α → β} {l : List α} {m : List β} (h : l.map f = m) {i : Nat} {y : β} (e : m[i]? = some y) : ∃ x, l[i]? = some x ∧ f x = y := by
  rw [← h, List.getElem?_map] at e
  exact Option.map_eq_some_iff.mp e
section
variable {L : LD} {w : World} {K : PySem.W.Frag} {h base : Heap} {mg : Str → Option Value}
/-- a def's text, by its number -/
theorem def_at (c : obsV L K = valLD L w) {i : Nat} {N : List Str} {ar : Arguments} {b : List Stmt} {sc : Scope} (e : L.D[i]? = some (some (ar, b, sc))) (s : ckS N ar sc = true) :
    ∃ (oc : Value) (od : Option Addr) (name qual : Str) (dV kV doc pm cdv ct : Value) (an : Option Addr) (osl : Array (Option Value)),
      K.lookup (L.fa i) = some ⟨oc, od, .func (PySem.W.fnOf name qual ar b sc dV kV doc pm an cdv ct), osl⟩ ∧ PySem.W.codeIn K cdv qual = true ∧ FnScope N (ar.args.map (·.arg)) sc ∧
      PySem.W.keepIn K (.ref (L.fa i)) = true ∧ Binds K (PySem.W.fnOf name qual ar b sc dV kV doc pm an cdv ct) (ar.args.map (·.arg)) [] := by
  have c1 : ckB L K = true := congrArg (fun z : AlV => z.1) c
  have c2 : L.A.map (fnV K) = L.D := congrArg (fun z : AlV => z.2.1) c
  obtain ⟨a, ha, hv⟩ := map_at c2 e
  have ea : L.fa i = a := by unfold LD.fa; rw [List.getD_eq_getElem?_getD, ha]; rfl
  rw [ea]
  have k1 := List.all_eq_true.mp (He.ba (He.ba c1).1).1 a (List.mem_of_getElem? ha)
  exact def_ex k1 hv s
theorem code_fact {F : List FE} {Ns : List (List Str)} (c : obsV L K = valLD L w) (hl : ckLits L.G L.R Ns F L.D = true) {i : Nat} {fd : FD} (e : F[i]? = some (.code fd)) : FnFact (L.W w K) mg base L.G L.R L.nf i (.code fd) := by
  obtain ⟨N, d, h1, h2, h3⟩ := ckLits_at hl e
  cases d with
  | none => cases h3
  | some z =>
    obtain ⟨ar, b, sc⟩ := z
    obtain ⟨s1, s2⟩ := He.ba (show (ckS N ar sc && _) = true from h3)
    obtain ⟨l1, s2⟩ := He.ba s2
    obtain ⟨l1, l2⟩ := He.ba l1
    obtain ⟨l2, l3⟩ := He.ba l2
    obtain ⟨oc, od, name, qual, dV, kV, doc, pm, cdv, ct, an, osl, q1, q2, q3, q4, q5⟩ := def_at c h2 s1
    exact ⟨oc, od, name, qual, ar, b, sc, dV, kV, doc, pm, cdv, ct, an, osl, N, _, q1, q2, q3, q4, q5, of_decide_eq_true l1, of_decide_eq_true l2, of_decide_eq_true l3, s2⟩
theorem tops_of (c : obsV L K = valLD L w) (X : K.In h) (Gn : h.Ns mainGlobals mg) : Tops (L.W w K) mg base L.G L.R L.nf where
  G := fun x gv hm => by
    have c1 : ckB L K = true := congrArg (fun z : AlV => z.1) c
    have c3 : L.G.map (hsO K) = L.G.map (hsV w) := congrArg (fun z : AlV => z.2.2) c
    have := gB_ok (W := L.W w K) X Gn (List.all_eq_true.mp (He.ba (He.ba (He.ba c1).1).2).1 _ hm) (hs_at c3 _ hm)
    cases gv <;> exact this
  rz := fun Y hP hw hK hmg hbase hc hr _ x cc hm p pos e te hg hd hs he => by
    have c1 : ckB L K = true := congrArg (fun z : AlV => z.1) c
    obtain ⟨c4, c5⟩ := He.ba (He.ba c1).2
    obtain ⟨c5, c6⟩ := He.ba c5
    have hc4 := List.all_eq_true.mp c4 _ hm
    obtain ⟨d1, d2⟩ := He.ba (show (He.eqO _ _ && clB K L.C0 L.fI (L.ca cc)) = true from hc4)
    have t1 := teB_ok c5
    have t2 := clB_ok d2
    have eP : Y.prog = L.P := hP
    have eK : Y.K = K := hK
    rw [← eP, ← eK] at t1
    rw [← eK] at t2
    exact pmk_te t1 t2 (k := 2) hr (by rw [hmg]; exact PySem.W.mg_of X Gn (He.eqO_ok d1)) (by rw [hmg]; exact PySem.W.mg_none_of X Gn (He.eqO_ok c6)) hg hd hs he
theorem ex_at (c : obsV L K = valLD L w) {C : Addr} (hC : C ∈ L.CA) : ExT K L.C0 C L.CA := by
  have c1 : ckB L K = true := congrArg (fun z : AlV => z.1) c
  obtain ⟨h0, h1⟩ := He.ba (He.ba (He.ba (He.ba c1).1).2).2
  exact exB_ok (List.all_eq_true.mp h1 C hC) h0
end
end Tg
end
section
set_option Elab.async false
set_option linter.all false
set_option autoImplicit false
set_option maxRecDepth 100000
set_option maxHeartbeats 2000000
/-! a law's end: from the promise of its def, at rest -/
namespace Tg
open PySem PySem.Spec PyProof.Rows L2
/-- what stands when the law is called -/
structure EndIn (K : PySem.W.Frag) (mg mb : Str → Option Value) (a : Addr) (vs : List Value) (ns : List Int) (s : Shared) : Prop where
  kin : K.In s.heap
  glob : s.heap.Ns mainGlobals mg
  blt : s.heap.Ns builtinsNs mb
  bb : ∀ x : Str, x ≠ "__name__" → mb x = bootBuiltins x
  lim : s.heap.NoLimit
  gens : s.gens = #[]
  at_ : s.heap.get? a = some { cls := .type "list", data := .seq vs.toArray }
  isI : IntsAre vs ns
  len : ns.length ≤ sizeLine
/-- the script: fixed, unless it is the top's own -/
def scriptH (K : PySem.W.Frag) (a : Addr) (vs : List Value) (ns : List Int) : Hp := fun b =>
  if b = a ∧ K.lookup a = none then some (.frz { cls := .type "list", data := .seq vs.toArray } (.lst (ns.map V.int))) else none
section
variable {K : PySem.W.Frag} {mg mb : Str → Option Value} {a : Addr} {vs : List Value} {ns : List Int} {s : Shared}
theorem scriptH_of {b : Addr} {u : HO} (h : scriptH K a vs ns b = some u) : b = a ∧ K.lookup a = none ∧ u = .frz { cls := .type "list", data := .seq vs.toArray } (.lst (ns.map V.int)) := by
  unfold scriptH at h
  split at h
  · rename_i c
    exact ⟨c.1, c.2, (Option.some.inj h).symm⟩
  · cases h
theorem EndIn.lx (I : EndIn K mg mb a vs ns s) : LX K (scriptH K a vs ns) a (ns.map V.int) := by
  cases hk : K.lookup a with
  | none => exact .inl (.inr ⟨_, if_pos ⟨rfl, hk⟩⟩)
  | some o =>
    have e := I.kin a o hk
    rw [I.at_] at e
    cases e
    exact .inr ⟨vs, _, hk, by have := I.isI.length; have := I.len; omega, vals_ints I.isI⟩
theorem EndIn.hok (I : EndIn K mg mb a vs ns s) {P : Program} {w : World} : HOk P w (scriptH K a vs ns) s.heap := fun b u z => by
  obtain ⟨rfl, _, rfl⟩ := scriptH_of z
  exact ⟨I.at_, by rw [List.length_map]; exact I.len, vs, _, vals_ints I.isI, I.at_⟩
/-- what is not the script is there for the module too -/
theorem EndIn.free (I : EndIn K mg mb a vs ns s) {b : Addr} {o : Obj} (e : s.heap.get? b = some o) (d : (∃ es n, o.data = .dict es n) ∨ K.lookup b = some o) : (hidT s.heap (scriptH K a vs ns)).get? b = some o := by
  refine hidT_get e ?_
  cases q : scriptH K a vs ns b with
  | none => rfl
  | some u =>
    obtain ⟨rfl, hk, _⟩ := scriptH_of q
    rcases d with ⟨es, n, d⟩ | d
    · rw [I.at_] at e
      cases e
      cases d
    · rw [hk] at d
      cases d
theorem EndIn.nsK (I : EndIn K mg mb a vs ns s) {b : Addr} {m : Str → Option Value} (h : s.heap.Ns b m) : (hidT s.heap (scriptH K a vs ns)).Ns b m := by
  obtain ⟨o, es, n, e, d, r⟩ := h
  exact ⟨o, es, n, I.free e (.inl ⟨es, n, d⟩), d, r⟩
theorem EndIn.kin' (I : EndIn K mg mb a vs ns s) : K.In (hidT s.heap (scriptH K a vs ns)) := fun b o e => I.free (I.kin b o e) (.inr e)
theorem EndIn.env (I : EndIn K mg mb a vs ns s) {P : Program} {w : World} : Env0 P w K mg (hidT s.heap (scriptH K a vs ns)) callerA [] s (scriptH K a vs ns) := by
  obtain ⟨mc, l1, l2⟩ := I.lim
  have md : Mod K mg (hidT s.heap (scriptH K a vs ns)) := ⟨I.kin', I.nsK I.glob, ⟨mb, I.nsK I.blt, I.bb⟩, ⟨mc, I.nsK l1, l2⟩⟩
  exact { frames := rfl, mod := md, bs := fun b o e => of_hidT e, bsz := Nat.le_of_eq (hidT_size _ _), funs := trivial, frf := (fun b hb => nomatch hb), hok := I.hok, bare := .of_eq I.gens }
/-- the law is called -/
theorem EndIn.run (I : EndIn K mg mb a vs ns s) {P : Program} {w : World} {CX : CXT} {k : Nat} {fa : Addr} {fd : FuncData} {ps : List Str} {sp : Sp} (hr : Room k callerA) (F : FnG P w K mg (hidT s.heap (scriptH K a vs ns)) CX k fa fd ps sp)
    (hbind : Binds K fd ps []) (hsp : sp [.ref a] (scriptH K a vs ns) (fun v _ => v = .bl true) fun _ _ _ => False) (hCX : ∀ e s', CX [] (scriptH K a vs ns) s (fun _ _ _ => False) e s' → False) :
    codeAny (model P w) callerA (.call (.ref fa) ⟨[.ref a], []⟩) (fun r s' => r = .ok (.ret (.bool true)) ∧ OldK s.heap s'.heap ∧ s'.os = s.os ∧ AllBare s'.gens) s := by
  have bd := hbind s [.ref a] I.kin (F.len _ _ _ _ hsp)
  have go := F.run callerA [] s (scriptH K a vs ns) ⟨[.ref a], []⟩ [.ref a] [.ref a] _ _ rfl hr I.env bd (.cons rfl .nil) hsp
  refine codeAny_mono go fun r s' h => ?_
  cases r with
  | error e => exact (hCX e s' h).elim
  | ok fl =>
    cases fl with
    | ret u =>
      obtain ⟨v, H', os, bare, un, hok', rv, rfl⟩ := h
      cases (show u = Value.bool true from rv)
      refine ⟨rfl, OldK.of_keep fun b o e => ?_, os, bare⟩
      cases q : scriptH K a vs ns b with
      | none => exact un.keep b o e q (fun z => nomatch z) (fun z => nomatch z)
      | some u =>
        obtain ⟨rfl, _, rfl⟩ := scriptH_of q
        have e2 := (hok' b _ (un.frzs b _ _ q)).1
        rw [I.at_] at e
        rw [e2]
        exact e
    | _ => exact False.elim h
end
/-- a law: what the head tells gives the written part and the promise over each base -/
theorem walkG {l : PySem.W.OpenLaw} {n k : Nat} {q : Program} {loose : List Str} {XP : (Str → Option Value) → Heap → Prop} {YP : World → Heap → Prop} {d : DefRec} {CX : World → CXT}
    (hn : l.most = some n) (hn2 : n ≤ sizeLine) (hdf : d.params.defaults = []) (hr : Room k callerA)
    (F : ∀ (w : World) (mg : Str → Option Value) (fa : Addr) (h : Heap), YP w h → h.Ns mainGlobals mg → mg d.name = some (.ref fa) →
      ∃ (K : PySem.W.Frag) (sp : Sp), K.In h ∧ (∀ (a : Addr) (H : Hp) (ns : List Int), ns.length ≤ n → LX K H a (ns.map V.int) → sp [.ref a] H (fun v _ => v = .bl true) fun _ _ _ => False) ∧
        ∀ base : Heap, K.In base → base.Ns mainGlobals mg → ∃ fd ps, FnG l.prog w K mg base (CX w) k fa fd ps sp ∧ Binds K fd ps [])
    (hCX : ∀ (w : World) (H : Hp) (s : Shared) (e : Value) (s' : Shared), CX w [] H s (fun _ _ _ => False) e s' → False) :
    PySem.W.WalkO q loose XP YP l.row.toRowW d [] (fun f vs => PySem.call f vs) := by
  refine Att.attach_call hn hdf fun w s₀ s₁ mg mb fa o pm cd doc a vs ns G Y ho hd hcd hmg hobj hints hlen hg => ?_
  obtain ⟨K, sp, KX, hsp, hF⟩ := F w mg fa _ Y G.T.g hmg
  have I : EndIn K mg mb a vs ns s₁ := ⟨KX, G.T.g, G.T.b, G.T.builtins, G.T.nolimit, hg, hobj, hints, Nat.le_trans hlen hn2⟩
  obtain ⟨fd, ps, h1, h2⟩ := hF _ I.kin' (I.nsK G.T.g)
  exact I.run hr h1 h2 (hsp a _ ns hlen I.lx) fun e s' => hCX w _ s₁ e s'
theorem reps_ints {W : Wd} {H : Hp} {b : Bn} : ∀ ns : List Int, Reps W H b (ns.map PV.int) (ns.map V.int)
  | [] => .nil
  | n :: ns => .cons (.int n) (reps_ints ns)
/-- .. and the promise by the meaning of its def -/
theorem walkL {l : PySem.W.OpenLaw} {L : LD} {F : List FE} {Ns : List (List Str)} {n m i : Nat} {q : Program} {loose : List Str} {XP : (Str → Option Value) → Heap → Prop} {d : DefRec}
    (hn : l.most = some n) (hn2 : n ≤ sizeLine) (hdf : d.params.defaults = []) (hr : Room (m + 3) callerA) (hP : L.P = l.prog) (hnf : L.nf = F.length) (hl : ckLits L.G L.R Ns F L.D = true)
    (hext : ∀ (w : World) (mg : Str → Option Value) (base : Heap) (K : PySem.W.Frag) (j : Nat) (f : CallT → List PV → Store → Rs PV), F[j]? = some (.ext f) → obsV L K = valLD L w → K.In base → base.Ns mainGlobals mg →
      FnFact (L.W w K) mg base L.G L.R L.nf j (.ext f))
    (hd : (d.name, GV.fn i) ∈ L.G) (plain : ∀ ns : List Int, ns.length ≤ n → ∃ S, callN L.G L.R F m i [.lst (ns.map PV.int)] [] = .ok (.bl true) S) :
    PySem.W.WalkO q loose XP (hookV L).says l.row.toRowW d [] (fun f vs => PySem.call f vs) := by
  refine walkG (k := m + 3) (CX := L2.CX l.prog) hn hn2 hdf hr (fun w mg fa h Y G hmg => ?_) (fun w H s e s' z => ?_)
  · obtain ⟨K, KX, c⟩ := Y
    have T0 := tops_of (base := h) c KX G
    obtain ⟨hi, hfa⟩ : i < L.nf ∧ mg d.name = some (.ref (L.fa i)) := T0.G _ _ hd
    rw [hmg] at hfa
    cases hfa
    refine ⟨K, spOf (L.W w K) (callN L.G L.R F m) i, KX, fun a H ns hlen hx => ?_, fun base hK hG => ?_⟩
    · obtain ⟨S, e⟩ := plain ns hlen
      refine ⟨[.lst (ns.map PV.int)], [], ⟨fun _ => False, []⟩, .cons (.lst ?_ (reps_ints ns)) .nil, ⟨rfl, List.nodup_nil, fun i a ps h => by simp at h⟩, fun a h => ?_, ?_⟩
      · exact hx.imp (fun h => ⟨fun z => z.elim id (fun z => nomatch z), h⟩) id
      · exact h.elim False.elim (fun z => nomatch z)
      · rw [e]
        intro H' b' _ x r
        cases r
        rfl
    · have T := tops_of (base := base) c hK hG
      rw [hnf] at T hi hext
      have ok := fns_ok T (fun j fe hj => ?_) m i hi
      · obtain ⟨fd, ps, h1, _, h3⟩ := ok
        rw [← hP]
        exact ⟨fd, ps, h1, h3⟩
      · cases fe with
        | code fd =>
          have := code_fact (mg := mg) (base := base) c hl hj
          rw [hnf] at this
          exact this
        | ext f => exact hext w mg base K j f hj c hK hG
  · obtain ⟨_, _, _, _, _, _, _, _, _, _, _, _, z⟩ := z
    exact z
end Tg
end
section
set_option Elab.async false
set_option linter.all false
set_option autoImplicit false
set_option maxRecDepth 100000
/-! the body of a try: one value, by a call that may raise -/
namespace Tg
open PySem PySem.Spec PyProof.Rows L2
/-- nothing is raised -/
def noX (d : Den) : Den := fun ρ S => match d ρ S with
  | .ok v S' => .ok v S'
  | _ => .bad
inductive CL where
  | call (j : Nat) (r : CE) | ite (t : CE) (a b : CL)
inductive CB where
  | asg (e : CL) | iff (t : CE) (a b : CB)
def evL (P : Px) : CL → Den
  | .call j r => dCall P.C j (noX (ev P r))
  | .ite t a b => dIte (noX (ev P t)) (evL P a) (evL P b)
def evB (P : Px) : CB → Den
  | .asg e => evL P e
  | .iff t a b => dIte (noX (ev P t)) (evB P a) (evB P b)
def srcL (G : List (Str × GV)) : CL → Kx → Expr → Bool
  | .call i r, k, n => match n with
    | .Call (.Name x _) (e :: es) [] _ => glo k.sc x && (okName x && ((G.any fun p => p.1 == x && (match p.2 with
      | .fn j => j == i
      | _ => false)) && (src G r k (.a (e :: es)) && noStar (e :: es))))
    | _ => false
  | .ite t a b, k, n => match n with
    | .IfExp x y z _ => src G t k (.t x) && (srcL G a k y && srcL G b k z)
    | _ => false
def srcB (G : List (Str × GV)) (i : Nat) : CB → Kx → List Stmt → Bool
  | .asg e, k, n => match n with
    | [.Assign [.Name y _] x _] => setIs k i y && (srcL G e k x && noComp x)
    | _ => false
  | .iff t a b, k, n => match n with
    | [.If x l1 l2 _] => src G t k (.t x) && (srcB G i a k l1 && srcB G i b k l2)
    | _ => false
section
variable {W : Wd} {P : Px} {kn : Nat} {k : Kx} {X : Cx} {g : Gh} {Wi : WX}
theorem noX_fin {α : Type} {E : XK} {Q : α → Store → Hp → Bn → Prop} {d : Den} {ρ : Env} {S : Store} {b : Bn} {H : Hp} {κ : PV → Store → Rs α} (h : fin W E Q b H ((noX d ρ S).bnd κ)) :
    ∃ v S1, d ρ S = .ok v S1 ∧ fin W E Q b H (κ v S1) := by
  unfold noX at h
  cases q : d ρ S with
  | ok v S1 => rw [q] at h; exact ⟨v, S1, rfl, h⟩
  | exc c v S1 => rw [q] at h; exact h.elim
  | bad => rw [q] at h; exact h.elim
/-- the reading of a value that may raise: what is wished of an exception may look at the slots -/
def tL (W : Wd) (g : Gh) (Wi : WX) (d : Den) : TE := fun σ H Q => ∃ ρ S b O, EnvOk W g ρ S b O σ H ∧ fin W (WE Wi σ) (fun v _ H' b' => ∀ x, Rep W H' b' v x → Q x H') b H (d ρ S)
theorem tL_test {dt : Den} {da db : Den} {σ : L2.St} {H : Hp} {Q : VK} (h : tL W g Wi (dIte (noX dt) da db) σ H Q) : tEt W g XK0 dt σ H fun c H1 => if c = true then tL W g Wi da σ H1 Q else tL W g Wi db σ H1 Q := by
  obtain ⟨ρ, S, b, O, e, f⟩ := h
  obtain ⟨v, S1, q, f⟩ := noX_fin (κ := fun v S1 => tst v fun c => if c = true then da ρ S1 else db ρ S1) f
  refine ⟨ρ, S, b, O, e, ?_⟩
  rw [q]
  intro H1 b1 d
  unfold tst at f
  cases ht : truth v with
  | none => rw [ht] at f; exact f.elim
  | some c =>
    rw [ht] at f
    refine ⟨c, rfl, ?_⟩
    cases c with
    | true => exact ⟨ρ, S1, b1, O, e.adv d, fin.adv d f⟩
    | false => exact ⟨ρ, S1, b1, O, e.adv d, fin.adv d f⟩
theorem sndL (o : XOk W P kn k XK0 X) (tk : Takes X Wi) : ∀ (c : CL) (x : Expr), srcL P.G c k x = true → PE X x (tL W g Wi (evL P c)) := by
  intro c
  induction c with
  | call i r =>
    intro x h
    simp only [srcL] at h
    split at h
    · rename_i x p e es pos
      simp only [Bool.and_eq_true] at h
      obtain ⟨h1, h2, h3, h4, h5⟩ := h
      obtain ⟨⟨y, gv⟩, hm, hy⟩ := List.any_eq_true.mp h3
      simp only [Bool.and_eq_true, beq_iff_eq] at hy
      obtain ⟨rfl, hj⟩ := hy
      cases gv with
      | fn j =>
        obtain rfl : j = i := by simpa using hj
        obtain ⟨hi, hmg⟩ := o.G _ _ hm
        obtain ⟨fd, ps, F, hk, hb⟩ := o.fns j hi
        refine peI (callGS (E := WE Wi) o.gd F o.room (o.gl h1) hmg hk hb (fun σ => passAt tk σ) (snd r k _ h4 XK0 X o g) (okN_of h2).1 (star_cons (by simpa [noStar] using (by simpa [noStar] using h5 : _ ∧ _).1)) (plainS (es := es) (by simpa [noStar] using (by simpa [noStar] using h5 : _ ∧ _).2))) ?_
        rintro σ H Q ⟨ρ, S, b, O, e1, f⟩
        obtain ⟨vs, S1, q, f⟩ := noX_fin (κ := fun vs S1 => P.C j (asL vs) S1) f
        refine ⟨ρ, S, b, O, e1, ?_⟩
        rw [q]
        intro H1 b1 d xs rs
        exact ⟨asL vs, S1, b1, rs, d.st, (e1.adv d).tr, fin.adv d f⟩
      | _ => cases hj
    · cases h
  | ite t a b iha ihb =>
    intro x h
    simp only [srcL] at h
    split at h
    · rename_i x y z pos
      simp only [Bool.and_eq_true] at h
      obtain ⟨h1, h2, h3⟩ := h
      refine peI (pe_ifExp (snd t k _ h1 XK0 X o g).1 (iha _ h2) (ihb _ h3)) fun σ H Q h => ?_
      exact tL_test h
    · cases h
/-- .. and is stored -/
def tB (W : Wd) (g : Gh) (Wi : WX) (i : Nat) (d : Den) : TS := fun D σ H => tL W g Wi d σ H fun x H' => D.nx (σ.set i (some x)) H'
theorem sndB (o : XOk W P kn k XK0 X) (tk : Takes X Wi) (i : Nat) : ∀ (c : CB) (l : List Stmt), srcB P.G i c k l = true → PSs X l (tB W g Wi i (evB P c)) := by
  intro c
  induction c with
  | asg e =>
    intro l h
    simp only [srcB] at h
    split at h
    · rename_i y p x pos
      simp only [Bool.and_eq_true] at h
      obtain ⟨h1, h2, h3⟩ := h
      obtain ⟨q1, q2, q3⟩ := o.set h1
      exact pss_one (psI (ps_set o.nd q1 q2 (sndL o tk e x h2) (noSwap h3) q3) fun D σ H h => h)
    · cases h
  | iff t a b iha ihb =>
    intro l h
    simp only [srcB] at h
    split at h
    · rename_i x l1 l2 pos
      simp only [Bool.and_eq_true] at h
      obtain ⟨h1, h2, h3⟩ := h
      refine pss_one (psI (ps_if (snd t k _ h1 XK0 X o g).1 (iha _ h2) (ihb _ h3)) fun D σ H h => ?_)
      exact tL_test h
    · cases h
end
end Tg
end
section
set_option Elab.async false
set_option linter.all false
set_option autoImplicit false
set_option maxRecDepth 100000
/-! found = None; try: (a value); except T as e: al = isinstance(e, U) and not isinstance(e, (..)); found = s1 if al and repr(e.value) == repr(text) else s2; return found -/
namespace Tg
open PySem PySem.Spec PyProof.Rows L2
section
variable {X : Cx} {pos : Pos}
/-- names of classes -/
theorem pa_refs {xs : List Str} {Ds : List Addr} {es : List Expr} (h : Paired (fun (e : Expr) (q : Str × Addr) => (∃ p, e = .Name q.1 p) ∧ Gl X q.1 ∧ X.mg q.1 = some (.ref q.2) ∧ (q.1 == ("__debug__" : Str)) = false) es (xs.zip Ds)) (hl : xs.length = Ds.length) :
    PA X es fun σ H Q => Q (Ds.map V.ref) H := by
  induction Ds generalizing xs es with
  | nil =>
    rw [List.zip_nil_right] at h
    cases h
    exact pa_nil
  | cons D Ds ih =>
    cases xs with
    | nil => cases hl
    | cons x xs =>
      rw [List.zip_cons_cons] at h
      cases h with
      | cons h1 h2 =>
        obtain ⟨⟨p, rfl⟩, hg, hm, hd⟩ := h1
        refine paI (pa_cons (pe_glob (v := .ref D) hg hm rfl hd) (ih h2 (by simpa using hl)) (star_cons rfl)) fun σ H Q q => ?_
        exact q
end
/-- what the suite does -/
def H5 (K : PySem.W.Frag) (a C Cu dd : Addr) (ie ia fo it : Nat) (s1 s2 : Str) : TS := fun D σ H => ∃ z tx, ia < σ.length ∧ σ[ie]? = some (some (.ref a)) ∧ σ[it]? = some (some tx) ∧ H dd = some (.xd [("value", z)]) ∧ ∀ H', (∀ b u, H b = some u → H' b = some u) →
  if C = Cu then (∃ d1 d2, Dp K H' z d1 ∧ Dp K H' tx d2 ∧ showOk d1 = true ∧ showOk d2 = true ∧ D.nx ((σ.set ia (some (.bl true))).set fo (some (.str (if d1.shown = d2.shown then s1 else s2)))) H')
  else D.nx ((σ.set ia (some (.bl false))).set fo (some (.str s2))) H'
section
variable {X : Cx} {a C C0 Cu dd : Addr} {oe : Obj} {pn : List (Addr × Obj)} {DS : List Addr} {W : Wd}
theorem lk_set {σ : L2.St} {i j : Nat} {v : Option V} (h : i ≠ j) : (σ.set i v)[j]? = σ[j]? := List.getElem?_set_ne h
theorem suite5 {ie ia fo it : Nat} {e al f t u : Str} {s1 s2 : Str} {xs : List Str} {Ds : List Addr} {es : List Expr} {k1 k2 kt : Nat} {q1 q2 q3 q4 q5 q6 q7 q8 q9 q10 q11 q12 q13 q14 q15 q16 q17 q18 q19 q20 q21 q22 q23 q24 q25 q26 q27 : Pos}
    (T : ExT X.K C0 C DS) (hz : Zc (.ref C) (some dd) oe) (hf : ∃ vs, oe.data = .fields vs) (gd : X.A.guards = some []) (hun : X.A.units + 70 < cLine) (hN : X.N.Nodup)
    (ve : X.N[ie]? = some e ∧ Vis X.env.scope e ∧ (e == ("__debug__" : Str)) = false ∧ (e == ("__classdict__" : Str)) = false)
    (vt : X.N[it]? = some t ∧ Vis X.env.scope t ∧ (t == ("__debug__" : Str)) = false ∧ (t == ("__classdict__" : Str)) = false)
    (va : X.N[ia]? = some al ∧ Vis X.env.scope al ∧ (al == ("__debug__" : Str)) = false ∧ (al == ("__classdict__" : Str)) = false)
    (sa : X.N[ia]? = some al ∧ L2.Loc X.env.scope al ∧ (X.fn al = true ∨ X.env.scope.names.lookup al = some .local))
    (sf : X.N[fo]? = some f ∧ L2.Loc X.env.scope f ∧ (X.fn f = true ∨ X.env.scope.names.lookup f = some .local))
    (gi : Gl X "isinstance") (mi : X.mg "isinstance" = none) (gr : Gl X "repr") (mr : X.mg "repr" = none)
    (gu : Gl X u) (mu : X.mg u = some (.ref Cu)) (du : (u == ("__debug__" : Str)) = false) (hCu : Cu ∈ DS) (hCu0 : Cu ≠ C0)
    (hes : Paired (fun (e : Expr) (q : Str × Addr) => (∃ p, e = .Name q.1 p) ∧ Gl X q.1 ∧ X.mg q.1 = some (.ref q.2) ∧ (q.1 == ("__debug__" : Str)) = false) es (xs.zip Ds)) (hlx : xs.length = Ds.length) (hDs : ∀ D ∈ Ds, D ∈ DS ∧ D ≠ Cu ∧ D ≠ C0) (hlen : Ds.length ≤ sizeLine)
    (n1 : ie ≠ ia) (n2 : it ≠ ia) :
    PSs (X.suite a ((a, oe) :: pn)) [.Assign [.Name al q1] (.BoolOp .And [.Call (.Name "isinstance" q2) [.Name e q3, .Name u q4] [] q5, .UnaryOp .Not (.Call (.Name "isinstance" q6) [.Name e q7, .Tuple es kt q8] [] q9) q10] q11) q12,
      .Assign [.Name f q13] (.IfExp (.BoolOp .And [.Name al q14, .Compare (.Call (.Name "repr" q15) [.Attribute (.Name e q16) "value" q17] [] q18) [.Eq] [.Call (.Name "repr" q19) [.Name t q20] [] q21] q22] q23) (.Constant (.str s1) k1 q24) (.Constant (.str s2) k2 q25) q26) q27]
      (H5 X.K a C Cu dd ie ia fo it s1 s2) := by
  have pve : ∀ p, PE (X.suite a ((a, oe) :: pn)) (.Name e p) (tVar ie) := fun p => pe_var ve.1 ve.2.1 ve.2.2.1 ve.2.2.2
  have isU := pe_callB (X := X.suite a ((a, oe) :: pn)) (p := q2) (pos := q5) (cr_isE (X := X) (pn := pn) (oe := oe) (a := a) (dd := dd) T hz hf) gi mi (by decide +kernel) (pa_cons (pve q3) (pa_cons (pe_glob (pos := q4) (v := .ref Cu) gu mu rfl du) pa_nil (star_cons rfl)) (star_cons rfl)) (by decide) (by decide) (star_cons rfl) rfl
  have isT := pe_callB (X := X.suite a ((a, oe) :: pn)) (p := q6) (pos := q9) (cr_isET (X := X) (pn := pn) (oe := oe) (a := a) (dd := dd) T hz hf) gi mi (by decide +kernel) (pa_cons (pve q7) (pa_cons (pe_tup (x1 := kt) (pos := q8) (pa_refs (X := X.suite a ((a, oe) :: pn)) hes hlx)) pa_nil (star_cons rfl)) (star_cons rfl)) (by decide) (by decide) (star_cons rfl) rfl
  have st1 := ps_set (X := X.suite a ((a, oe) :: pn)) (pos' := q1) (pos := q12) (i := ia) hN sa.1 sa.2.1 (pe_and (pos := q11) isU (pe_one (pe_not (pos := q10) isT))) (noSwap rfl) sa.2.2
  have val := pe_xf (X := X) (pn := pn) (pos := q17) T.xf T.nv hz hf (pve q16) (base_of rfl)
  have rp : CallR (X.suite a ((a, oe) :: pn)) (.builtin "repr") (r_repr (⟨X.prog, X.w, X.K, fun _ => 0, fun _ => 0⟩ : Wd)) := cr_repr (W := ⟨X.prog, X.w, X.K, fun _ => 0, fun _ => 0⟩) rfl gd hun
  have r1 := pe_callB (p := q15) (pos := q18) rp gr mr (by decide +kernel) (pa_cons val pa_nil (star_cons rfl)) (by decide) (by decide) (star_cons rfl) rfl
  have r2 := pe_callB (p := q19) (pos := q21) rp gr mr (by decide +kernel) (pa_cons (pe_var (pos := q20) (X := X.suite a ((a, oe) :: pn)) vt.1 vt.2.1 vt.2.2.1 vt.2.2.2) pa_nil (star_cons rfl)) (by decide) (by decide) (star_cons rfl) rfl
  have tst := (pw_and (pos := q23) (pt_val (pe_var (pos := q14) (X := X.suite a ((a, oe) :: pn)) va.1 va.2.1 va.2.2.1 va.2.2.2)) (pw_and1 (pt_cmpR (pos := q22) op_eq r1 r2 (behind_of rfl)))).pt
  have st2 := ps_set (X := X.suite a ((a, oe) :: pn)) (pos' := q13) (pos := q27) (i := fo) hN sf.1 sf.2.1 (pe_ifExp (pos := q26) tst (pe_str (j := k1) (pos := q24) (x := s1)) (pe_str (j := k2) (pos := q25) (x := s2))) (noSwap rfl) sf.2.2
  refine pssI (pss_cons st1 (pss_one st2)) ?_
  rintro D σ H ⟨z, tx, lia, h1, h2, h3, h4⟩
  -- the second statement
  have second : ∀ (b : Bool) (H' : Hp), (∀ b u, H b = some u → H' b = some u) → (C = Cu ↔ b = true) → tAsg (tIf (tAnd (L2.tB (tVar ia)) (tTest (tOp rEq (tCB (r_repr (⟨X.prog, X.w, X.K, fun _ => 0, fun _ => 0⟩ : Wd)) (tCons (tXf a (.ref C) (some dd) C "value" (tVar ie)) tNil)) (tCB (r_repr (⟨X.prog, X.w, X.K, fun _ => 0, fun _ => 0⟩ : Wd)) (tCons (tVar it) tNil))))) (tC (.str s1)) (tC (.str s2))) (gName fo) D (σ.set ia (some (.bl b))) H' := by
    intro b H' hg hb
    have q := h4 H' hg
    refine ⟨.bl b, List.getElem?_set_self lia, b, rfl, ?_⟩
    cases b with
    | false =>
      rw [if_neg (fun z => by have := hb.mp z; cases this)] at q
      exact q
    | true =>
      rw [if_pos (hb.mpr rfl)] at q
      obtain ⟨d1, d2, e1, e2, o1, o2, q⟩ := q
      refine ⟨.ref a, by rw [lk_set (Ne.symm n1)]; exact h1, rfl, rfl, dd, _, z, rfl, hg _ _ h3, rfl, z, d1, rfl, e1, o1, tx, by rw [lk_set (Ne.symm n2)]; exact h2, tx, d2, rfl, e2, o2, rfl, _, rfl, ?_⟩
      by_cases hs : d1.shown = d2.shown
      · rw [if_pos hs] at q
        have e3 : decide (V.str d1.shown = V.str d2.shown) = true := by rw [hs]; exact decide_eq_true rfl
        rw [e3]
        exact q
      · rw [if_neg hs] at q
        have e3 : decide (V.str d1.shown = V.str d2.shown) = false := decide_eq_false fun z => hs (V.str.inj z)
        rw [e3]
        exact q
  refine ⟨.ref a, h1, Cu, [("value", z)], rfl, hCu, h3, ?_⟩
  by_cases hc : C = Cu
  · have e0 : (decide (C = Cu) || decide (Cu = C0)) = true := by simp [hc]
    refine ⟨_, rfl, ?_⟩
    rw [e0]
    refine ⟨.ref a, h1, by rw [List.length_map]; exact hlen, fun p hp => ⟨p, Ds, [("value", z)], rfl, fun D hD => (hDs D hD).1, .inl upd_same, ?_, _, rfl, ?_⟩⟩
    · rw [upd_ne (ne_of_none h3 hp)]; exact h3
    · have e1 : (Ds.any fun D => decide (C = D) || decide (D = C0)) = false := by
        rw [List.any_eq_false]
        intro D hD
        have := hDs D hD
        simp [hc, Ne.symm this.2.1, this.2.2]
      rw [e1]
      exact second true _ (same_upd hp) (by simp [hc])
  · have e0 : (decide (C = Cu) || decide (Cu = C0)) = false := by simp [hc, hCu0]
    refine ⟨_, rfl, ?_⟩
    rw [e0]
    exact second false _ (fun _ _ e => e) (by simp [hc])
end
/-! ### the def -/
def saysS (b : Bool) : PV := if b then .str [61, 110, 111, 110, 101, 61] else .str [61, 111, 116, 104, 101, 114, 61]
/-- the text of an error's value beside that of the object -/
def sameR (v t : PV) : Option Bool := match uRepr v, uRepr t with
  | some a, some b => eqB a b
  | _, _ => none
/-- what the suite makes of an exception -/
def rdK (nc cu : Nat) (t : PV) : Rs PV → Rs PV
  | .ok v S => .ok v S
  | .exc c v S => if c < nc then (if c = cu then (match sameR v t with
      | some b => .ok (saysS b) S
      | none => .bad) else .ok (saysS false) S) else .bad
  | .bad => .bad
def x5 (G : List (Str × GV)) (R : List (Str × Nat)) (nf nc cu : Nat) (cb : CB) : CallT → List PV → Store → Rs PV := fun C ps S => match ps with
  | [w, t] => rdK nc cu t (evB ⟨C, nf, G, R⟩ cb [.val w, .val t, .val .non, .no, .no] S)
  | _ => .bad
def inR (R : List (Str × Nat)) (x : Str) (c : Nat) : Bool := R.any fun p => p.1 == x && p.2 == c
def clNames (R : List (Str × Nat)) (k : Kx) : List Expr → List Nat → Bool
  | [], [] => true
  | .Name x _ :: es, d :: ds => (glo k.sc x && (okName x && inR R x d)) && clNames R k es ds
  | _, _ => false
def src5 (G : List (Str × GV)) (R : List (Str × Nat)) (k : Kx) (cb : CB) (cu : Nat) (ds : List Nat) : List Stmt → Bool
  | [.Assign [.Name f0 _] (.Constant .none _ _) _, .Try body [.ExceptHandler (some (.Name T _)) (some n) [.Assign [.Name al _] (.BoolOp .And [.Call (.Name i1 _) [.Name e1 _, .Name u _] [] _, .UnaryOp .Not (.Call (.Name i2 _) [.Name e2 _, .Tuple es _ _] [] _) _] _) _,
      .Assign [.Name f _] (.IfExp (.BoolOp .And [.Name al2 _, .Compare (.Call (.Name r1 _) [.Attribute (.Name e3 _) v _] [] _) [.Eq] [.Call (.Name r2 _) [.Name t _] [] _] _] _) (.Constant (.str z1) _ _) (.Constant (.str z2) _ _) _) _] _] [] [] _, .Return (some (.Name f1 _)) _] =>
    ((((decide (f0 = f) && decide (f1 = f)) && (decide (e1 = n) && (decide (e2 = n) && decide (e3 = n)))) && ((decide (al2 = al) && (decide (i1 = "isinstance") && decide (i2 = "isinstance"))) && (decide (r1 = "repr") && (decide (r2 = "repr") && decide (v = "value"))))) &&
      (((setIs k 2 f && slotIs k 2 f) && (slotIs k 3 n && decide (k.sc.names.lookup n = some .local))) && ((setIs k 4 al && slotIs k 4 al) && slotIs k 1 t))) &&
    (((blt G k "isinstance" && blt G k "repr") && ((glo k.sc T && (okName T && inR R T 0)) && (glo k.sc u && (okName u && inR R u cu)))) && ((clNames R k es ds && srcB G 2 cb k body) && (decide (z1 = ⟨#[61, 110, 111, 110, 101, 61]⟩) && decide (z2 = ⟨#[61, 111, 116, 104, 101, 114, 61]⟩))))
  | _ => false
theorem cls_at {L : LD} {w : World} {K : PySem.W.Frag} {h : Heap} {mg : Str → Option Value} (c : obsV L K = valLD L w) (X : K.In h) (Gn : h.Ns mainGlobals mg) {x : Str} {d : Nat} (hm : inR L.R x d = true) : mg x = some (.ref (L.ca d)) := by
  obtain ⟨⟨y, d'⟩, hm', hy⟩ := List.any_eq_true.mp hm
  simp only [Bool.and_eq_true, beq_iff_eq] at hy
  obtain ⟨rfl, rfl⟩ := hy
  have c1 : ckB L K = true := congrArg (fun z : AlV => z.1) c
  have hc4 := List.all_eq_true.mp (He.ba (He.ba c1).2).1 _ hm'
  obtain ⟨d1, _⟩ := He.ba (show (He.eqO _ _ && clB K L.C0 L.fI (L.ca d')) = true from hc4)
  exact PySem.W.mg_of X Gn (He.eqO_ok d1)
theorem clNames_ok {L : LD} {w : World} {K : PySem.W.Frag} {h : Heap} {mg : Str → Option Value} (c : obsV L K = valLD L w) (X : K.In h) (Gn : h.Ns mainGlobals mg) {k : Kx} {Y : Cx} (hsc : Y.env.scope = k.sc) (hmg : Y.mg = mg) :
    ∀ {es : List Expr} {ds : List Nat}, clNames L.R k es ds = true → ∃ xs : List Str, xs.length = (ds.map L.ca).length ∧
      Paired (fun (e : Expr) (q : Str × Addr) => (∃ p, e = .Name q.1 p) ∧ Gl Y q.1 ∧ Y.mg q.1 = some (.ref q.2) ∧ (q.1 == ("__debug__" : Str)) = false) es (xs.zip (ds.map L.ca))
  | [], [], _ => ⟨[], rfl, .nil⟩
  | .Name x p :: es, d :: ds, hh => by
    obtain ⟨h1, h2⟩ := He.ba (show ((glo k.sc x && (okName x && inR L.R x d)) && clNames L.R k es ds) = true from hh)
    obtain ⟨h3, h4⟩ := He.ba h1
    obtain ⟨h4, h5⟩ := He.ba h4
    obtain ⟨xs, l, r⟩ := clNames_ok c X Gn hsc hmg h2
    refine ⟨x :: xs, by simpa using l, .cons ⟨⟨p, rfl⟩, ?_, ?_, (okN_of h4).1⟩ r⟩
    · show Y.env.scope.names.lookup x = _
      rw [hsc]
      unfold glo at h3
      split at h3
      · assumption
      · cases h3
    · rw [hmg]
      exact cls_at c X Gn h5
  | [], _ :: _, hh => by cases hh
  | _ :: _, [], hh => by simp [clNames] at hh
theorem str_ext : ∀ {x y : Str}, x.cps.toList = y.cps.toList → x = y := by
  rintro ⟨⟨x⟩⟩ ⟨⟨y⟩⟩ h
  simpa using h
theorem uRepr_some {v w : PV} (h : uRepr v = some w) : ∃ d, toD v = some d ∧ showOk d = true ∧ w = .str d.shown.cps.toList := by
  unfold uRepr at h
  cases e : toD v with
  | none => rw [e] at h; cases h
  | some d =>
    rw [e] at h
    simp only at h
    split at h
    · rename_i ok
      cases h
      exact ⟨d, rfl, ok, rfl⟩
    · cases h
theorem sameR_some {v t : PV} {b : Bool} (h : sameR v t = some b) : ∃ d1 d2, toD v = some d1 ∧ toD t = some d2 ∧ showOk d1 = true ∧ showOk d2 = true ∧ b = decide (d1.shown.cps.toList = d2.shown.cps.toList) := by
  unfold sameR at h
  cases e1 : uRepr v with
  | none => rw [e1] at h; cases h
  | some w1 =>
    cases e2 : uRepr t with
    | none => rw [e1, e2] at h; cases h
    | some w2 =>
      rw [e1, e2] at h
      obtain ⟨d1, h1, h2, rfl⟩ := uRepr_some e1
      obtain ⟨d2, h3, h4, rfl⟩ := uRepr_some e2
      exact ⟨d1, d2, h1, h3, h2, h4, (Option.some.inj h).symm⟩
/-- the def of that form keeps its meaning -/
theorem ext5 {L : LD} {w : World} {K : PySem.W.Frag} {base : Heap} {mg : Str → Option Value} {i cu : Nat} {N : List Str} {ar : Arguments} {b : List Stmt} {sc : Scope} {cb : CB} {ds : List Nat} (c : obsV L K = valLD L w) (hK : K.In base) (hG : base.Ns mainGlobals mg)
    (e : L.D[i]? = some (some (ar, b, sc))) (s : ckS N ar sc = true) (hN : N.length = 5) (ha : ar.args.length = 2) (h5 : src5 L.G L.R ⟨N, sc, none⟩ cb cu ds b = true)
    (hnd : L.CA.Nodup) (hC0 : L.C0 = L.ca 0) (hcu : cu < L.CA.length ∧ cu ≠ 0) (hds : ∀ d ∈ ds, d < L.CA.length ∧ d ≠ cu ∧ d ≠ 0) (hdl : ds.length ≤ 100) :
    FnFact (L.W w K) mg base L.G L.R L.nf i (.ext (x5 L.G L.R L.nf L.CA.length cu cb)) := by
  obtain ⟨oc, od, name, qual, dV, kV, doc, pm, cdv, ct, an, osl, q1, q2, q3, q4, q5⟩ := def_at c e s
  refine ⟨oc, od, name, qual, ar, b, sc, dV, kV, doc, pm, cdv, ct, an, osl, N, _, q1, q2, q3, q4, q5, fun C qs S z => ?_, ?_⟩
  · rw [List.length_map, ha]
    unfold x5 at z
    split at z
    · rfl
    · exact absurd rfl z
  intro k C E A outer s H fns gd hk3 hr qs S bb vs Q rq st tr f
  unfold x5 at f
  split at f
  case h_2 => exact f.elim
  rename_i wv t
  have hcl : ∀ {c1 c2 : Nat}, c1 < L.CA.length → c2 < L.CA.length → L.ca c1 = L.ca c2 → c1 = c2 := fun {c1 c2} h1 h2 h => by
    unfold LD.ca at h
    rw [List.getD_eq_getElem?_getD, List.getD_eq_getElem?_getD, List.getElem?_eq_getElem h1, List.getElem?_eq_getElem h2] at h
    exact (List.getElem_inj hnd).mp h
  have hca : ∀ {c1 : Nat}, c1 < L.CA.length → L.ca c1 ∈ L.CA := fun {c1} h1 => by
    unfold LD.ca
    rw [List.getD_eq_getElem?_getD, List.getElem?_eq_getElem h1]
    exact List.getElem_mem h1
  have o : XOk (L.W w K) ⟨C, L.nf, L.G, L.R⟩ k ⟨N, sc, none⟩ XK0 (cxOf (L2.CX L.P w) L.P w K mg base N qual sc (L.fa i) cdv A outer s H E) :=
    { prog := rfl, w := rfl, K := rfl, N := rfl, nd := q3.nd, sc := rfl, fc := fun _ => rfl, calm := rfl
      un := by
        have h := hr.un
        show (A.deeper (envOfC qual sc s.heap.objs.size (L.fa i) cdv)).units + 70 < cLine
        have e0 : (L.W w K).fa i = L.fa i := rfl
        rw [e0] at h
        omega
      room := hr
      gd := gd
      fns := fns
      G := (tops_of (base := base) c hK hG).G
      pass := fun pins σ H s e s' I c => by
        obtain ⟨_, _, _, _, _, _, _, _, _, _, _, _, c⟩ := c
        exact c.elim }
  unfold src5 at h5
  split at h5
  case h_2 => cases h5
  rename_i f0 p1 j1 p2 p3 body T p4 n al p5 i1 p6 e1 p7 u p8 p9 i2 p10 e2 p11 es kt p12 p13 p14 p15 p16 f p17 al2 p18 r1 p19 e3 p20 v p21 p22 r2 p23 t1 p24 p25 p26 p27 z1 j2 p28 z2 j3 p29 p30 p31 p32 p33 f1 p34 p35
  simp only [Bool.and_eq_true, decide_eq_true_eq] at h5
  obtain ⟨⟨⟨⟨⟨rfl, rfl⟩, rfl, rfl, rfl⟩, ⟨rfl, rfl, rfl⟩, rfl, rfl, rfl⟩, ⟨⟨b1, b2⟩, b3, b4⟩, ⟨b5, b6⟩, b7⟩, ⟨⟨c1, c2⟩, ⟨c3, c4, c5⟩, c6, c7, c8⟩, ⟨c9, c10⟩, rfl, rfl⟩ := h5
  obtain ⟨xw, xt, rfl, rw', rt⟩ : ∃ xw xt, vs = [xw, xt] ∧ Rep (L.W w K) H bb wv xw ∧ Rep (L.W w K) H bb t xt := by
    cases rq with
    | cons r1 r =>
      cases r with
      | cons r2 r =>
        cases r
        exact ⟨_, _, rfl, r1, r2⟩
  have hst : EnvOk (L.W w K) (gh0 bb H) [.val wv, .val t, .val .non, .no, .no] S bb (fun _ => False) ((L2.start N [xw, xt]).set 2 (some .non)) H := by
    have e0 := start_ok (N := N) (.cons rw' (.cons rt .nil)) st tr (by rw [hN]; show 2 ≤ 5; decide)
    rw [hN] at e0
    exact e0.set (i := 2) .non
  have hlen : ((L2.start N [xw, xt]).set 2 (some V.non)).length = 5 := by rw [← hst.len]; rfl
  have h1t : ((L2.start N [xw, xt]).set 2 (some V.non))[1]? = some (some xt) := rfl
  obtain ⟨xs, hlx, hes⟩ := clNames_ok c hK hG (k := ⟨N, sc, none⟩) (Y := cxOf (L2.CX L.P w) L.P w K mg base N qual sc (L.fa i) cdv A outer s H E) rfl rfl c9
  have mT := cls_at c hK hG c5
  have mU := cls_at c hK hG c8
  obtain ⟨v1, v2, v3, v4⟩ := o.slot b2
  have tk0 : Takes (cxOf (L2.CX L.P w) L.P w K mg base N qual sc (L.fa i) cdv A outer s H E) (fun cls d _ H => E cls d H) := takes_of rfl rfl rfl rfl
  refine ⟨_, pss_cons (ps_set (i := 2) q3.nd (o.set b1).1 (o.set b1).2.1 (pe_non (j := j1)) (noSwap rfl) (o.set b1).2.2) (pss_cons
    (ps_try_as (i := 3) (c := .ref (L.ca 0)) (Wout := fun cls d _ H => E cls d H) (tb := fun Wi => Tg.tB (L.W w K) (gh0 bb H) Wi 2 (evB ⟨C, L.nf, L.G, L.R⟩ cb))
      (ts := fun a cls d D σ H => ∃ cc dd, cls = .ref (L.ca cc) ∧ d = some dd ∧ cc < L.CA.length ∧ H5 K a (L.ca cc) (L.ca cu) dd 3 4 2 1 ⟨#[61, 110, 111, 110, 101, 61]⟩ ⟨#[61, 111, 116, 104, 101, 114, 61]⟩ D σ H)
      rfl rfl q3.nd (o.slot b3).1 b4 ⟨o.gl c3, (okN_of c4).1, .inl mT⟩ tk0
      (fun Wi pn xe tk _ => sndB (X := (cxOf (L2.CX L.P w) L.P w K mg base N qual sc (L.fa i) cdv A outer s H E).tr pn xe) (P := ⟨C, L.nf, L.G, L.R⟩) ⟨o.prog, o.w, o.K, o.N, o.nd, o.sc, o.fc, o.calm, o.un, o.room, o.gd, o.fns, o.G, fun pins σ H s e s' I c => by
        obtain ⟨_, _, _, _, _, _, _, _, _, _, _, _, c⟩ := c
        exact c.elim⟩ tk 2 cb body c10)
      (fun a oe cls d pn hz hf => ⟨fun pins s σ H D I h => ?_⟩))
    (pss_one (ps_ret (pe_var v1 v2 v3 v4)))), ?_⟩
  · obtain ⟨cc, dd, rfl, rfl, hcc, h⟩ := h
    exact (suite5 (C0 := L.C0) (DS := L.CA) (ex_at c (hca hcc)) hz hf o.gd o.un q3.nd (o.slot b3) (o.slot b7) (o.slot b6) (o.set b5) (o.set b1) (o.blt c1).1 (o.blt c1).2 (o.blt c2).1 (o.blt c2).2 (o.gl c6) mU (okN_of c7).1 (hca hcu.1)
      (by rw [hC0]; exact fun z => hcu.2 (hcl hcu.1 (Nat.lt_of_le_of_lt (Nat.zero_le _) hcu.1) z)) hes hlx
      (fun D hD => by
        obtain ⟨d, hd, rfl⟩ := List.mem_map.mp hD
        obtain ⟨d1, d2, d3⟩ := hds d hd
        exact ⟨hca d1, fun z => d2 (hcl d1 hcu.1 z), by rw [hC0]; exact fun z => d3 (hcl d1 (Nat.lt_of_le_of_lt (Nat.zero_le _) hcu.1) z)⟩)
      (by rw [List.length_map, sizeLine_eq]; omega) (by decide) (by decide)).run pins s σ H D I h
  refine ⟨_, S, bb, _, hst, ?_⟩
  generalize evB ⟨C, L.nf, L.G, L.R⟩ cb [.val wv, .val t, .val .non, .no, .no] S = res at f
  have l2 : ∀ (σ : L2.St) (v : Option V), σ.length = 5 → (σ.set 2 v)[2]? = some v := fun σ v h => List.getElem?_set_self (by omega)
  cases res with
  | bad => exact f.elim
  | ok v S1 =>
    intro H' b' ad x rx
    refine ⟨x, ?_, f H' b' ad x rx⟩
    exact l2 _ _ hlen
  | exc cc v S1 =>
    intro z dd H' b' ad rz hd
    simp only [rdK] at f
    split at f
    case isFalse => exact f.elim
    rename_i hcc
    refine ⟨true, ?_, fun _ a ha => ⟨cc, dd, rfl, rfl, hcc, z, xt, ?_, ?_, ?_, hd, fun H2 hg => ?_⟩, fun z => nomatch z⟩
    · have := (ex_at c (hca hcc)).ex
      rw [hC0] at this
      exact this
    · rw [List.length_set, hlen]; decide
    · exact List.getElem?_set_self (by rw [hlen]; decide)
    · rw [List.getElem?_set_ne (by decide)]
      exact h1t
    · have ad2 : Adv (L.W w K) bb b' H H2 S1 := ad.trans (.grow ad.st hg)
      have done : ∀ (al : V) (l : List Nat), (∀ H' b', Adv (L.W w K) bb b' H H' S1 → ∀ x, Rep (L.W w K) H' b' (.str l) x → Q x H') →
          ∃ x, ((((((L2.start N [xw, xt]).set 2 (some V.non)).set 3 (some (.ref a))).set 4 (some al)).set 2 (some (.str ⟨l.toArray⟩))).set 3 none)[2]? = some (some x) ∧ Q x H2 := fun al l q => by
        refine ⟨.str ⟨l.toArray⟩, ?_, q H2 b' ad2 _ (.str l)⟩
        rw [List.getElem?_set_ne (by decide)]
        exact l2 _ _ (by rw [List.length_set, List.length_set, hlen])
      by_cases hu : cc = cu
      · subst hu
        rw [if_pos rfl] at f ⊢
        cases hsr : sameR v t with
        | none => rw [hsr] at f; exact f.elim
        | some bo =>
          rw [hsr] at f
          obtain ⟨d1, d2, e1, e2, o1, o2, rfl⟩ := sameR_some hsr
          refine ⟨d1, d2, dp_of (rz.grow hg) e1, dp_of ((rt.step ad.stp).grow hg) e2, o1, o2, ?_⟩
          by_cases hs : d1.shown = d2.shown
          · rw [if_pos hs]
            rw [decide_eq_true (congrArg (fun s : Str => s.cps.toList) hs)] at f
            exact done (.bl true) _ f
          · rw [if_neg hs]
            rw [decide_eq_false (fun z => hs (str_ext z))] at f
            exact done (.bl true) _ f
      · rw [if_neg hu] at f
        rw [if_neg (fun z => hu (hcl hcc hcu.1 z))]
        exact done (.bl false) _ f
end Tg
end
section
set_option Elab.async false
set_option linter.all false
set_option autoImplicit false
set_option maxRecDepth 100000
set_option maxHeartbeats 0
namespace K75
open PySem PySem.Spec PyProof.Rows L2 Tg
abbrev i_is_integer : Nat := 0
abbrev i_is_between : Nat := 1
abbrev i_is_tuple : Nat := 2
abbrev i_is_rising : Nat := 3
abbrev i_is_ascending : Nat := 4
abbrev i_is_text : Nat := 5
abbrev i_is_one_of : Nat := 6
abbrev i_anew : Nat := 7
abbrev i_letters_of : Nat := 8
abbrev i_is_letters : Nat := 9
abbrev i_need_n : Nat := 10
abbrev i_is_word : Nat := 11
abbrev i_is_place : Nat := 12
abbrev i_is_machine : Nat := 13
abbrev i_is_letter_item : Nat := 14
abbrev i_is_edge : Nat := 15
abbrev i_is_row : Nat := 16
abbrev i_is_pattern_of : Nat := 17
abbrev i_is_pattern : Nat := 18
abbrev i_is_change : Nat := 19
abbrev i_are_changes : Nat := 20
abbrev i_is_rule_of : Nat := 21
abbrev i_is_rule : Nat := 22
abbrev i_is_cascade : Nat := 23
abbrev i_is_entry : Nat := 24
abbrev i_is_part : Nat := 25
abbrev i_are_links : Nat := 26
abbrev i_is_a_book : Nat := 27
abbrev i_is_book : Nat := 28
abbrev i_is_name : Nat := 29
abbrev i_is_tag : Nat := 30
abbrev i_is_size : Nat := 31
abbrev i_are_sizes : Nat := 32
abbrev i_is_category : Nat := 33
abbrev i_is_mark : Nat := 34
abbrev i_is_sign : Nat := 35
abbrev i_ranges_of : Nat := 36
abbrev i_is_rule1 : Nat := 37
abbrev i_is_word1 : Nat := 38
abbrev i_is_any_grammar : Nat := 39
abbrev i_integer_from : Nat := 40
abbrev i_all_or_none : Nat := 41
abbrev i_items_from : Nat := 42
abbrev i_number_from : Nat := 43
abbrev i_text_from : Nat := 44
abbrev i_mark_from : Nat := 45
abbrev i_sign_from : Nat := 46
abbrev i_category_from : Nat := 47
abbrev i_is_nested : Nat := 48
abbrev i_tree_end : Nat := 49
abbrev i_tree_in : Nat := 50
abbrev i_tree_from : Nat := 51
abbrev i_listed : Nat := 52
abbrev i_show_word : Nat := 53
abbrev i_item_text : Nat := 54
abbrev i_row_text : Nat := 55
abbrev i_show_pattern : Nat := 56
abbrev i_show_rule : Nat := 57
abbrev i_show_cascade : Nat := 58
abbrev i_place_text : Nat := 59
abbrev i_show_machine : Nat := 60
abbrev i_show_numbers : Nat := 61
abbrev i_part_text : Nat := 62
abbrev i_show_book : Nat := 63
abbrev i_show_sign : Nat := 64
abbrev i_show_grammar : Nat := 65
abbrev i_show_tree : Nat := 66
abbrev i_show_sentence : Nat := 67
abbrev i_word_from : Nat := 68
abbrev i_item_from : Nat := 69
abbrev i_pattern_in : Nat := 70
abbrev i_pattern_from : Nat := 71
abbrev i_change_from : Nat := 72
abbrev i_rule_in : Nat := 73
abbrev i_rule_from : Nat := 74
abbrev i_cascade_from : Nat := 75
abbrev i_step_from : Nat := 76
abbrev i_place_from : Nat := 77
abbrev i_machine_from : Nat := 78
abbrev i_entry_from : Nat := 79
abbrev i_part_from : Nat := 80
abbrev i_link_from : Nat := 81
abbrev i_book_from : Nat := 82
abbrev i_shown_sign : Nat := 83
abbrev i_size_from : Nat := 84
abbrev i_grammar_rule_from : Nat := 85
abbrev i_grammar_word_from : Nat := 86
abbrev i_grammar_from : Nat := 87
abbrev i_shown_tree : Nat := 88
abbrev i_sentence_from : Nat := 89
abbrev i_needed : Nat := 90
abbrev i_read_by : Nat := 91
abbrev i_read_with : Nat := 92
abbrev i_read_word : Nat := 93
abbrev i_read_pattern : Nat := 94
abbrev i_read_rule : Nat := 95
abbrev i_read_cascade : Nat := 96
abbrev i_read_machine : Nat := 97
abbrev i_read_book : Nat := 98
abbrev i_read_sign : Nat := 99
abbrev i_read_grammar : Nat := 100
abbrev i_read_tree : Nat := 101
abbrev i_read_sentence : Nat := 102
abbrev i_law_well : Nat := 103
abbrev i_law_draw : Nat := 104
abbrev i_law_read : Nat := 105
abbrev i_law_shown : Nat := 106
abbrev i_law_texts : Nat := 107
abbrev i_law_bent : Nat := 108
abbrev i_law : Nat := 109
abbrev c_TongueError : Nat := 0
abbrev c_InvalidNumber : Nat := 1
abbrev c_InvalidRule : Nat := 2
abbrev c_InvalidBook : Nat := 3
abbrev c_InvalidGrammar : Nat := 4
abbrev c_Unreadable : Nat := 5
def cb0 : CB := .iff (.cmp 0 (.var 0) (.c (.int 3)))
    (.asg (.ite (.cmp 4 (.var 0) (.c (.int 0))) (.call i_read_word (.cons (.c (.int 3)) (.cons (.var 1) .nil)))
      (.ite (.cmp 4 (.var 0) (.c (.int 1))) (.call i_read_pattern (.cons (.c (.int 3)) (.cons (.var 1) .nil))) (.call i_read_rule (.cons (.c (.int 3)) (.cons (.var 1) .nil))))))
    (.iff (.cmp 0 (.var 0) (.c (.int 6)))
      (.asg (.ite (.cmp 4 (.var 0) (.c (.int 3))) (.call i_read_cascade (.cons (.var 1) .nil))
        (.ite (.cmp 4 (.var 0) (.c (.int 4))) (.call i_read_machine (.cons (.var 1) .nil)) (.call i_read_book (.cons (.var 1) .nil)))))
      (.iff (.cmp 0 (.var 0) (.c (.int 8)))
        (.asg (.ite (.cmp 4 (.var 0) (.c (.int 6))) (.call i_read_sign (.cons (.var 1) .nil)) (.call i_read_grammar (.cons (.var 1) .nil))))
        (.asg (.ite (.cmp 4 (.var 0) (.c (.int 8))) (.call i_read_tree (.cons (.var 1) .nil)) (.call i_read_sentence (.cons (.var 1) .nil))))))
def x_law_read : CallT → List PV → Store → Rs PV := x5 G0 R0 110 6 c_Unreadable cb0
def n_law_read : List Str := sL ["which", "text", "found", "error", "is_alone"]

/-- is_integer(value) -/
def f0 : FE := .code ⟨1, 1, .seq (.ret (.and (.isi 0 (.var 0)) (.one (.not (.isi 4 (.var 0)))))) (.skip)⟩
def n0 : List Str := sL ["value"]
/-- is_between(value, low, high) -/
def f1 : FE := .code ⟨3, 3, .seq (.ret (.and (.call 0 (.cons (.var 0) (.nil))) (.one (.chain 1 1 (.var 1) (.var 0) (.var 2))))) (.skip)⟩
def n1 : List Str := sL ["value", "low", "high"]
/-- is_tuple(value, low, high) -/
def f2 : FE := .code ⟨3, 3, .seq (.ret (.and (.isi 2 (.var 0)) (.one (.chain 1 1 (.var 1) (.u1 0 (.var 0)) (.var 2))))) (.skip)⟩
def n2 : List Str := sL ["value", "low", "high"]
/-- is_rising(value) -/
def f3 : FE := .code ⟨1, 2, .seq (.ret (.u1 3 (.lc (.name 1) [1] (.rng 1 (.cons (.bin 1 (.u1 0 (.var 0)) (.c (.int 1))) (.nil))) (.c (.bl true)) (.cmp 0 (.ix (.var 0) (.var 1)) (.ix (.var 0) (.bin 0 (.var 1) (.c (.int 1)))))))) (.skip)⟩
def n3 : List Str := sL ["value", "at"]
/-- is_ascending(value, low, high) -/
def f4 : FE := .code ⟨3, 4, .seq (.ret (.and (.isi 2 (.var 0)) (.and (.u1 3 (.lc (.name 3) [3] (.seq (.var 0)) (.c (.bl true)) (.call 1 (.cons (.var 3) (.cons (.var 1) (.cons (.var 2) (.nil))))))) (.one (.call 3 (.cons (.var 0) (.nil))))))) (.skip)⟩
def n4 : List Str := sL ["value", "low", "high", "part"]
/-- is_text(value, signs, low, high) -/
def f5 : FE := .code ⟨4, 5, .seq (.ret (.and (.isi 1 (.var 0)) (.and (.chain 1 1 (.var 2) (.u1 0 (.var 0)) (.var 3)) (.one (.u1 3 (.lc (.name 4) [4] (.seq (.var 0)) (.c (.bl true)) (.cmp 6 (.var 4) (.var 1)))))))) (.skip)⟩
def n5 : List Str := sL ["value", "signs", "low", "high", "sign"]
/-- is_one_of(value, words) -/
def f6 : FE := .code ⟨2, 2, .seq (.ret (.and (.isi 1 (.var 0)) (.one (.cmp 6 (.var 0) (.var 1))))) (.skip)⟩
def n6 : List Str := sL ["value", "words"]
/-- anew(value) -/
def f7 : FE := .code ⟨1, 2, .seq (.iff (.tv (.isi 3 (.var 0))) (.seq (.ret (.lc (.name 1) [1] (.seq (.var 0)) (.c (.bl true)) (.call 7 (.cons (.var 1) (.nil))))) (.skip)) (.skip)) (.seq (.iff (.tv (.isi 2 (.var 0))) (.seq (.ret (.u1 1 (.lc (.name 1) [1] (.seq (.var 0)) (.c (.bl true)) (.call 7 (.cons (.var 1) (.nil)))))) (.skip)) (.skip)) (.seq (.ret (.var 0)) (.skip)))⟩
def n7 : List Str := sL ["value", "part"]
/-- letters_of(n) -/
def f8 : FE := .code ⟨1, 1, .seq (.ret (.cutH (.g 0) (.var 0))) (.skip)⟩
def n8 : List Str := sL ["n"]
/-- is_letters(value) -/
def f9 : FE := .code ⟨1, 1, .seq (.ret (.call 1 (.cons (.var 0) (.cons (.c (.int 1)) (.cons (.u1 0 (.g 0)) (.nil)))))) (.skip)⟩
def n9 : List Str := sL ["value"]
/-- need_n(n) -/
def f10 : FE := .code ⟨1, 1, .seq (.iff (.not (.tv (.call 9 (.cons (.var 0) (.nil))))) (.seq (.raise 1 (.var 0)) (.skip)) (.skip)) (.skip)⟩
def n10 : List Str := sL ["n"]
/-- is_word(n, value) -/
def f11 : FE := .code ⟨2, 3, .seq (.ret (.and (.isi 1 (.var 1)) (.one (.u1 3 (.lc (.name 2) [2] (.seq (.var 1)) (.c (.bl true)) (.cmp 6 (.var 2) (.cutH (.g 0) (.var 0)))))))) (.skip)⟩
def n11 : List Str := sL ["n", "value", "letter"]
/-- is_place(value, n, many) -/
def f12 : FE := .code ⟨3, 7, .seq (.iff (.or (.not (.tv (.call 2 (.cons (.var 0) (.cons (.c (.int 2)) (.cons (.c (.int 2)) (.nil))))))) (.or (.not (.tv (.isi 4 (.ix (.var 0) (.c (.int 0)))))) (.one (.not (.tv (.isi 2 (.ix (.var 0) (.c (.int 1))))))))) (.seq (.ret (.c (.bl false))) (.skip)) (.skip)) (.seq (.for (.name 3) (.seq (.ix (.var 0) (.c (.int 1)))) (.seq (.iff (.or (.not (.tv (.call 2 (.cons (.var 3) (.cons (.c (.int 2)) (.cons (.c (.int 2)) (.nil))))))) (.or (.not (.tv (.isi 1 (.ix (.var 3) (.c (.int 0)))))) (.one (.cmp 5 (.u1 0 (.ix (.var 3) (.c (.int 0)))) (.c (.int 1)))))) (.seq (.ret (.c (.bl false))) (.skip)) (.skip)) (.seq (.iff (.or (.cmp 7 (.ix (.var 3) (.c (.int 0))) (.call 8 (.cons (.var 1) (.nil)))) (.one (.not (.tv (.call 1 (.cons (.ix (.var 3) (.c (.int 1))) (.cons (.c (.int 0)) (.cons (.bin 1 (.var 2) (.c (.int 1))) (.nil))))))))) (.seq (.ret (.c (.bl false))) (.skip)) (.skip)) (.skip)))) (.seq (.setLc false 4 (.lc (.name 3) [3] (.seq (.ix (.var 0) (.c (.int 1)))) (.c (.bl true)) (.ix (.var 3) (.c (.int 0))))) (.seq (.ret (.u1 3 (.lc (.tup (.cons (.name 5) (.cons (.name 6) (.nil)))) [5, 6] (.zip (.cons (.var 4) (.cons (.cutL (.var 4) (.c (.int 1))) (.nil)))) (.c (.bl true)) (.cmp 0 (.var 5) (.var 6))))) (.skip))))⟩
def n12 : List Str := sL ["value", "n", "many", "step", "letters", "one", "other"]
/-- is_machine(value) -/
def f13 : FE := .code ⟨1, 2, .seq (.iff (.or (.not (.tv (.call 2 (.cons (.var 0) (.cons (.c (.int 2)) (.cons (.c (.int 2)) (.nil))))))) (.or (.not (.tv (.call 9 (.cons (.ix (.var 0) (.c (.int 0))) (.nil))))) (.one (.not (.tv (.isi 2 (.ix (.var 0) (.c (.int 1))))))))) (.seq (.ret (.c (.bl false))) (.skip)) (.skip)) (.seq (.ret (.u1 3 (.lc (.name 1) [1] (.seq (.ix (.var 0) (.c (.int 1)))) (.c (.bl true)) (.call 12 (.cons (.var 1) (.cons (.ix (.var 0) (.c (.int 0))) (.cons (.u1 0 (.ix (.var 0) (.c (.int 1)))) (.nil)))))))) (.skip))⟩
def n13 : List Str := sL ["value", "place"]
/-- is_letter_item(n, value) -/
def f14 : FE := .code ⟨2, 4, .seq (.iff (.or (.not (.tv (.call 2 (.cons (.var 1) (.cons (.c (.int 2)) (.cons (.c (.int 2)) (.nil))))))) (.or (.not (.tv (.call 6 (.cons (.ix (.var 1) (.c (.int 0))) (.cons (.g 6) (.nil)))))) (.one (.not (.tv (.call 5 (.cons (.ix (.var 1) (.c (.int 1))) (.cons (.call 8 (.cons (.var 0) (.nil))) (.cons (.c (.int 1)) (.cons (.var 0) (.nil))))))))))) (.seq (.ret (.c (.bl false))) (.skip)) (.skip)) (.seq (.ret (.u1 3 (.lc (.tup (.cons (.name 2) (.cons (.name 3) (.nil)))) [2, 3] (.zip (.cons (.ix (.var 1) (.c (.int 1))) (.cons (.cutL (.ix (.var 1) (.c (.int 1))) (.c (.int 1))) (.nil)))) (.c (.bl true)) (.cmp 0 (.var 2) (.var 3))))) (.skip))⟩
def n14 : List Str := sL ["n", "value", "one", "other"]
/-- is_edge(value) -/
def f15 : FE := .code ⟨1, 1, .seq (.ret (.and (.call 2 (.cons (.var 0) (.cons (.c (.int 1)) (.cons (.c (.int 1)) (.nil))))) (.and (.isi 1 (.ix (.var 0) (.c (.int 0)))) (.one (.cmp 4 (.var 0) (.g 3)))))) (.skip)⟩
def n15 : List Str := sL ["value"]
/-- is_row(n, value, side) -/
def f16 : FE := .code ⟨3, 5, .seq (.iff (.not (.tv (.call 2 (.cons (.var 1) (.cons (.c (.int 0)) (.cons (.g 10) (.nil))))))) (.seq (.ret (.c (.bl false))) (.skip)) (.skip)) (.seq (.asg (.name 3) (.var 1)) (.seq (.iff (.and (.cmp 4 (.var 2) (.c (.str [108, 101, 102, 116]))) (.and (.cmp 5 (.var 3) (.tup (.nil))) (.one (.tv (.call 15 (.cons (.ix (.var 3) (.c (.int 0))) (.nil))))))) (.seq (.asg (.name 3) (.cutL (.var 3) (.c (.int 1)))) (.skip)) (.seq (.iff (.and (.cmp 4 (.var 2) (.c (.str [114, 105, 103, 104, 116]))) (.and (.cmp 5 (.var 3) (.tup (.nil))) (.one (.tv (.call 15 (.cons (.ix (.var 3) (.neg (.c (.int 1)))) (.nil))))))) (.seq (.asg (.name 3) (.cutH (.var 3) (.neg (.c (.int 1))))) (.skip)) (.skip)) (.skip))) (.seq (.ret (.u1 3 (.lc (.name 4) [4] (.seq (.var 3)) (.c (.bl true)) (.call 14 (.cons (.var 0) (.cons (.var 4) (.nil))))))) (.skip))))⟩
def n16 : List Str := sL ["n", "value", "side", "items", "item"]
/-- is_pattern_of(n, value, side) -/
def f17 : FE := .code ⟨3, 4, .seq (.ret (.and (.call 2 (.cons (.var 1) (.cons (.c (.int 1)) (.cons (.g 14) (.nil))))) (.one (.u1 3 (.lc (.name 3) [3] (.seq (.var 1)) (.c (.bl true)) (.call 16 (.cons (.var 0) (.cons (.var 3) (.cons (.var 2) (.nil)))))))))) (.skip)⟩
def n17 : List Str := sL ["n", "value", "side", "row"]
/-- is_pattern(n, value, side) -/
def f18 : FE := .code ⟨3, 3, .seq (.expr (.call 10 (.cons (.var 0) (.nil)))) (.seq (.ret (.call 17 (.cons (.var 0) (.cons (.var 1) (.cons (.var 2) (.nil)))))) (.skip))⟩
def n18 : List Str := sL ["n", "value", "side"]
/-- is_change(n, value) -/
def f19 : FE := .code ⟨2, 2, .seq (.iff (.or (.not (.tv (.call 2 (.cons (.var 1) (.cons (.c (.int 2)) (.cons (.c (.int 2)) (.nil))))))) (.or (.not (.tv (.call 11 (.cons (.var 0) (.cons (.ix (.var 1) (.c (.int 0))) (.nil)))))) (.one (.not (.tv (.call 11 (.cons (.var 0) (.cons (.ix (.var 1) (.c (.int 1))) (.nil))))))))) (.seq (.ret (.c (.bl false))) (.skip)) (.skip)) (.seq (.ret (.and (.cmp 1 (.u1 0 (.ix (.var 1) (.c (.int 0)))) (.c (.int 1))) (.and (.cmp 1 (.u1 0 (.ix (.var 1) (.c (.int 1)))) (.g 20)) (.one (.cmp 5 (.ix (.var 1) (.c (.int 0))) (.ix (.var 1) (.c (.int 1)))))))) (.skip))⟩
def n19 : List Str := sL ["n", "value"]
/-- are_changes(n, value) -/
def f20 : FE := .code ⟨2, 5, .seq (.iff (.or (.not (.tv (.isi 2 (.var 1)))) (.or (.cmp 4 (.var 1) (.tup (.nil))) (.one (.not (.tv (.u1 3 (.lc (.name 4) [4] (.seq (.var 1)) (.c (.bl true)) (.call 19 (.cons (.var 0) (.cons (.var 4) (.nil))))))))))) (.seq (.ret (.c (.bl false))) (.skip)) (.skip)) (.seq (.ret (.call 3 (.cons (.lc (.tup (.cons (.name 2) (.cons (.name 3) (.nil)))) [2, 3] (.seq (.var 1)) (.c (.bl true)) (.var 2)) (.nil)))) (.skip))⟩
def n20 : List Str := sL ["n", "value", "letter", "text", "change"]
/-- is_rule_of(n, value) -/
def f21 : FE := .code ⟨2, 2, .seq (.iff (.or (.not (.tv (.call 2 (.cons (.var 1) (.cons (.c (.int 5)) (.cons (.c (.int 5)) (.nil))))))) (.one (.not (.tv (.call 20 (.cons (.var 0) (.cons (.ix (.var 1) (.c (.int 0))) (.nil)))))))) (.seq (.ret (.c (.bl false))) (.skip)) (.skip)) (.seq (.iff (.or (.not (.tv (.call 17 (.cons (.var 0) (.cons (.ix (.var 1) (.c (.int 1))) (.cons (.c (.str [108, 101, 102, 116])) (.nil))))))) (.one (.not (.tv (.call 17 (.cons (.var 0) (.cons (.ix (.var 1) (.c (.int 2))) (.cons (.c (.str [114, 105, 103, 104, 116])) (.nil))))))))) (.seq (.ret (.c (.bl false))) (.skip)) (.skip)) (.seq (.ret (.and (.call 6 (.cons (.ix (.var 1) (.c (.int 3))) (.cons (.g 26) (.nil)))) (.one (.call 6 (.cons (.ix (.var 1) (.c (.int 4))) (.cons (.g 4) (.nil))))))) (.skip)))⟩
def n21 : List Str := sL ["n", "value"]
/-- is_rule(n, value) -/
def f22 : FE := .code ⟨2, 2, .seq (.expr (.call 10 (.cons (.var 0) (.nil)))) (.seq (.ret (.call 21 (.cons (.var 0) (.cons (.var 1) (.nil))))) (.skip))⟩
def n22 : List Str := sL ["n", "value"]
/-- is_cascade(value) -/
def f23 : FE := .code ⟨1, 2, .seq (.iff (.or (.not (.tv (.call 2 (.cons (.var 0) (.cons (.c (.int 2)) (.cons (.c (.int 2)) (.nil))))))) (.or (.not (.tv (.call 9 (.cons (.ix (.var 0) (.c (.int 0))) (.nil))))) (.one (.not (.tv (.call 2 (.cons (.ix (.var 0) (.c (.int 1))) (.cons (.c (.int 0)) (.cons (.g 15) (.nil)))))))))) (.seq (.ret (.c (.bl false))) (.skip)) (.skip)) (.seq (.ret (.u1 3 (.lc (.name 1) [1] (.seq (.ix (.var 0) (.c (.int 1)))) (.c (.bl true)) (.call 21 (.cons (.ix (.var 0) (.c (.int 0))) (.cons (.var 1) (.nil))))))) (.skip))⟩
def n23 : List Str := sL ["value", "rule"]
/-- is_entry(n, value) -/
def f24 : FE := .code ⟨2, 2, .seq (.iff (.or (.not (.tv (.call 2 (.cons (.var 1) (.cons (.c (.int 2)) (.cons (.c (.int 2)) (.nil))))))) (.or (.not (.tv (.call 11 (.cons (.var 0) (.cons (.ix (.var 1) (.c (.int 0))) (.nil)))))) (.one (.cmp 2 (.u1 0 (.ix (.var 1) (.c (.int 0)))) (.g 19))))) (.seq (.ret (.c (.bl false))) (.skip)) (.skip)) (.seq (.ret (.call 5 (.cons (.ix (.var 1) (.c (.int 1))) (.cons (.g 1) (.cons (.c (.int 1)) (.cons (.g 17) (.nil))))))) (.skip))⟩
def n24 : List Str := sL ["n", "value"]
/-- is_part(n, value) -/
def f25 : FE := .code ⟨2, 3, .seq (.ret (.and (.call 2 (.cons (.var 1) (.cons (.c (.int 1)) (.cons (.g 9) (.nil))))) (.and (.u1 3 (.lc (.name 2) [2] (.seq (.var 1)) (.c (.bl true)) (.call 24 (.cons (.var 0) (.cons (.var 2) (.nil)))))) (.one (.call 3 (.cons (.var 1) (.nil))))))) (.skip)⟩
def n25 : List Str := sL ["n", "value", "entry"]
/-- are_links(value, many) -/
def f26 : FE := .code ⟨2, 4, .seq (.iff (.or (.not (.tv (.isi 2 (.var 0)))) (.one (.not (.tv (.u1 3 (.lc (.name 2) [2] (.seq (.var 0)) (.c (.bl true)) (.call 2 (.cons (.var 2) (.cons (.c (.int 2)) (.cons (.c (.int 2)) (.nil))))))))))) (.seq (.ret (.c (.bl false))) (.skip)) (.skip)) (.seq (.ret (.and (.u1 3 (.lc2 (.name 2) (.name 3) [2, 3] [3] (.seq (.var 0)) (.c (.bl true)) (.seq (.var 2)) (.c (.bl true)) (.call 1 (.cons (.var 3) (.cons (.c (.int 0)) (.cons (.bin 1 (.var 1) (.c (.int 1))) (.nil))))))) (.one (.call 3 (.cons (.var 0) (.nil)))))) (.skip))⟩
def n26 : List Str := sL ["value", "many", "link", "i"]
/-- is_a_book(value) -/
def f27 : FE := .code ⟨1, 8, .seq (.iff (.or (.not (.tv (.call 2 (.cons (.var 0) (.cons (.c (.int 5)) (.cons (.c (.int 5)) (.nil))))))) (.or (.not (.tv (.call 9 (.cons (.ix (.var 0) (.c (.int 0))) (.nil))))) (.one (.not (.tv (.call 2 (.cons (.ix (.var 0) (.c (.int 1))) (.cons (.c (.int 1)) (.cons (.g 13) (.nil)))))))))) (.seq (.ret (.c (.bl false))) (.skip)) (.skip)) (.seq (.asg (.tup (.cons (.name 2) (.cons (.name 3) (.cons (.name 4) (.cons (.name 5) (.cons (.name 6) (.nil))))))) (.var 0)) (.seq (.iff (.not (.tv (.u1 3 (.lc (.name 7) [7] (.seq (.var 3)) (.c (.bl true)) (.call 25 (.cons (.var 2) (.cons (.var 7) (.nil)))))))) (.seq (.ret (.c (.bl false))) (.skip)) (.skip)) (.seq (.asg (.name 1) (.u1 0 (.var 3))) (.seq (.ret (.and (.call 4 (.cons (.var 4) (.cons (.c (.int 0)) (.cons (.bin 1 (.var 1) (.c (.int 1))) (.nil))))) (.and (.call 26 (.cons (.var 5) (.cons (.var 1) (.nil)))) (.one (.call 4 (.cons (.var 6) (.cons (.c (.int 0)) (.cons (.bin 1 (.var 1) (.c (.int 1))) (.nil))))))))) (.skip)))))⟩
def n27 : List Str := sL ["value", "many", "n", "parts", "firsts", "links", "lasts", "part"]
/-- is_book(value) -/
def f28 : FE := .code ⟨1, 1, .seq (.ret (.call 27 (.cons (.var 0) (.nil)))) (.skip)⟩
def n28 : List Str := sL ["value"]
/-- is_name(value) -/
def f29 : FE := .code ⟨1, 1, .seq (.ret (.call 5 (.cons (.var 0) (.cons (.g 23) (.cons (.c (.int 1)) (.cons (.c (.int 8)) (.nil))))))) (.skip)⟩
def n29 : List Str := sL ["value"]
/-- is_tag(value) -/
def f30 : FE := .code ⟨1, 1, .seq (.ret (.call 5 (.cons (.var 0) (.cons (.g 24) (.cons (.c (.int 1)) (.cons (.c (.int 80)) (.nil))))))) (.skip)⟩
def n30 : List Str := sL ["value"]
/-- is_size(value) -/
def f31 : FE := .code ⟨1, 2, .seq (.iff (.or (.not (.tv (.call 2 (.cons (.var 0) (.cons (.c (.int 2)) (.cons (.c (.int 2)) (.nil))))))) (.or (.not (.tv (.call 29 (.cons (.ix (.var 0) (.c (.int 0))) (.nil))))) (.one (.not (.tv (.call 2 (.cons (.ix (.var 0) (.c (.int 1))) (.cons (.c (.int 0)) (.cons (.c (.int 2)) (.nil)))))))))) (.seq (.ret (.c (.bl false))) (.skip)) (.skip)) (.seq (.ret (.u1 3 (.lc (.name 1) [1] (.seq (.ix (.var 0) (.c (.int 1)))) (.c (.bl true)) (.call 1 (.cons (.var 1) (.cons (.c (.int 1)) (.cons (.g 21) (.nil)))))))) (.skip))⟩
def n31 : List Str := sL ["value", "many"]
/-- are_sizes(value) -/
def f32 : FE := .code ⟨1, 2, .seq (.iff (.or (.not (.tv (.call 2 (.cons (.var 0) (.cons (.c (.int 1)) (.cons (.g 11) (.nil))))))) (.one (.not (.tv (.u1 3 (.lc (.name 1) [1] (.seq (.var 0)) (.c (.bl true)) (.call 31 (.cons (.var 1) (.nil))))))))) (.seq (.ret (.c (.bl false))) (.skip)) (.skip)) (.seq (.ret (.call 3 (.cons (.u1 1 (.lc (.name 1) [1] (.seq (.var 0)) (.c (.bl true)) (.ix (.var 1) (.c (.int 0))))) (.nil)))) (.skip))⟩
def n32 : List Str := sL ["value", "size"]
/-- is_category(sizes, value) -/
def f33 : FE := .code ⟨2, 5, .seq (.iff (.or (.not (.tv (.call 2 (.cons (.var 1) (.cons (.c (.int 2)) (.cons (.c (.int 2)) (.nil))))))) (.or (.not (.tv (.call 29 (.cons (.ix (.var 1) (.c (.int 0))) (.nil))))) (.one (.cmp 7 (.ix (.var 1) (.c (.int 0))) (.var 0))))) (.seq (.ret (.c (.bl false))) (.skip)) (.skip)) (.seq (.asg (.name 2) (.ix (.var 0) (.ix (.var 1) (.c (.int 0))))) (.seq (.iff (.not (.tv (.call 2 (.cons (.ix (.var 1) (.c (.int 1))) (.cons (.u1 0 (.var 2)) (.cons (.u1 0 (.var 2)) (.nil))))))) (.seq (.ret (.c (.bl false))) (.skip)) (.skip)) (.seq (.ret (.u1 3 (.lc (.tup (.cons (.name 3) (.cons (.name 4) (.nil)))) [3, 4] (.zip (.cons (.ix (.var 1) (.c (.int 1))) (.cons (.var 2) (.nil)))) (.c (.bl true)) (.call 1 (.cons (.var 3) (.cons (.c (.int 0)) (.cons (.bin 1 (.var 4) (.c (.int 1))) (.nil)))))))) (.skip))))⟩
def n33 : List Str := sL ["sizes", "value", "values", "number", "many"]
/-- is_mark(value, many) -/
def f34 : FE := .code ⟨2, 2, .seq (.ret (.or (.and (.isi 1 (.var 0)) (.one (.cmp 6 (.var 0) (.g 25)))) (.one (.call 1 (.cons (.var 0) (.cons (.c (.int 0)) (.cons (.bin 1 (.var 1) (.c (.int 1))) (.nil)))))))) (.skip)⟩
def n34 : List Str := sL ["value", "many"]
/-- is_sign(sizes, value) -/
def f35 : FE := .code ⟨2, 5, .seq (.iff (.or (.not (.tv (.call 2 (.cons (.var 1) (.cons (.c (.int 2)) (.cons (.c (.int 2)) (.nil))))))) (.or (.not (.tv (.call 29 (.cons (.ix (.var 1) (.c (.int 0))) (.nil))))) (.one (.cmp 7 (.ix (.var 1) (.c (.int 0))) (.var 0))))) (.seq (.ret (.c (.bl false))) (.skip)) (.skip)) (.seq (.asg (.name 2) (.ix (.var 0) (.ix (.var 1) (.c (.int 0))))) (.seq (.iff (.not (.tv (.call 2 (.cons (.ix (.var 1) (.c (.int 1))) (.cons (.u1 0 (.var 2)) (.cons (.u1 0 (.var 2)) (.nil))))))) (.seq (.ret (.c (.bl false))) (.skip)) (.skip)) (.seq (.ret (.u1 3 (.lc (.tup (.cons (.name 3) (.cons (.name 4) (.nil)))) [3, 4] (.zip (.cons (.ix (.var 1) (.c (.int 1))) (.cons (.var 2) (.nil)))) (.c (.bl true)) (.call 34 (.cons (.var 3) (.cons (.var 4) (.nil))))))) (.skip))))⟩
def n35 : List Str := sL ["sizes", "value", "values", "mark", "many"]
/-- ranges_of(sizes, signs) -/
def f36 : FE := .code ⟨2, 7, .seq (.own 2 (.dnew)) (.seq (.for (.tup (.cons (.name 3) (.cons (.name 4) (.nil)))) (.seq (.var 1)) (.seq (.for (.tup (.cons (.name 5) (.cons (.name 6) (.nil)))) (.zip (.cons (.var 4) (.cons (.ix (.var 0) (.var 3)) (.nil)))) (.seq (.iff (.tv (.isi 1 (.var 5))) (.seq (.put 2 (.bin 0 (.get2 (.bor 2) (.var 5) (.lst (.nil))) (.lst (.cons (.var 6) (.nil)))) (.var 5)) (.skip)) (.skip)) (.skip))) (.skip))) (.seq (.frz 2) (.seq (.ret (.var 2)) (.skip))))⟩
def n36 : List Str := sL ["sizes", "signs", "found", "name", "marks", "mark", "many"]
/-- is_rule(sizes, value) -/
def f37 : FE := .code ⟨2, 4, .seq (.iff (.or (.not (.tv (.call 2 (.cons (.var 1) (.cons (.c (.int 3)) (.cons (.c (.int 3)) (.nil))))))) (.one (.not (.tv (.u1 3 (.lc (.name 3) [3] (.seq (.var 1)) (.c (.bl true)) (.call 35 (.cons (.var 0) (.cons (.var 3) (.nil)))))))))) (.seq (.ret (.c (.bl false))) (.skip)) (.skip)) (.seq (.ret (.u1 3 (.lc (.name 2) [2] (.walk .vals (.call 36 (.cons (.var 0) (.cons (.var 1) (.nil))))) (.c (.bl true)) (.cmp 4 (.u1 6 (.var 2)) (.u1 7 (.var 2)))))) (.skip))⟩
def n37 : List Str := sL ["sizes", "value", "row", "sign"]
/-- is_word(sizes, value) -/
def f38 : FE := .code ⟨2, 2, .seq (.ret (.and (.call 2 (.cons (.var 1) (.cons (.c (.int 2)) (.cons (.c (.int 2)) (.nil))))) (.and (.call 35 (.cons (.var 0) (.cons (.ix (.var 1) (.c (.int 0))) (.nil)))) (.one (.call 30 (.cons (.ix (.var 1) (.c (.int 1))) (.nil))))))) (.skip)⟩
def n38 : List Str := sL ["sizes", "value"]
/-- is_any_grammar(value) -/
def f39 : FE := .code ⟨1, 4, .seq (.iff (.or (.not (.tv (.call 2 (.cons (.var 0) (.cons (.c (.int 4)) (.cons (.c (.int 4)) (.nil))))))) (.one (.not (.tv (.call 32 (.cons (.ix (.var 0) (.c (.int 1))) (.nil))))))) (.seq (.ret (.c (.bl false))) (.skip)) (.skip)) (.seq (.asg (.name 1) (.dict (.ix (.var 0) (.c (.int 1))))) (.seq (.iff (.or (.not (.tv (.call 33 (.cons (.var 1) (.cons (.ix (.var 0) (.c (.int 0))) (.nil)))))) (.one (.not (.tv (.call 2 (.cons (.ix (.var 0) (.c (.int 2))) (.cons (.c (.int 0)) (.cons (.g 16) (.nil))))))))) (.seq (.ret (.c (.bl false))) (.skip)) (.skip)) (.seq (.iff (.or (.not (.tv (.u1 3 (.lc (.name 3) [3] (.seq (.ix (.var 0) (.c (.int 2)))) (.c (.bl true)) (.call 37 (.cons (.var 1) (.cons (.var 3) (.nil)))))))) (.one (.not (.tv (.call 2 (.cons (.ix (.var 0) (.c (.int 3))) (.cons (.c (.int 0)) (.cons (.g 22) (.nil))))))))) (.seq (.ret (.c (.bl false))) (.skip)) (.skip)) (.seq (.ret (.u1 3 (.lc (.name 2) [2] (.seq (.ix (.var 0) (.c (.int 3)))) (.c (.bl true)) (.call 38 (.cons (.var 1) (.cons (.var 2) (.nil))))))) (.skip)))))⟩
def n39 : List Str := sL ["value", "sizes", "word", "rule"]
/-- integer_from(word, digits) -/
def f40 : FE := .code ⟨2, 3, .seq (.iff (.or (.not (.chain 0 1 (.c (.int 0)) (.u1 0 (.var 0)) (.var 1))) (.one (.not (.tv (.u1 3 (.lc (.name 2) [2] (.seq (.var 0)) (.c (.bl true)) (.cmp 6 (.var 2) (.g 2)))))))) (.seq (.ret (.c (.non))) (.skip)) (.skip)) (.seq (.ret (.ite (.and (.cmp 4 (.ix (.var 0) (.c (.int 0))) (.c (.str [48]))) (.one (.cmp 5 (.var 0) (.c (.str [48]))))) (.c (.non)) (.u1 9 (.var 0)))) (.skip))⟩
def n40 : List Str := sL ["word", "digits", "sign"]
/-- all_or_none(found) -/
def f41 : FE := .code ⟨1, 1, .seq (.ret (.ite (.cmp 6 (.c (.non)) (.var 0)) (.c (.non)) (.u1 1 (.var 0)))) (.skip)⟩
def n41 : List Str := sL ["found"]
/-- items_from(text, kind, between) -/
def f42 : FE := .code ⟨3, 4, .seq (.ret (.call 41 (.cons (.ite (.cmp 4 (.var 0) (.c (.str [45]))) (.lst (.nil)) (.lc (.name 3) [3] (.seq (.m1 1 (.var 0) (.var 2))) (.c (.bl true)) (.callL 1 (.cons (.var 3) (.nil))))) (.nil)))) (.skip)⟩
def n42 : List Str := sL ["text", "kind", "between", "part"]
/-- number_from(word) -/
def f43 : FE := .code ⟨1, 1, .seq (.ret (.call 40 (.cons (.var 0) (.cons (.g 8) (.nil))))) (.skip)⟩
def n43 : List Str := sL ["word"]
/-- text_from(word) -/
def f44 : FE := .code ⟨1, 1, .seq (.ret (.ite (.cmp 4 (.var 0) (.c (.str [46]))) (.c (.str [])) (.var 0))) (.skip)⟩
def n44 : List Str := sL ["word"]
/-- mark_from(word) -/
def f45 : FE := .code ⟨1, 2, .seq (.iff (.cmp 6 (.var 0) (.g 25)) (.seq (.ret (.var 0)) (.skip)) (.skip)) (.seq (.asg (.name 1) (.call 40 (.cons (.var 0) (.cons (.c (.int 1)) (.nil))))) (.seq (.ret (.ite (.and (.cmp 9 (.var 1) (.c (.non))) (.one (.cmp 1 (.var 1) (.g 21)))) (.var 1) (.c (.non)))) (.skip)))⟩
def n45 : List Str := sL ["word", "number"]
/-- sign_from(text) -/
def f46 : FE := .code ⟨1, 6, .seq (.asg (.tup (.cons (.name 2) (.cons (.name 3) (.cons (.name 4) (.nil))))) (.m1 2 (.var 0) (.c (.str [40])))) (.seq (.iff (.not (.tv (.call 29 (.cons (.var 2) (.nil))))) (.seq (.ret (.c (.non))) (.skip)) (.skip)) (.seq (.iff (.cmp 4 (.var 3) (.c (.str []))) (.seq (.ret (.tup (.cons (.var 2) (.cons (.tup (.nil)) (.nil))))) (.skip)) (.skip)) (.seq (.asg (.name 1) (.call 41 (.cons (.lc (.name 5) [5] (.seq (.m1 1 (.cutH (.var 4) (.neg (.c (.int 1)))) (.c (.str [44])))) (.c (.bl true)) (.call 45 (.cons (.var 5) (.nil)))) (.nil)))) (.seq (.ret (.ite (.and (.cmp 9 (.var 1) (.c (.non))) (.and (.cmp 4 (.cutL (.var 4) (.neg (.c (.int 1)))) (.c (.str [41]))) (.one (.cmp 1 (.u1 0 (.var 1)) (.c (.int 2)))))) (.tup (.cons (.var 2) (.cons (.var 1) (.nil)))) (.c (.non)))) (.skip)))))⟩
def n46 : List Str := sL ["text", "marks", "name", "bracket", "rest", "word"]
/-- category_from(text) -/
def f47 : FE := .code ⟨1, 3, .seq (.asg (.name 1) (.call 46 (.cons (.var 0) (.nil)))) (.seq (.iff (.or (.cmp 8 (.var 1) (.c (.non))) (.one (.tv (.u1 4 (.lc (.name 2) [2] (.seq (.ix (.var 1) (.c (.int 1)))) (.c (.bl true)) (.or (.isi 1 (.var 2)) (.one (.cmp 4 (.var 2) (.g 21))))))))) (.seq (.ret (.c (.non))) (.skip)) (.skip)) (.seq (.ret (.var 1)) (.skip)))⟩
def n47 : List Str := sL ["text", "found", "mark"]
/-- is_nested(text) -/
def f48 : FE := .code ⟨1, 3, .seq (.asg (.name 1) (.c (.int 0))) (.seq (.for (.name 2) (.seq (.var 0)) (.seq (.aug 1 0 (.bin 1 (.u1 9 (.cmp 4 (.var 2) (.c (.str [91])))) (.u1 9 (.cmp 4 (.var 2) (.c (.str [93])))))) (.seq (.iff (.not (.chain 1 1 (.c (.int 0)) (.var 1) (.g 12))) (.seq (.ret (.c (.bl false))) (.skip)) (.skip)) (.skip)))) (.seq (.ret (.cmp 4 (.var 1) (.c (.int 0)))) (.skip)))⟩
def n48 : List Str := sL ["text", "level", "sign"]
/-- tree_end(text, at) -/
def f49 : FE := .code ⟨2, 4, .seq (.iff (.cmp 5 (.cutB (.var 0) (.var 1) (.bin 0 (.var 1) (.c (.int 1)))) (.c (.str [91]))) (.seq (.asg (.name 2) (.var 1)) (.seq (.whl 1000000000 (.and (.cmp 0 (.var 2) (.u1 0 (.var 0))) (.one (.cmp 7 (.ix (.var 0) (.var 2)) (.c (.str [32, 93]))))) (.seq (.aug 2 0 (.c (.int 1))) (.skip))) (.seq (.ret (.var 2)) (.skip)))) (.skip)) (.seq (.par2 3 2 [false, false] (.cons (.c (.int 1)) (.cons (.bin 0 (.var 1) (.c (.int 1))) (.nil)))) (.seq (.whl 1000000000 (.cmp 2 (.var 3) (.c (.int 0))) (.seq (.aug 3 0 (.bin 1 (.u1 9 (.cmp 4 (.ix (.var 0) (.var 2)) (.c (.str [91])))) (.u1 9 (.cmp 4 (.ix (.var 0) (.var 2)) (.c (.str [93])))))) (.seq (.aug 2 0 (.c (.int 1))) (.skip)))) (.seq (.ret (.var 2)) (.skip))))⟩
def n49 : List Str := sL ["text", "at", "stop", "level"]
/-- tree_in(text) -/
def f50 : FE := .code ⟨1, 10, .seq (.iff (.cmp 5 (.cutH (.var 0) (.c (.int 1))) (.c (.str [91]))) (.seq (.asg (.tup (.cons (.name 2) (.cons (.name 8) (.cons (.name 9) (.nil))))) (.m1 2 (.var 0) (.c (.str [58])))) (.seq (.asg (.name 1) (.call 47 (.cons (.var 2) (.nil)))) (.seq (.ret (.ite (.or (.cmp 8 (.var 1) (.c (.non))) (.one (.not (.tv (.call 30 (.cons (.var 9) (.nil))))))) (.c (.non)) (.tup (.cons (.var 1) (.cons (.var 9) (.nil)))))) (.skip)))) (.skip)) (.seq (.iff (.cmp 5 (.call 49 (.cons (.var 0) (.cons (.c (.int 0)) (.nil)))) (.u1 0 (.var 0))) (.seq (.ret (.c (.non))) (.skip)) (.skip)) (.seq (.asg (.tup (.cons (.name 2) (.cons (.name 3) (.cons (.name 4) (.nil))))) (.m1 2 (.cutB (.var 0) (.c (.int 1)) (.neg (.c (.int 1)))) (.c (.str [32])))) (.seq (.par2 1 5 [false, false] (.cons (.call 47 (.cons (.var 2) (.nil))) (.cons (.call 49 (.cons (.var 4) (.cons (.c (.int 0)) (.nil)))) (.nil)))) (.seq (.iff (.or (.cmp 8 (.var 1) (.c (.non))) (.one (.cmp 5 (.cutB (.var 4) (.var 5) (.bin 0 (.var 5) (.c (.int 1)))) (.c (.str [32]))))) (.seq (.ret (.c (.non))) (.skip)) (.skip)) (.seq (.par2 6 7 [false, false] (.cons (.call 50 (.cons (.cutH (.var 4) (.var 5)) (.nil))) (.cons (.call 50 (.cons (.cutL (.var 4) (.bin 0 (.var 5) (.c (.int 1)))) (.nil))) (.nil)))) (.seq (.ret (.ite (.or (.cmp 8 (.var 6) (.c (.non))) (.one (.cmp 8 (.var 7) (.c (.non))))) (.c (.non)) (.tup (.cons (.var 1) (.cons (.var 6) (.cons (.var 7) (.nil))))))) (.skip)))))))⟩
def n50 : List Str := sL ["text", "category", "sign", "blank", "rest", "stop", "one", "other", "colon", "tag"]
/-- tree_from(text) -/
def f51 : FE := .code ⟨1, 1, .seq (.ret (.ite (.tv (.call 48 (.cons (.var 0) (.nil)))) (.call 50 (.cons (.var 0) (.nil))) (.c (.non)))) (.skip)⟩
def n51 : List Str := sL ["text"]
/-- listed(rows, between) -/
def f52 : FE := .code ⟨2, 2, .seq (.ret (.ite (.cmp 2 (.u1 0 (.var 0)) (.c (.int 0))) (.m1 0 (.var 1) (.var 0)) (.c (.str [45])))) (.skip)⟩
def n52 : List Str := sL ["rows", "between"]
/-- show_word(word) -/
def f53 : FE := .code ⟨1, 1, .seq (.ret (.ite (.cmp 5 (.var 0) (.c (.str []))) (.var 0) (.c (.str [46])))) (.skip)⟩
def n53 : List Str := sL ["word"]
/-- item_text(item) -/
def f54 : FE := .code ⟨1, 1, .seq (.ret (.ite (.cmp 4 (.ix (.var 0) (.c (.int 0))) (.c (.str [101, 100, 103, 101]))) (.c (.str [35])) (.bin 0 (.ix (.var 0) (.c (.int 1))) (.ix (.g 7) (.ix (.var 0) (.c (.int 0))))))) (.skip)⟩
def n54 : List Str := sL ["item"]
/-- row_text(row) -/
def f55 : FE := .code ⟨1, 2, .seq (.ret (.ite (.cmp 5 (.var 0) (.tup (.nil))) (.m1 0 (.c (.str [32])) (.lc (.name 1) [1] (.seq (.var 0)) (.c (.bl true)) (.call 54 (.cons (.var 1) (.nil))))) (.c (.str [46])))) (.skip)⟩
def n55 : List Str := sL ["row", "item"]
/-- show_pattern(pattern) -/
def f56 : FE := .code ⟨1, 2, .seq (.ret (.m1 0 (.c (.str [32, 124, 32])) (.lc (.name 1) [1] (.seq (.var 0)) (.c (.bl true)) (.call 55 (.cons (.var 1) (.nil)))))) (.skip)⟩
def n56 : List Str := sL ["pattern", "row"]
/-- show_rule(rule) -/
def f57 : FE := .code ⟨1, 9, .seq (.asg (.tup (.cons (.name 2) (.cons (.name 3) (.cons (.name 4) (.cons (.name 5) (.cons (.name 6) (.nil))))))) (.var 0)) (.seq (.asg (.name 1) (.m1 0 (.c (.str [32])) (.lc (.tup (.cons (.name 7) (.cons (.name 8) (.nil)))) [7, 8] (.seq (.var 2)) (.c (.bl true)) (.bin 0 (.bin 0 (.var 7) (.c (.str [62]))) (.call 53 (.cons (.var 8) (.nil))))))) (.seq (.ret (.js (.jcons (.fmt (.var 1)) (.jcons (.c (.str [32, 47, 32])) (.jcons (.fmt (.call 56 (.cons (.var 3) (.nil)))) (.jcons (.c (.str [32, 95, 32])) (.jcons (.fmt (.call 56 (.cons (.var 4) (.nil)))) (.jcons (.c (.str [32, 47, 32])) (.jcons (.fmt (.var 5)) (.jcons (.c (.str [32])) (.jcons (.fmt (.var 6)) (.jnil)))))))))))) (.skip)))⟩
def n57 : List Str := sL ["rule", "words", "changes", "left", "right", "way", "force", "letter", "text"]
/-- show_cascade(cascade) -/
def f58 : FE := .code ⟨1, 2, .seq (.ret (.m1 0 (.c (.str [32, 59, 32])) (.bin 0 (.lst (.cons (.u1 8 (.ix (.var 0) (.c (.int 0)))) (.nil))) (.lc (.name 1) [1] (.seq (.ix (.var 0) (.c (.int 1)))) (.c (.bl true)) (.call 57 (.cons (.var 1) (.nil))))))) (.skip)⟩
def n58 : List Str := sL ["cascade", "rule"]
/-- place_text(place) -/
def f59 : FE := .code ⟨1, 3, .seq (.ret (.m1 0 (.c (.str [32])) (.bin 0 (.lst (.cons (.ite (.tv (.ix (.var 0) (.c (.int 0)))) (.c (.str [49])) (.c (.str [48]))) (.nil))) (.lc (.tup (.cons (.name 1) (.cons (.name 2) (.nil)))) [1, 2] (.seq (.ix (.var 0) (.c (.int 1)))) (.c (.bl true)) (.js (.jcons (.fmt (.var 1)) (.jcons (.fmt (.var 2)) (.jnil)))))))) (.skip)⟩
def n59 : List Str := sL ["place", "letter", "number"]
/-- show_machine(machine) -/
def f60 : FE := .code ⟨1, 2, .seq (.ret (.m1 0 (.c (.str [32, 59, 32])) (.bin 0 (.lst (.cons (.u1 8 (.ix (.var 0) (.c (.int 0)))) (.nil))) (.lc (.name 1) [1] (.seq (.ix (.var 0) (.c (.int 1)))) (.c (.bl true)) (.call 59 (.cons (.var 1) (.nil))))))) (.skip)⟩
def n60 : List Str := sL ["machine", "place"]
/-- show_numbers(numbers) -/
def f61 : FE := .code ⟨1, 2, .seq (.ret (.call 52 (.cons (.lc (.name 1) [1] (.seq (.var 0)) (.c (.bl true)) (.u1 8 (.var 1))) (.cons (.c (.str [32])) (.nil))))) (.skip)⟩
def n61 : List Str := sL ["numbers", "number"]
/-- part_text(part) -/
def f62 : FE := .code ⟨1, 3, .seq (.ret (.m1 0 (.c (.str [32])) (.lc (.tup (.cons (.name 1) (.cons (.name 2) (.nil)))) [1, 2] (.seq (.var 0)) (.c (.bl true)) (.js (.jcons (.fmt (.call 53 (.cons (.var 1) (.nil)))) (.jcons (.c (.str [58])) (.jcons (.fmt (.var 2)) (.jnil)))))))) (.skip)⟩
def n62 : List Str := sL ["part", "text", "tag"]
/-- show_book(book) -/
def f63 : FE := .code ⟨1, 10, .seq (.asg (.tup (.cons (.name 2) (.cons (.name 3) (.cons (.name 4) (.cons (.name 5) (.cons (.name 6) (.nil))))))) (.var 0)) (.seq (.asg (.name 1) (.lst (.cons (.u1 8 (.var 2)) (.cons (.m1 0 (.c (.str [32, 59, 32])) (.lc (.name 7) [7] (.seq (.var 3)) (.c (.bl true)) (.call 62 (.cons (.var 7) (.nil))))) (.cons (.call 61 (.cons (.var 4) (.nil))) (.nil)))))) (.seq (.ret (.m1 0 (.c (.str [32, 124, 32])) (.bin 0 (.var 1) (.lst (.cons (.call 52 (.cons (.lc (.tup (.cons (.name 8) (.cons (.name 9) (.nil)))) [8, 9] (.seq (.var 5)) (.c (.bl true)) (.js (.jcons (.fmt (.var 8)) (.jcons (.c (.str [62])) (.jcons (.fmt (.var 9)) (.jnil)))))) (.cons (.c (.str [32])) (.nil)))) (.cons (.call 61 (.cons (.var 6) (.nil))) (.nil))))))) (.skip)))⟩
def n63 : List Str := sL ["book", "rows", "n", "parts", "firsts", "links", "lasts", "part", "i", "m"]
/-- show_sign(sign) -/
def f64 : FE := .code ⟨1, 4, .seq (.asg (.tup (.cons (.name 1) (.cons (.name 2) (.nil)))) (.var 0)) (.seq (.ret (.ite (.cmp 4 (.var 2) (.tup (.nil))) (.var 1) (.bin 0 (.bin 0 (.js (.jcons (.fmt (.var 1)) (.jcons (.c (.str [40])) (.jnil)))) (.m1 0 (.c (.str [44])) (.lc (.name 3) [3] (.seq (.var 2)) (.c (.bl true)) (.u1 8 (.var 3))))) (.c (.str [41]))))) (.skip))⟩
def n64 : List Str := sL ["sign", "name", "marks", "mark"]
/-- show_grammar(grammar) -/
def f65 : FE := .code ⟨1, 13, .seq (.asg (.tup (.cons (.name 3) (.cons (.name 4) (.cons (.name 5) (.cons (.name 6) (.nil)))))) (.var 0)) (.seq (.own 1 (.lst (.cons (.call 64 (.cons (.var 3) (.nil))) (.cons (.m1 0 (.c (.str [32])) (.lc (.name 10) [10] (.seq (.var 4)) (.c (.bl true)) (.call 64 (.cons (.var 10) (.nil))))) (.nil))))) (.seq (.setLc false 2 (.lc (.tup (.cons (.name 7) (.cons (.name 8) (.cons (.name 9) (.nil))))) [7, 8, 9] (.seq (.var 5)) (.c (.bl true)) (.js (.jcons (.fmt (.call 64 (.cons (.var 7) (.nil)))) (.jcons (.c (.str [61])) (.jcons (.fmt (.call 64 (.cons (.var 8) (.nil)))) (.jcons (.c (.str [43])) (.jcons (.fmt (.call 64 (.cons (.var 9) (.nil)))) (.jnil))))))))) (.seq (.app 1 (.cons (.call 52 (.cons (.var 2) (.cons (.c (.str [32])) (.nil)))) (.nil))) (.seq (.app 1 (.cons (.call 52 (.cons (.lc (.tup (.cons (.name 11) (.cons (.name 12) (.nil)))) [11, 12] (.seq (.var 6)) (.c (.bl true)) (.js (.jcons (.fmt (.call 64 (.cons (.var 11) (.nil)))) (.jcons (.c (.str [61])) (.jcons (.fmt (.var 12)) (.jnil)))))) (.cons (.c (.str [32])) (.nil)))) (.nil))) (.seq (.ret (.m1 0 (.c (.str [32, 124, 32])) (.bor 1))) (.skip))))))⟩
def n65 : List Str := sL ["grammar", "rows", "told", "start", "sizes", "rules", "words", "head", "one", "other", "size", "sign", "tag"]
/-- show_tree(tree) -/
def f66 : FE := .code ⟨1, 1, .seq (.iff (.cmp 4 (.u1 0 (.var 0)) (.c (.int 2))) (.seq (.ret (.js (.jcons (.fmt (.call 64 (.cons (.ix (.var 0) (.c (.int 0))) (.nil)))) (.jcons (.c (.str [58])) (.jcons (.fmt (.ix (.var 0) (.c (.int 1)))) (.jnil)))))) (.skip)) (.skip)) (.seq (.ret (.js (.jcons (.c (.str [91])) (.jcons (.fmt (.call 64 (.cons (.ix (.var 0) (.c (.int 0))) (.nil)))) (.jcons (.c (.str [32])) (.jcons (.fmt (.call 66 (.cons (.ix (.var 0) (.c (.int 1))) (.nil)))) (.jcons (.c (.str [32])) (.jcons (.fmt (.call 66 (.cons (.ix (.var 0) (.c (.int 2))) (.nil)))) (.jcons (.c (.str [93])) (.jnil)))))))))) (.skip))⟩
def n66 : List Str := sL ["tree"]
/-- show_sentence(sentence) -/
def f67 : FE := .code ⟨1, 1, .seq (.ret (.m1 0 (.c (.str [32])) (.var 0))) (.skip)⟩
def n67 : List Str := sL ["sentence"]
/-- word_from(n, text) -/
def f68 : FE := .code ⟨2, 3, .seq (.asg (.name 2) (.call 44 (.cons (.var 1) (.nil)))) (.seq (.ret (.ite (.and (.tv (.call 11 (.cons (.var 0) (.cons (.var 2) (.nil))))) (.one (.cmp 5 (.var 1) (.c (.str []))))) (.var 2) (.c (.non)))) (.skip))⟩
def n68 : List Str := sL ["n", "text", "word"]
/-- item_from(word) -/
def f69 : FE := .code ⟨1, 2, .seq (.iff (.cmp 4 (.var 0) (.c (.str [35]))) (.seq (.ret (.tup (.cons (.c (.str [101, 100, 103, 101])) (.nil)))) (.skip)) (.skip)) (.seq (.asg (.name 1) (.get (.g 5) (.cutL (.var 0) (.neg (.c (.int 1)))))) (.seq (.ret (.ite (.cmp 8 (.var 1) (.c (.non))) (.tup (.cons (.c (.str [111, 110, 101])) (.cons (.var 0) (.nil)))) (.tup (.cons (.var 1) (.cons (.cutH (.var 0) (.neg (.c (.int 1)))) (.nil)))))) (.skip)))⟩
def n69 : List Str := sL ["word", "kind"]
/-- pattern_in(text) -/
def f70 : FE := .code ⟨1, 4, .seq (.setLc false 1 (.lc (.name 2) [2] (.seq (.m1 1 (.var 0) (.c (.str [32, 124, 32])))) (.c (.bl true)) (.ite (.cmp 4 (.var 2) (.c (.str [46]))) (.lst (.nil)) (.m1 1 (.var 2) (.c (.str [32])))))) (.seq (.ret (.u1 1 (.lc (.name 2) [2] (.seq (.var 1)) (.c (.bl true)) (.u1 1 (.lc (.name 3) [3] (.seq (.var 2)) (.c (.bl true)) (.call 69 (.cons (.var 3) (.nil)))))))) (.skip))⟩
def n70 : List Str := sL ["text", "rows", "row", "word"]
/-- pattern_from(n, text) -/
def f71 : FE := .code ⟨2, 3, .seq (.asg (.name 2) (.call 70 (.cons (.var 1) (.nil)))) (.seq (.iff (.and (.not (.tv (.call 18 (.cons (.var 0) (.cons (.var 2) (.cons (.c (.str [108, 101, 102, 116])) (.nil))))))) (.one (.not (.tv (.call 18 (.cons (.var 0) (.cons (.var 2) (.cons (.c (.str [114, 105, 103, 104, 116])) (.nil))))))))) (.seq (.ret (.c (.non))) (.skip)) (.skip)) (.seq (.ret (.ite (.cmp 4 (.call 56 (.cons (.var 2) (.nil))) (.var 1)) (.var 2) (.c (.non)))) (.skip)))⟩
def n71 : List Str := sL ["n", "text", "found"]
/-- change_from(word) -/
def f72 : FE := .code ⟨1, 4, .seq (.asg (.tup (.cons (.name 1) (.cons (.name 2) (.cons (.name 3) (.nil))))) (.m1 2 (.var 0) (.c (.str [62])))) (.seq (.ret (.tup (.cons (.var 1) (.cons (.call 44 (.cons (.var 3) (.nil))) (.nil))))) (.skip))⟩
def n72 : List Str := sL ["word", "letter", "mark", "text"]
/-- rule_in(text) -/
def f73 : FE := .code ⟨1, 10, .seq (.asg (.name 1) (.m1 1 (.var 0) (.c (.str [32, 47, 32])))) (.seq (.iff (.cmp 5 (.u1 0 (.var 1)) (.c (.int 3))) (.seq (.ret (.c (.non))) (.skip)) (.skip)) (.seq (.asg (.name 2) (.u1 1 (.lc (.name 9) [9] (.seq (.m1 1 (.ix (.var 1) (.c (.int 0))) (.c (.str [32])))) (.c (.bl true)) (.call 72 (.cons (.var 9) (.nil)))))) (.seq (.asg (.tup (.cons (.name 3) (.cons (.name 4) (.cons (.name 5) (.nil))))) (.m1 2 (.ix (.var 1) (.c (.int 1))) (.c (.str [32, 95, 32])))) (.seq (.asg (.tup (.cons (.name 6) (.cons (.name 7) (.cons (.name 8) (.nil))))) (.m1 3 (.ix (.var 1) (.c (.int 2))) (.c (.str [32])))) (.seq (.ret (.tup (.cons (.var 2) (.cons (.call 70 (.cons (.var 3) (.nil))) (.cons (.call 70 (.cons (.var 5) (.nil))) (.cons (.var 6) (.cons (.var 8) (.nil)))))))) (.skip))))))⟩
def n73 : List Str := sL ["text", "parts", "changes", "left", "gap", "right", "way", "blank", "force", "word"]
/-- rule_from(n, text) -/
def f74 : FE := .code ⟨2, 3, .seq (.asg (.name 2) (.call 73 (.cons (.var 1) (.nil)))) (.seq (.ret (.ite (.and (.cmp 9 (.var 2) (.c (.non))) (.and (.tv (.call 22 (.cons (.var 0) (.cons (.var 2) (.nil))))) (.one (.cmp 4 (.call 57 (.cons (.var 2) (.nil))) (.var 1))))) (.var 2) (.c (.non)))) (.skip))⟩
def n74 : List Str := sL ["n", "text", "found"]
/-- cascade_from(text) -/
def f75 : FE := .code ⟨1, 5, .seq (.asg (.name 1) (.m1 1 (.var 0) (.c (.str [32, 59, 32])))) (.seq (.par2 2 3 [false, false] (.cons (.call 43 (.cons (.ix (.var 1) (.c (.int 0))) (.nil))) (.cons (.call 41 (.cons (.lc (.name 4) [4] (.seq (.cutL (.var 1) (.c (.int 1)))) (.c (.bl true)) (.call 73 (.cons (.var 4) (.nil)))) (.nil))) (.nil)))) (.seq (.iff (.or (.cmp 8 (.var 2) (.c (.non))) (.or (.cmp 8 (.var 3) (.c (.non))) (.one (.not (.tv (.call 23 (.cons (.tup (.cons (.var 2) (.cons (.var 3) (.nil)))) (.nil)))))))) (.seq (.ret (.c (.non))) (.skip)) (.skip)) (.seq (.ret (.ite (.cmp 4 (.call 58 (.cons (.tup (.cons (.var 2) (.cons (.var 3) (.nil)))) (.nil))) (.var 0)) (.tup (.cons (.var 2) (.cons (.var 3) (.nil)))) (.c (.non)))) (.skip))))⟩
def n75 : List Str := sL ["text", "parts", "n", "rules", "part"]
/-- step_from(word) -/
def f76 : FE := .code ⟨1, 2, .seq (.asg (.name 1) (.call 43 (.cons (.cutL (.var 0) (.c (.int 1))) (.nil)))) (.seq (.ret (.ite (.cmp 8 (.var 1) (.c (.non))) (.c (.non)) (.tup (.cons (.ix (.var 0) (.c (.int 0))) (.cons (.var 1) (.nil)))))) (.skip))⟩
def n76 : List Str := sL ["word", "number"]
/-- place_from(text) -/
def f77 : FE := .code ⟨1, 4, .seq (.asg (.name 1) (.m1 1 (.var 0) (.c (.str [32])))) (.seq (.asg (.name 2) (.call 41 (.cons (.lc (.name 3) [3] (.seq (.cutL (.var 1) (.c (.int 1)))) (.c (.bl true)) (.call 76 (.cons (.var 3) (.nil)))) (.nil)))) (.seq (.ret (.ite (.and (.cmp 9 (.var 2) (.c (.non))) (.one (.cmp 6 (.ix (.var 1) (.c (.int 0))) (.tup (.cons (.c (.str [48])) (.cons (.c (.str [49])) (.nil))))))) (.tup (.cons (.cmp 4 (.ix (.var 1) (.c (.int 0))) (.c (.str [49]))) (.cons (.var 2) (.nil)))) (.c (.non)))) (.skip)))⟩
def n77 : List Str := sL ["text", "words", "steps", "word"]
/-- machine_from(text) -/
def f78 : FE := .code ⟨1, 5, .seq (.asg (.name 1) (.m1 1 (.var 0) (.c (.str [32, 59, 32])))) (.seq (.par2 2 3 [false, false] (.cons (.call 43 (.cons (.ix (.var 1) (.c (.int 0))) (.nil))) (.cons (.call 41 (.cons (.lc (.name 4) [4] (.seq (.cutL (.var 1) (.c (.int 1)))) (.c (.bl true)) (.call 77 (.cons (.var 4) (.nil)))) (.nil))) (.nil)))) (.seq (.iff (.or (.cmp 8 (.var 2) (.c (.non))) (.or (.cmp 8 (.var 3) (.c (.non))) (.one (.not (.tv (.call 13 (.cons (.tup (.cons (.var 2) (.cons (.var 3) (.nil)))) (.nil)))))))) (.seq (.ret (.c (.non))) (.skip)) (.skip)) (.seq (.ret (.ite (.cmp 4 (.call 60 (.cons (.tup (.cons (.var 2) (.cons (.var 3) (.nil)))) (.nil))) (.var 0)) (.tup (.cons (.var 2) (.cons (.var 3) (.nil)))) (.c (.non)))) (.skip))))⟩
def n78 : List Str := sL ["text", "parts", "n", "places", "part"]
/-- entry_from(word) -/
def f79 : FE := .code ⟨1, 4, .seq (.asg (.tup (.cons (.name 1) (.cons (.name 2) (.cons (.name 3) (.nil))))) (.m1 2 (.var 0) (.c (.str [58])))) (.seq (.ret (.tup (.cons (.call 44 (.cons (.var 1) (.nil))) (.cons (.var 3) (.nil))))) (.skip))⟩
def n79 : List Str := sL ["word", "text", "colon", "tag"]
/-- part_from(text) -/
def f80 : FE := .code ⟨1, 2, .seq (.ret (.u1 1 (.lc (.name 1) [1] (.seq (.m1 1 (.var 0) (.c (.str [32])))) (.c (.bl true)) (.call 79 (.cons (.var 1) (.nil)))))) (.skip)⟩
def n80 : List Str := sL ["text", "word"]
/-- link_from(word) -/
def f81 : FE := .code ⟨1, 4, .seq (.asg (.tup (.cons (.name 1) (.cons (.name 2) (.cons (.name 3) (.nil))))) (.m1 2 (.var 0) (.c (.str [62])))) (.seq (.ret (.call 41 (.cons (.lst (.cons (.call 43 (.cons (.var 1) (.nil))) (.cons (.call 43 (.cons (.var 3) (.nil))) (.nil)))) (.nil)))) (.skip))⟩
def n81 : List Str := sL ["word", "one", "mark", "other"]
/-- book_from(text) -/
def f82 : FE := .code ⟨1, 7, .seq (.asg (.name 1) (.m1 1 (.var 0) (.c (.str [32, 124, 32])))) (.seq (.iff (.cmp 5 (.u1 0 (.var 1)) (.c (.int 5))) (.seq (.ret (.c (.non))) (.skip)) (.skip)) (.seq (.par2 4 5 [false, false] (.cons (.call 42 (.cons (.ix (.var 1) (.c (.int 2))) (.cons (.g 103) (.cons (.c (.str [32])) (.nil))))) (.cons (.call 42 (.cons (.ix (.var 1) (.c (.int 4))) (.cons (.g 103) (.cons (.c (.str [32])) (.nil))))) (.nil)))) (.seq (.asg (.name 2) (.call 42 (.cons (.ix (.var 1) (.c (.int 3))) (.cons (.g 94) (.cons (.c (.str [32])) (.nil)))))) (.seq (.asg (.name 3) (.tup (.cons (.call 43 (.cons (.ix (.var 1) (.c (.int 0))) (.nil))) (.cons (.u1 1 (.lc (.name 6) [6] (.seq (.m1 1 (.ix (.var 1) (.c (.int 1))) (.c (.str [32, 59, 32])))) (.c (.bl true)) (.call 80 (.cons (.var 6) (.nil))))) (.cons (.var 4) (.cons (.var 2) (.cons (.var 5) (.nil)))))))) (.seq (.ret (.ite (.and (.tv (.call 28 (.cons (.var 3) (.nil)))) (.one (.cmp 4 (.call 63 (.cons (.var 3) (.nil))) (.var 0)))) (.var 3) (.c (.non)))) (.skip))))))⟩
def n82 : List Str := sL ["text", "parts", "links", "found", "firsts", "lasts", "part"]
/-- shown_sign(text) -/
def f83 : FE := .code ⟨1, 2, .seq (.asg (.name 1) (.call 46 (.cons (.var 0) (.nil)))) (.seq (.iff (.or (.cmp 8 (.var 1) (.c (.non))) (.one (.cmp 6 (.g 21) (.ix (.var 1) (.c (.int 1)))))) (.seq (.ret (.c (.non))) (.skip)) (.skip)) (.seq (.ret (.ite (.cmp 4 (.call 64 (.cons (.var 1) (.nil))) (.var 0)) (.var 1) (.c (.non)))) (.skip)))⟩
def n83 : List Str := sL ["text", "found"]
/-- size_from(word) -/
def f84 : FE := .code ⟨1, 3, .seq (.asg (.name 1) (.call 46 (.cons (.var 0) (.nil)))) (.seq (.ret (.ite (.and (.cmp 9 (.var 1) (.c (.non))) (.one (.tv (.u1 3 (.lc (.name 2) [2] (.seq (.ix (.var 1) (.c (.int 1)))) (.c (.bl true)) (.call 1 (.cons (.var 2) (.cons (.c (.int 1)) (.cons (.g 21) (.nil)))))))))) (.var 1) (.c (.non)))) (.skip))⟩
def n84 : List Str := sL ["word", "found", "many"]
/-- grammar_rule_from(word) -/
def f85 : FE := .code ⟨1, 7, .seq (.asg (.tup (.cons (.name 1) (.cons (.name 2) (.cons (.name 3) (.nil))))) (.m1 2 (.var 0) (.c (.str [61])))) (.seq (.asg (.tup (.cons (.name 4) (.cons (.name 5) (.cons (.name 6) (.nil))))) (.m1 2 (.var 3) (.c (.str [43])))) (.seq (.ret (.call 41 (.cons (.lst (.cons (.call 46 (.cons (.var 1) (.nil))) (.cons (.call 46 (.cons (.var 4) (.nil))) (.cons (.call 46 (.cons (.var 6) (.nil))) (.nil))))) (.nil)))) (.skip)))⟩
def n85 : List Str := sL ["word", "head", "mark", "rest", "one", "plus", "other"]
/-- grammar_word_from(word) -/
def f86 : FE := .code ⟨1, 4, .seq (.asg (.tup (.cons (.name 1) (.cons (.name 2) (.cons (.name 3) (.nil))))) (.m1 2 (.var 0) (.c (.str [61])))) (.seq (.ret (.call 41 (.cons (.lst (.cons (.call 46 (.cons (.var 1) (.nil))) (.cons (.var 3) (.nil)))) (.nil)))) (.skip))⟩
def n86 : List Str := sL ["word", "sign", "mark", "tag"]
/-- grammar_from(text) -/
def f87 : FE := .code ⟨1, 7, .seq (.asg (.name 1) (.m1 1 (.var 0) (.c (.str [32, 124, 32])))) (.seq (.iff (.cmp 5 (.u1 0 (.var 1)) (.c (.int 4))) (.seq (.ret (.c (.non))) (.skip)) (.skip)) (.seq (.asg (.name 2) (.call 41 (.cons (.lc (.name 6) [6] (.seq (.m1 1 (.ix (.var 1) (.c (.int 1))) (.c (.str [32])))) (.c (.bl true)) (.call 84 (.cons (.var 6) (.nil)))) (.nil)))) (.seq (.par2 4 5 [false, false] (.cons (.call 42 (.cons (.ix (.var 1) (.c (.int 2))) (.cons (.g 49) (.cons (.c (.str [32])) (.nil))))) (.cons (.call 42 (.cons (.ix (.var 1) (.c (.int 3))) (.cons (.g 50) (.cons (.c (.str [32])) (.nil))))) (.nil)))) (.seq (.asg (.name 3) (.tup (.cons (.call 47 (.cons (.ix (.var 1) (.c (.int 0))) (.nil))) (.cons (.var 2) (.cons (.var 4) (.cons (.var 5) (.nil))))))) (.seq (.ret (.ite (.and (.tv (.call 39 (.cons (.var 3) (.nil)))) (.one (.cmp 4 (.call 65 (.cons (.var 3) (.nil))) (.var 0)))) (.var 3) (.c (.non)))) (.skip))))))⟩
def n87 : List Str := sL ["text", "parts", "sizes", "found", "rules", "words", "word"]
/-- shown_tree(text) -/
def f88 : FE := .code ⟨1, 2, .seq (.asg (.name 1) (.call 51 (.cons (.var 0) (.nil)))) (.seq (.ret (.ite (.and (.cmp 9 (.var 1) (.c (.non))) (.one (.cmp 4 (.call 66 (.cons (.var 1) (.nil))) (.var 0)))) (.var 1) (.c (.non)))) (.skip))⟩
def n88 : List Str := sL ["text", "found"]
/-- sentence_from(text) -/
def f89 : FE := .code ⟨1, 3, .seq (.asg (.name 1) (.u1 1 (.m1 1 (.var 0) (.c (.str [32]))))) (.seq (.ret (.ite (.and (.cmp 1 (.u1 0 (.var 1)) (.g 18)) (.one (.tv (.u1 3 (.lc (.name 2) [2] (.seq (.var 1)) (.c (.bl true)) (.call 30 (.cons (.var 2) (.nil)))))))) (.var 1) (.c (.non)))) (.skip))⟩
def n89 : List Str := sL ["text", "found", "tag"]
/-- needed(found, text) -/
def f90 : FE := .code ⟨2, 2, .seq (.iff (.cmp 8 (.var 0) (.c (.non))) (.seq (.raise 5 (.call 7 (.cons (.var 1) (.nil)))) (.skip)) (.skip)) (.seq (.ret (.var 0)) (.skip))⟩
def n90 : List Str := sL ["found", "text"]
/-- read_by(kind, text) -/
def f91 : FE := .code ⟨2, 2, .seq (.ret (.call 90 (.cons (.ite (.tv (.isi 1 (.var 1))) (.callL 0 (.cons (.var 1) (.nil))) (.c (.non))) (.cons (.var 1) (.nil))))) (.skip)⟩
def n91 : List Str := sL ["kind", "text"]
/-- read_with(kind, n, text) -/
def f92 : FE := .code ⟨3, 3, .seq (.expr (.call 10 (.cons (.var 1) (.nil)))) (.seq (.ret (.call 90 (.cons (.ite (.tv (.isi 1 (.var 2))) (.callL 0 (.cons (.var 1) (.cons (.var 2) (.nil)))) (.c (.non))) (.cons (.var 2) (.nil))))) (.skip))⟩
def n92 : List Str := sL ["kind", "n", "text"]
/-- read_word(n, text) -/
def f93 : FE := .code ⟨2, 2, .seq (.ret (.call 92 (.cons (.g 151) (.cons (.var 0) (.cons (.var 1) (.nil)))))) (.skip)⟩
def n93 : List Str := sL ["n", "text"]
/-- read_pattern(n, text) -/
def f94 : FE := .code ⟨2, 2, .seq (.ret (.call 92 (.cons (.g 106) (.cons (.var 0) (.cons (.var 1) (.nil)))))) (.skip)⟩
def n94 : List Str := sL ["n", "text"]
/-- read_rule(n, text) -/
def f95 : FE := .code ⟨2, 2, .seq (.ret (.call 92 (.cons (.g 126) (.cons (.var 0) (.cons (.var 1) (.nil)))))) (.skip)⟩
def n95 : List Str := sL ["n", "text"]
/-- read_cascade(text) -/
def f96 : FE := .code ⟨1, 1, .seq (.ret (.call 91 (.cons (.g 43) (.cons (.var 0) (.nil))))) (.skip)⟩
def n96 : List Str := sL ["text"]
/-- read_machine(text) -/
def f97 : FE := .code ⟨1, 1, .seq (.ret (.call 91 (.cons (.g 97) (.cons (.var 0) (.nil))))) (.skip)⟩
def n97 : List Str := sL ["text"]
/-- read_book(text) -/
def f98 : FE := .code ⟨1, 1, .seq (.ret (.call 91 (.cons (.g 41) (.cons (.var 0) (.nil))))) (.skip)⟩
def n98 : List Str := sL ["text"]
/-- read_sign(text) -/
def f99 : FE := .code ⟨1, 1, .seq (.ret (.call 91 (.cons (.g 140) (.cons (.var 0) (.nil))))) (.skip)⟩
def n99 : List Str := sL ["text"]
/-- read_grammar(text) -/
def f100 : FE := .code ⟨1, 1, .seq (.ret (.call 91 (.cons (.g 48) (.cons (.var 0) (.nil))))) (.skip)⟩
def n100 : List Str := sL ["text"]
/-- read_tree(text) -/
def f101 : FE := .code ⟨1, 1, .seq (.ret (.call 91 (.cons (.g 141) (.cons (.var 0) (.nil))))) (.skip)⟩
def n101 : List Str := sL ["text"]
/-- read_sentence(text) -/
def f102 : FE := .code ⟨1, 1, .seq (.ret (.call 91 (.cons (.g 128) (.cons (.var 0) (.nil))))) (.skip)⟩
def n102 : List Str := sL ["text"]
/-- _law_well(script, k) -/
def f103 : FE := .code ⟨2, 6, .seq (.asg (.name 2) (.ite (.cmp 0 (.var 1) (.u1 0 (.var 0))) (.u1 9 (.ix (.var 0) (.var 1))) (.bin 0 (.bin 2 (.c (.int 71)) (.var 1)) (.c (.int 37))))) (.seq (.asg (.name 3) (.bin 0 (.c (.int 29)) (.u1 0 (.var 0)))) (.seq (.for (.name 4) (.seq (.var 0)) (.seq (.asg (.name 3) (.bin 4 (.u1 9 (.bin 0 (.bin 2 (.var 3) (.c (.int 5323))) (.bin 4 (.u1 9 (.var 4)) (.bin 0 (.bin 5 (.c (.int 10)) (.c (.int 19))) (.c (.int 51)))))) (.bin 0 (.bin 5 (.c (.int 10)) (.c (.int 25))) (.c (.int 13))))) (.skip))) (.seq (.asg (.name 5) (.bin 4 (.u1 9 (.bin 0 (.bin 0 (.bin 0 (.bin 2 (.u1 10 (.var 2)) (.c (.int 7129))) (.bin 2 (.var 3) (.c (.int 41)))) (.bin 2 (.c (.int 3)) (.u1 9 (.cmp 0 (.var 2) (.c (.int 0)))))) (.bin 2 (.c (.int 61)) (.var 1)))) (.bin 0 (.bin 5 (.c (.int 10)) (.c (.int 28))) (.c (.int 331))))) (.seq (.ret (.lstc (.cons (.u2 0 (.c (.int 0)) (.bin 1 (.u1 10 (.var 2)) (.bin 5 (.c (.int 10)) (.c (.int 18))))) (.cons (.var 5) (.cons (.c (.int 0)) (.nil)))))) (.skip)))))⟩
def n103 : List Str := sL ["script", "k", "cell", "whole", "part", "mixed"]
/-- _law_draw(well, many) -/
def f104 : FE := .code ⟨2, 5, .seq (.iff (.cmp 2 (.ix (.var 0) (.c (.int 0))) (.c (.int 0))) (.seq (.asg (.name 4) (.bin 4 (.u1 9 (.ix (.var 0) (.c (.int 0)))) (.var 1))) (.seq (.put 0 (.bin 3 (.ix (.var 0) (.c (.int 0))) (.var 1)) (.c (.int 0))) (.seq (.ret (.var 4)) (.skip)))) (.skip)) (.seq (.put 0 (.bin 0 (.ix (.var 0) (.c (.int 2))) (.c (.int 1))) (.c (.int 2))) (.seq (.asg (.name 2) (.ix (.var 0) (.c (.int 2)))) (.seq (.asg (.name 3) (.bin 4 (.u1 9 (.bin 0 (.bin 0 (.bin 2 (.bin 2 (.bin 0 (.ix (.var 0) (.c (.int 1))) (.c (.int 31))) (.bin 0 (.var 2) (.c (.int 5)))) (.c (.int 998244353))) (.bin 2 (.bin 2 (.bin 2 (.var 2) (.var 2)) (.var 2)) (.c (.int 424242427)))) (.c (.int 77)))) (.bin 0 (.bin 5 (.c (.int 10)) (.c (.int 29))) (.c (.int 319))))) (.seq (.asg (.name 3) (.bin 4 (.u1 9 (.bin 0 (.bin 0 (.bin 2 (.var 3) (.var 3)) (.bin 2 (.ix (.var 0) (.c (.int 1))) (.c (.int 7)))) (.var 2))) (.bin 0 (.bin 5 (.c (.int 10)) (.c (.int 31))) (.c (.int 33))))) (.seq (.asg (.name 3) (.bin 4 (.u1 9 (.bin 0 (.bin 2 (.bin 2 (.var 3) (.var 3)) (.c (.int 3))) (.bin 2 (.var 3) (.c (.int 11))))) (.bin 0 (.bin 5 (.c (.int 10)) (.c (.int 33))) (.c (.int 603))))) (.seq (.ret (.bin 4 (.u1 9 (.bin 3 (.var 3) (.c (.int 50021)))) (.var 1))) (.skip)))))))⟩
def n104 : List Str := sL ["well", "many", "step", "mixed", "found"]
def f105 : FE := .ext x_law_read
def n105 : List Str := sL ["which", "text", "found", "is_alone", "error"]
/-- _law_shown(which, value) -/
def f106 : FE := .code ⟨2, 2, .seq (.iff (.cmp 0 (.var 0) (.c (.int 3))) (.seq (.ret (.ite (.cmp 4 (.var 0) (.c (.int 0))) (.call 53 (.cons (.var 1) (.nil))) (.ite (.cmp 4 (.var 0) (.c (.int 1))) (.call 56 (.cons (.var 1) (.nil))) (.call 57 (.cons (.var 1) (.nil)))))) (.skip)) (.skip)) (.seq (.iff (.cmp 0 (.var 0) (.c (.int 6))) (.seq (.ret (.ite (.cmp 4 (.var 0) (.c (.int 3))) (.call 58 (.cons (.var 1) (.nil))) (.ite (.cmp 4 (.var 0) (.c (.int 4))) (.call 60 (.cons (.var 1) (.nil))) (.call 63 (.cons (.var 1) (.nil)))))) (.skip)) (.skip)) (.seq (.iff (.cmp 0 (.var 0) (.c (.int 8))) (.seq (.ret (.ite (.cmp 4 (.var 0) (.c (.int 6))) (.call 64 (.cons (.var 1) (.nil))) (.call 65 (.cons (.var 1) (.nil))))) (.skip)) (.skip)) (.seq (.ret (.ite (.cmp 4 (.var 0) (.c (.int 8))) (.call 66 (.cons (.var 1) (.nil))) (.call 67 (.cons (.var 1) (.nil))))) (.skip))))⟩
def n106 : List Str := sL ["which", "value"]
/-- _law_texts() -/
def f107 : FE := .code ⟨0, 4, .seq (.asg (.name 0) (.c (.str [50, 32, 124, 32, 97, 98, 58, 67, 65, 84, 32, 98, 58, 68, 79, 71, 32, 59, 32, 46, 58, 79, 78, 69, 32, 97, 58, 77, 65, 78, 89, 32, 124, 32, 48, 32, 124, 32, 48, 62, 49, 32, 124, 32, 49]))) (.seq (.asg (.name 1) (.c (.str [115, 32, 124, 32, 97, 32, 110, 40, 50, 41, 32, 115, 32, 118, 40, 50, 44, 50, 41, 32, 124, 32, 115, 61, 110, 40, 120, 41, 43, 118, 40, 120, 44, 121, 41, 32, 118, 40, 120, 44, 48, 41, 61, 118, 40, 120, 44, 49, 41, 43, 97, 32, 124, 32, 110, 40, 48, 41, 61, 78, 79, 85, 78, 46, 79, 78, 69, 32, 97, 61, 79, 70, 84, 69, 78]))) (.seq (.asg (.name 2) (.c (.str [62, 97, 98, 32, 97, 62, 98, 32, 99, 62, 46, 32, 47, 32, 35, 32, 97, 63, 32, 98, 99, 42, 32, 124, 32, 46, 32, 95, 32, 97, 98, 32, 99, 32, 124, 32, 97, 32, 35, 32, 47, 32, 97, 116, 32, 111, 110, 99, 101, 32, 109, 117, 115, 116]))) (.seq (.asg (.name 3) (.lst (.cons (.c (.str [97, 98, 99, 97, 98])) (.cons (.c (.str [35, 32, 97, 98, 63, 32, 99, 42, 32, 124, 32, 46, 32, 124, 32, 97])) (.cons (.var 2) (.cons (.bin 0 (.bin 0 (.c (.str [51, 32, 59, 32])) (.var 2)) (.c (.str [32, 59, 32, 98, 62, 97, 32, 47, 32, 46, 32, 95, 32, 46, 32, 47, 32, 111, 110, 119, 97, 114, 100, 32, 109, 97, 121]))) (.cons (.c (.str [50, 32, 59, 32, 49, 32, 97, 49, 32, 98, 48, 32, 59, 32, 48, 32, 97, 48])) (.nil)))))))) (.seq (.asg (.name 3) (.bin 0 (.var 3) (.lst (.cons (.var 0) (.cons (.c (.str [110, 111, 117, 110, 40, 48, 44, 120, 41])) (.cons (.var 1) (.cons (.c (.str [91, 115, 32, 110, 40, 48, 41, 58, 78, 79, 85, 78, 46, 79, 78, 69, 32, 91, 118, 40, 48, 41, 32, 118, 40, 48, 41, 58, 86, 69, 82, 66, 46, 79, 78, 69, 32, 91, 97, 32, 97, 58, 79, 70, 84, 69, 78, 32, 97, 58, 79, 70, 84, 69, 78, 93, 93, 93])) (.nil)))))))) (.seq (.ret (.bin 0 (.var 3) (.lst (.cons (.c (.str [78, 79, 85, 78, 46, 79, 78, 69, 32, 65, 32, 66, 46, 46])) (.nil))))) (.skip))))))⟩
def n107 : List Str := sL ["book", "grammar", "rule", "found"]
/-- _law_bent(well, text) -/
def f108 : FE := .code ⟨2, 9, .seq (.par2 3 4 [false, false] (.cons (.call 104 (.cons (.var 0) (.cons (.c (.int 8)) (.nil)))) (.cons (.c (.str [32, 97, 98, 99, 46, 35, 124, 95, 47, 62, 63, 42, 59, 58, 40, 41, 91, 93, 61, 43, 44, 45, 48, 49, 57, 120, 121, 122, 115, 65, 90])) (.nil)))) (.seq (.par2 5 6 [false, false] (.cons (.call 104 (.cons (.var 0) (.cons (.bin 0 (.u1 0 (.var 1)) (.c (.int 1))) (.nil)))) (.cons (.ix (.var 4) (.call 104 (.cons (.var 0) (.cons (.c (.int 31)) (.nil))))) (.nil)))) (.seq (.iff (.cmp 0 (.var 3) (.c (.int 2))) (.seq (.ret (.bin 0 (.bin 0 (.cutH (.var 1) (.var 5)) (.var 6)) (.cutL (.var 1) (.var 5)))) (.skip)) (.skip)) (.seq (.iff (.cmp 0 (.var 3) (.c (.int 4))) (.seq (.ret (.bin 0 (.cutH (.var 1) (.var 5)) (.cutL (.var 1) (.bin 0 (.var 5) (.c (.int 1)))))) (.skip)) (.skip)) (.seq (.iff (.cmp 0 (.var 3) (.c (.int 6))) (.seq (.ret (.bin 0 (.bin 0 (.cutH (.var 1) (.var 5)) (.var 6)) (.cutL (.var 1) (.bin 0 (.var 5) (.c (.int 1)))))) (.skip)) (.skip)) (.seq (.asg (.name 2) (.m1 1 (.var 1) (.c (.str [32])))) (.seq (.par2 7 8 [false, false] (.cons (.call 104 (.cons (.var 0) (.cons (.u1 0 (.var 2)) (.nil)))) (.cons (.call 104 (.cons (.var 0) (.cons (.u1 0 (.var 2)) (.nil)))) (.nil)))) (.seq (.iff (.cmp 4 (.var 3) (.c (.int 6))) (.seq (.ret (.m1 0 (.c (.str [32])) (.bin 0 (.cutH (.var 2) (.var 7)) (.cutL (.var 2) (.bin 0 (.var 7) (.c (.int 1))))))) (.skip)) (.skip)) (.seq (.ret (.m1 0 (.c (.str [32])) (.bin 0 (.bin 0 (.cutH (.var 2) (.var 7)) (.lst (.cons (.ix (.var 2) (.var 8)) (.nil)))) (.cutL (.var 2) (.var 7))))) (.skip)))))))))⟩
def n108 : List Str := sL ["well", "text", "words", "way", "signs", "at", "sign", "place", "other"]
/-- law(script) -/
def f109 : FE := .code ⟨1, 12, .seq (.asg (.name 1) (.lst (.cons (.c (.str [122])) (.cons (.c (.str [97, 32, 98])) (.cons (.c (.str [97, 62, 98])) (.cons (.c (.str [51, 32, 59, 32, 97])) (.cons (.c (.str [48, 32, 59, 32, 49])) (.cons (.c (.str [50, 32, 124, 32, 124, 32, 48, 32, 124, 32, 45, 32, 124, 32, 48])) (.cons (.c (.str [110, 111, 117, 110, 40, 41])) (.cons (.c (.str [115, 32, 124, 32, 115, 32, 124, 32, 115])) (.cons (.c (.str [91, 97, 32, 97, 58, 65, 93])) (.cons (.c (.str [97, 32, 66])) (.nil))))))))))))) (.seq (.for (.name 2) (.rng 1 (.cons (.u2 0 (.c (.int 1)) (.u2 1 (.c (.int 6)) (.u1 0 (.var 0)))) (.nil))) (.seq (.par2 4 5 [false, false] (.cons (.call 103 (.cons (.var 0) (.cons (.var 2) (.nil)))) (.cons (.call 107 (.nil)) (.nil)))) (.seq (.for (.name 3) (.rng 1 (.cons (.c (.int 10)) (.nil))) (.seq (.asg (.name 6) (.call 105 (.cons (.var 3) (.cons (.ix (.var 5) (.var 3)) (.nil))))) (.seq (.iff (.or (.cmp 6 (.var 6) (.tup (.cons (.c (.str [61, 110, 111, 110, 101, 61])) (.cons (.c (.str [61, 111, 116, 104, 101, 114, 61])) (.nil))))) (.one (.cmp 5 (.call 106 (.cons (.var 3) (.cons (.var 6) (.nil)))) (.ix (.var 5) (.var 3))))) (.seq (.ret (.c (.bl false))) (.skip)) (.skip)) (.seq (.for (.name 7) (.rng 1 (.cons (.c (.int 4)) (.nil))) (.seq (.asg (.name 10) (.call 108 (.cons (.var 4) (.cons (.ix (.var 5) (.var 3)) (.nil))))) (.seq (.asg (.name 10) (.ite (.and (.cmp 4 (.call 104 (.cons (.var 4) (.cons (.c (.int 3)) (.nil)))) (.c (.int 0))) (.one (.cmp 5 (.var 10) (.c (.str []))))) (.call 108 (.cons (.var 4) (.cons (.var 10) (.nil)))) (.var 10))) (.seq (.asg (.name 11) (.call 105 (.cons (.var 3) (.cons (.var 10) (.nil))))) (.seq (.iff (.or (.cmp 4 (.var 11) (.c (.str [61, 111, 116, 104, 101, 114, 61]))) (.one (.and (.cmp 5 (.var 11) (.c (.str [61, 110, 111, 110, 101, 61]))) (.one (.cmp 5 (.call 106 (.cons (.var 3) (.cons (.var 11) (.nil)))) (.var 10)))))) (.seq (.ret (.c (.bl false))) (.skip)) (.skip)) (.skip)))))) (.seq (.iff (.and (.cmp 5 (.var 3) (.c (.int 1))) (.one (.cmp 5 (.call 105 (.cons (.var 3) (.cons (.ix (.var 1) (.var 3)) (.nil)))) (.c (.str [61, 110, 111, 110, 101, 61]))))) (.seq (.ret (.c (.bl false))) (.skip)) (.skip)) (.seq (.asg (.name 8) (.ix (.var 5) (.var 3))) (.seq (.asg (.name 9) (.lst (.cons (.c (.non)) (.cons (.c (.int 5)) (.cons (.lst (.cons (.var 8) (.nil))) (.cons (.tup (.cons (.var 8) (.nil))) (.cons (.bin 0 (.var 8) (.c (.str [32]))) (.cons (.bin 0 (.c (.str [32])) (.var 8)) (.cons (.c (.str [])) (.nil)))))))))) (.seq (.iff (.cmp 5 (.call 105 (.cons (.var 3) (.cons (.ix (.var 9) (.call 104 (.cons (.var 4) (.cons (.c (.int 7)) (.nil))))) (.nil)))) (.c (.str [61, 110, 111, 110, 101, 61]))) (.seq (.ret (.c (.bl false))) (.skip)) (.skip)) (.skip))))))))) (.skip)))) (.seq (.ret (.c (.bl true))) (.skip)))⟩
def n109 : List Str := sL ["script", "none", "k", "which", "well", "texts", "first", "turn", "text", "odd", "bent", "told"]
def F0 : List FE := [f0, f1, f2, f3, f4, f5, f6, f7, f8, f9, f10, f11, f12, f13, f14, f15, f16, f17, f18, f19, f20, f21, f22, f23, f24, f25, f26, f27, f28, f29, f30, f31, f32, f33, f34, f35, f36, f37, f38, f39, f40, f41, f42, f43, f44, f45, f46, f47, f48, f49, f50, f51, f52, f53, f54, f55, f56, f57, f58, f59, f60, f61, f62, f63, f64, f65, f66, f67, f68, f69, f70, f71, f72, f73, f74, f75, f76, f77, f78, f79, f80, f81, f82, f83, f84, f85, f86, f87, f88, f89, f90, f91, f92, f93, f94, f95, f96, f97, f98, f99, f100, f101, f102, f103, f104, f105, f106, f107, f108, f109]
def N0 : List (List Str) := [n0, n1, n2, n3, n4, n5, n6, n7, n8, n9, n10, n11, n12, n13, n14, n15, n16, n17, n18, n19, n20, n21, n22, n23, n24, n25, n26, n27, n28, n29, n30, n31, n32, n33, n34, n35, n36, n37, n38, n39, n40, n41, n42, n43, n44, n45, n46, n47, n48, n49, n50, n51, n52, n53, n54, n55, n56, n57, n58, n59, n60, n61, n62, n63, n64, n65, n66, n67, n68, n69, n70, n71, n72, n73, n74, n75, n76, n77, n78, n79, n80, n81, n82, n83, n84, n85, n86, n87, n88, n89, n90, n91, n92, n93, n94, n95, n96, n97, n98, n99, n100, n101, n102, n103, n104, n105, n106, n107, n108, n109]
def chk (i : Nat) : Bool := match F0[i]?, N0[i]?, D0[i]? with
  | some f, some N, some d => ckLit G0 R0 N f d
  | _, _, _ => false
end K75
end
section
set_option maxRecDepth 100000
namespace K75
open PySem PySem.Spec PyProof.Rows L2 Tg
theorem lits : ckLits G0 R0 N0 F0 D0 = true := by decide +kernel
def srcR : Bool := match D0[i_law_read]? with
  | some (some (ar, b, sc)) => src5 G0 R0 ⟨n_law_read, sc, none⟩ cb0 c_Unreadable [c_InvalidBook, c_InvalidGrammar, c_InvalidRule] b && (ckS n_law_read ar sc && ar.args.length == 2)
  | _ => false
theorem srcR_ok : srcR = true := by decide +kernel
end K75
end
section
set_option Elab.async false
set_option maxRecDepth 100000
set_option maxHeartbeats 0
namespace K75
open PySem PySem.Spec PyProof.Rows L2 Tg
abbrev lawAt : Nat := 160
abbrev lawG : Nat := 91
theorem ext_fact {w : World} {mg : Str → Option Value} {base : Heap} {K : PySem.W.Frag} {j : Nat} {f : CallT → List PV → Store → Rs PV} (hj : F0[j]? = some (.ext f)) (c : obsV L0 K = valLD L0 w) (hK : K.In base) (hG : base.Ns mainGlobals mg) :
    FnFact (L0.W w K) mg base L0.G L0.R L0.nf j (.ext f) := by
  have hjj : j = i_law_read ∧ f = x_law_read := by
    have only : ∀ j < F0.length, (match F0[j]? with
      | some (.ext _) => true
      | _ => false) = true → j = i_law_read := by decide +kernel
    have hl : j < F0.length := (List.getElem?_eq_some_iff.mp hj).1
    have ej := only j hl (by rw [hj])
    subst ej
    have e2 : F0[i_law_read]? = some (.ext x_law_read) := rfl
    rw [e2] at hj
    cases hj
    exact ⟨rfl, rfl⟩
  obtain ⟨rfl, rfl⟩ := hjj
  have hs := srcR_ok
  unfold srcR at hs
  split at hs
  · rename_i ar b sc e
    obtain ⟨h1, h2⟩ := He.ba hs
    obtain ⟨h2, h3⟩ := He.ba h2
    exact ext5 (L := L0) c hK hG e h2 rfl (by simpa using h3) h1 (by decide +kernel) rfl (by decide +kernel) (by decide +kernel) (by decide)
  · cases hs
end K75
end
section
set_option Elab.async false
set_option linter.all false
set_option autoImplicit false
set_option maxRecDepth 100000
set_option maxHeartbeats 0
namespace K75
open PySem PySem.Spec PyProof.Rows L2 Tg
abbrev C (n : Nat) : CallT := callN G0 R0 F0 n
abbrev Pn (n : Nat) : Px := ⟨C n, 110, G0, R0⟩
theorem cc {i ar nl : Nat} {b : CS} (hF : F0[i]? = some (.code ⟨ar, nl, b⟩)) (n : Nat) (ps : List PV) (S : Store) (hl : ps.length = ar) :
    C (n + 1) i ps S = outF (evS (Pn n) b (startE ps nl) S) := by
  show callN G0 R0 F0 (n + 1) i ps S = _
  unfold callN
  rw [hF]
  simp only
  rw [if_pos hl]
  rfl
/-! ### the parts of the meaning -/
theorem bnd_ok {α β : Type} {a : α} {S : Store} {k : α → Store → Rs β} : (Rs.ok a S).bnd k = k a S := rfl
theorem bnd_bad {α β : Type} {k : α → Store → Rs β} : (Rs.bad : Rs α).bnd k = .bad := rfl
theorem bnd_exc {α β : Type} {c : Nat} {v : PV} {S : Store} {k : α → Store → Rs β} : (Rs.exc c v S : Rs α).bnd k = .exc c v S := rfl
theorem okv_s {v : PV} {S : Store} : okv (some v) S = .ok v S := rfl
theorem onBl_b {b : Bool} {k : Bool → Rs PV} : onBl (.bl b) k = k b := rfl
theorem onI_i {b : Int} {k : Int → Rs PV} : onI (.int b) k = k b := rfl
theorem onS_s {s : List Nat} {k : Rs PV} : onS (.str s) k = k := rfl
theorem onT_s {s : List Nat} {k : List Nat → Rs PV} : onT (.str s) k = k s := rfl
theorem tst_b {b : Bool} {k : Bool → Rs PV} : tst (.bl b) k = k b := rfl
theorem tstS_b {b : Bool} {k : Bool → Rs Fl} : tstS (.bl b) k = k b := rfl
theorem okE_s {ρ : Tg.Env} {S : Store} : okE (some ρ) S = .ok (.nx ρ) S := rfl
theorem outF_rt {v : PV} {S : Store} : outF (.ok (.rt v) S) = .ok v S := rfl
theorem outF_nx {ρ : Tg.Env} {S : Store} : outF (.ok (.nx ρ) S) = .ok .non S := rfl
theorem outF_exc {c : Nat} {v : PV} {S : Store} : outF (.exc c v S) = .exc c v S := rfl
theorem seqK_nx {d : DenS} {ρ : Tg.Env} {S : Store} : seqK d (.nx ρ) S = d ρ S := rfl
theorem seqK_rt {d : DenS} {v : PV} {S : Store} : seqK d (.rt v) S = .ok (.rt v) S := rfl
theorem okL_s {l : List PV} {S : Store} : okL (some l) S = .ok (.lst l) S := rfl
theorem asL_l {l : List PV} : asL (.lst l) = l := rfl
theorem okN0 {v : PV} {S : Store} : okN [] v S = .ok v S := if_pos (by decide)
theorem okN1 {a v : PV} {S : Store} : okN [a] v S = .ok v S := if_pos (show 1 ≤ sizeLine by decide)
theorem okN2 {a b v : PV} {S : Store} : okN [a, b] v S = .ok v S := if_pos (show 2 ≤ sizeLine by decide)
theorem okN3 {a b c v : PV} {S : Store} : okN [a, b, c] v S = .ok v S := if_pos (show 3 ≤ sizeLine by decide)
theorem okN4 {a b c d v : PV} {S : Store} : okN [a, b, c, d] v S = .ok v S := if_pos (show 4 ≤ sizeLine by decide)
theorem okN5 {a b c d e v : PV} {S : Store} : okN [a, b, c, d, e] v S = .ok v S := if_pos (show 5 ≤ sizeLine by decide)
theorem look0 {s : Sl} {r : Tg.Env} : look (s :: r) 0 = s := rfl
theorem lookS {s : Sl} {r : Tg.Env} {i : Nat} : look (s :: r) (i + 1) = look r i := rfl
theorem dVar_v {i : Nat} {ρ : Tg.Env} {S : Store} {v : PV} (h : look ρ i = .val v) : dVar i ρ S = .ok v S := by unfold dVar; rw [h]
theorem v0 {v : PV} {r : Tg.Env} {S : Store} : dVar 0 (.val v :: r) S = .ok v S := rfl
theorem v1 {a : Sl} {v : PV} {r : Tg.Env} {S : Store} : dVar 1 (a :: .val v :: r) S = .ok v S := rfl
theorem v2 {a b : Sl} {v : PV} {r : Tg.Env} {S : Store} : dVar 2 (a :: b :: .val v :: r) S = .ok v S := rfl
theorem v3 {a b c : Sl} {v : PV} {r : Tg.Env} {S : Store} : dVar 3 (a :: b :: c :: .val v :: r) S = .ok v S := rfl
theorem v4 {a b c d : Sl} {v : PV} {r : Tg.Env} {S : Store} : dVar 4 (a :: b :: c :: d :: .val v :: r) S = .ok v S := rfl
theorem v5 {a b c d e : Sl} {v : PV} {r : Tg.Env} {S : Store} : dVar 5 (a :: b :: c :: d :: e :: .val v :: r) S = .ok v S := rfl
theorem v6 {a b c d e f : Sl} {v : PV} {r : Tg.Env} {S : Store} : dVar 6 (a :: b :: c :: d :: e :: f :: .val v :: r) S = .ok v S := rfl
theorem v7 {a b c d e f g : Sl} {v : PV} {r : Tg.Env} {S : Store} : dVar 7 (a :: b :: c :: d :: e :: f :: g :: .val v :: r) S = .ok v S := rfl
theorem v8 {a b c d e f g h : Sl} {v : PV} {r : Tg.Env} {S : Store} : dVar 8 (a :: b :: c :: d :: e :: f :: g :: h :: .val v :: r) S = .ok v S := rfl
theorem v9 {a b c d e f g h i : Sl} {v : PV} {r : Tg.Env} {S : Store} : dVar 9 (a :: b :: c :: d :: e :: f :: g :: h :: i :: .val v :: r) S = .ok v S := rfl
theorem v10 {a b c d e f g h i j : Sl} {v : PV} {r : Tg.Env} {S : Store} : dVar 10 (a :: b :: c :: d :: e :: f :: g :: h :: i :: j :: .val v :: r) S = .ok v S := rfl
theorem v11 {a b c d e f g h i j k : Sl} {v : PV} {r : Tg.Env} {S : Store} : dVar 11 (a :: b :: c :: d :: e :: f :: g :: h :: i :: j :: k :: .val v :: r) S = .ok v S := rfl
theorem isi1 {i : Int} : uIsi "int" (.int i) = some (.bl true) := rfl
theorem isi2 {i : Int} : uIsi "str" (.int i) = some (.bl false) := rfl
theorem isi3 {i : Int} : uIsi "tuple" (.int i) = some (.bl false) := rfl
theorem isi4 {i : Int} : uIsi "list" (.int i) = some (.bl false) := rfl
theorem isi5 {i : Int} : uIsi "bool" (.int i) = some (.bl false) := rfl
theorem iss1 {i : List Nat} : uIsi "int" (.str i) = some (.bl false) := rfl
theorem iss2 {i : List Nat} : uIsi "str" (.str i) = some (.bl true) := rfl
theorem iss3 {i : List Nat} : uIsi "tuple" (.str i) = some (.bl false) := rfl
theorem iss4 {i : List Nat} : uIsi "list" (.str i) = some (.bl false) := rfl
theorem iss5 {i : List Nat} : uIsi "bool" (.str i) = some (.bl false) := rfl
theorem ist1 {i : List PV} : uIsi "int" (.tup i) = some (.bl false) := rfl
theorem ist2 {i : List PV} : uIsi "str" (.tup i) = some (.bl false) := rfl
theorem ist3 {i : List PV} : uIsi "tuple" (.tup i) = some (.bl true) := rfl
theorem ist4 {i : List PV} : uIsi "list" (.tup i) = some (.bl false) := rfl
theorem ist5 {i : List PV} : uIsi "bool" (.tup i) = some (.bl false) := rfl
theorem isn1 : uIsi "int" .non = some (.bl false) := rfl
theorem isn2 : uIsi "str" .non = some (.bl false) := rfl
theorem isn3 : uIsi "tuple" .non = some (.bl false) := rfl
theorem isb5 {b : Bool} : uIsi "bool" (.bl b) = some (.bl true) := rfl
theorem len_t {l : List PV} : uLen (.tup l) = some (.int l.length) := rfl
theorem len_l {l : List PV} : uLen (.lst l) = some (.int l.length) := rfl
theorem len_s {s : List Nat} (h : s.length ≤ sizeLine) : uLen (.str s) = some (.int s.length) := if_pos h
theorem lt_i {i j : Int} : vLt (.int i) (.int j) = some (.bl (decide (i < j))) := rfl
theorem le_i {i j : Int} : vLe (.int i) (.int j) = some (.bl (decide (i ≤ j))) := rfl
theorem gt_i {i j : Int} : vGt (.int i) (.int j) = some (.bl (decide (j < i))) := rfl
theorem ge_i {i j : Int} : vGe (.int i) (.int j) = some (.bl (decide (j ≤ i))) := rfl
theorem eq_i {i j : Int} : vEq (.int i) (.int j) = some (.bl (decide (i = j))) := rfl
theorem ne_i {i j : Int} : vNe (.int i) (.int j) = some (.bl (!decide (i = j))) := rfl
theorem eq_s {i j : List Nat} : vEq (.str i) (.str j) = some (.bl (decide (i = j))) := rfl
theorem ne_s {i j : List Nat} : vNe (.str i) (.str j) = some (.bl (!decide (i = j))) := rfl
theorem lt_s {i j : List Nat} : vLt (.str i) (.str j) = some (.bl (decide (i < j))) := rfl
theorem add_i {i j : Int} : vAdd (.int i) (.int j) = some (.int (i + j)) := rfl
theorem sub_i {i j : Int} : vSub (.int i) (.int j) = some (.int (i - j)) := rfl
theorem neg_i {i : Int} : vNeg (.int i) = some (.int (-i)) := rfl
theorem is_non : vIs .non .non = some (.bl true) := rfl
theorem is_t {l : List PV} : vIs (.tup l) .non = some (.bl false) := rfl
theorem is_s {l : List Nat} : vIs (.str l) .non = some (.bl false) := rfl
theorem is_i {l : Int} : vIs (.int l) .non = some (.bl false) := rfl
theorem isn_non : vIsN .non .non = some (.bl false) := rfl
theorem isn_t {l : List PV} : vIsN (.tup l) .non = some (.bl true) := rfl
theorem isn_s {l : List Nat} : vIsN (.str l) .non = some (.bl true) := rfl
theorem isn_i {l : Int} : vIsN (.int l) .non = some (.bl true) := rfl
theorem at_t0 {a : PV} {l : List PV} : vIdx (.tup (a :: l)) (.int 0) = some a := rfl
theorem at_t1 {a b : PV} {l : List PV} : vIdx (.tup (a :: b :: l)) (.int 1) = some b := rfl
theorem at_t2 {a b c : PV} {l : List PV} : vIdx (.tup (a :: b :: c :: l)) (.int 2) = some c := rfl
theorem at_t3 {a b c d : PV} {l : List PV} : vIdx (.tup (a :: b :: c :: d :: l)) (.int 3) = some d := rfl
theorem at_t4 {a b c d e : PV} {l : List PV} : vIdx (.tup (a :: b :: c :: d :: e :: l)) (.int 4) = some e := rfl
theorem ixt {l : List PV} {u : PV} {S : Store} : ixS (.tup l) u S = vIdx (.tup l) u := rfl
theorem ixl {l : List PV} {u : PV} {S : Store} : ixS (.lst l) u S = vIdx (.lst l) u := rfl
theorem ixs {l : List Nat} {u : PV} {S : Store} : ixS (.str l) u S = vIdx (.str l) u := rfl
theorem sq_t {l : List PV} : sqOf (.tup l) = some l := rfl
theorem sq_l {l : List PV} : sqOf (.lst l) = some l := rfl
theorem sq_s {l : List Nat} : sqOf (.str l) = some (Tg.signs l) := rfl
theorem tup_l {l : List PV} : uTuple (.lst l) = some (.tup l) := rfl
theorem in_c {c : Nat} {z : List Nat} : vIn (.str [c]) (.str z) = some (.bl (decide (c ∈ z))) := rfl
theorem nin_c {c : Nat} {z : List Nat} : vNotIn (.str [c]) (.str z) = some (.bl (!decide (c ∈ z))) := rfl
theorem and_bl {b c : Bool} {S : Store} : (if b = true then Rs.ok (PV.bl c) S else Rs.ok (PV.bl false) S) = Rs.ok (PV.bl (b && c)) S := by cases b <;> rfl
theorem or_bl {b c : Bool} {S : Store} : (if b = true then Rs.ok (PV.bl true) S else Rs.ok (PV.bl c) S) = Rs.ok (PV.bl (b || c)) S := by cases b <;> rfl
theorem ite_ok {b : Bool} {u v : PV} {S : Store} : (if b = true then Rs.ok u S else Rs.ok v S) = Rs.ok (if b = true then u else v) S := by cases b <;> rfl
theorem ret_ok {b : Bool} {u v : PV} {S : Store} : outF (if b = true then Rs.ok (.rt u) S else Rs.ok (.rt v) S) = Rs.ok (if b = true then u else v) S := by cases b <;> rfl
theorem ib_and {b c : Bool} : (if b = true then PV.bl c else PV.bl false) = PV.bl (b && c) := by cases b <;> rfl
theorem ib_or {b c : Bool} : (if b = true then PV.bl true else PV.bl c) = PV.bl (b || c) := by cases b <;> rfl
theorem ib_f {b c : Bool} : (if b = true then PV.bl false else PV.bl c) = PV.bl (!b && c) := by cases b <;> rfl
/-- a turn away, then the rest -/
theorem guard_ok {b : Bool} {u : PV} {S : Store} {ρ : Tg.Env} {k : DenS} : outF ((if b = true then Rs.ok (.rt u) S else Rs.ok (.nx ρ) S).bnd (seqK k)) = if b = true then .ok u S else outF (k ρ S) := by cases b <;> rfl
theorem st0 {n : Nat} : startE [] n = List.replicate (n - 0) .no := rfl
theorem st1 {n : Nat} {a : PV} : startE [a] n = .val a :: List.replicate (n - 1) .no := rfl
theorem st2 {n : Nat} {a b : PV} : startE [a, b] n = .val a :: .val b :: List.replicate (n - 2) .no := rfl
theorem st3 {n : Nat} {a b c : PV} : startE [a, b, c] n = .val a :: .val b :: .val c :: List.replicate (n - 3) .no := rfl
theorem st4 {n : Nat} {a b c d : PV} : startE [a, b, c, d] n = .val a :: .val b :: .val c :: .val d :: List.replicate (n - 4) .no := rfl
theorem nc0 : ((0 : Nat) : Int) = 0 := rfl
theorem nc1 : ((1 : Nat) : Int) = 1 := rfl
theorem nc2 : ((2 : Nat) : Int) = 2 := rfl
theorem nc3 : ((3 : Nat) : Int) = 3 := rfl
theorem nc4 : ((4 : Nat) : Int) = 4 := rfl
theorem nc5 : ((5 : Nat) : Int) = 5 := rfl
theorem nc6 : ((6 : Nat) : Int) = 6 := rfl
local macro_rules | `(tactic| walk_at "es") => `(tactic| try simp only [st0, st1, st2, st3, st4, evS, ev, evO, dSeqS, dSkip, dExpr, dRet, dRetN, dIfS, dAsg, dC, dNil, dCons, consV, dTup, dLst, dB1, dB2, dChain, dIte, dAnd, dOr, dNot, dCall,
  dCutL, dCutH, dCutB, dM1, dIx, dSeq, dSrc, dLc, dFor, dPar2, oCons, oNil, wipeE, opF, cmF, u1F, u2F, m1F, isiN, rngF, Tgt.put, List.set, List.headD_cons, List.tail_cons,
  bnd_ok, bnd_bad, bnd_exc, okv_s, onBl_b, onI_i, onS_s, onT_s, tst_b, tstS_b, okE_s, outF_rt, outF_nx, outF_exc, seqK_nx, seqK_rt, okL_s, asL_l, okN0, okN1, okN2, okN3, okN4, okN5, v0, v1, v2, v3, v4, v5, v6, v7, v8, v9, v10, v11,
  isi1, isi2, isi3, isi4, isi5, iss1, iss2, iss3, iss4, iss5, ist1, ist2, ist3, ist4, ist5, isn1, isn2, isn3, isb5, len_t, len_l, lt_i, le_i, gt_i, ge_i, eq_i, ne_i, eq_s, ne_s, lt_s, add_i, sub_i, neg_i, is_non, is_t, is_s, is_i, isn_non, isn_t, isn_s, isn_i,
  at_t0, at_t1, at_t2, at_t3, at_t4, ixt, ixl, ixs, sq_t, sq_l, sq_s, tup_l, in_c, nin_c, and_bl, or_bl, ite_ok, ret_ok, guard_ok, ib_and, ib_or, ib_f, nc0, nc1, nc2, nc3, nc4, nc5, nc6, Int.reduceLE, Int.reduceLT, Int.reduceEq, decide_true, decide_false, Int.le_refl, Int.lt_irrefl,
  List.length_cons, List.length_nil, List.replicate, List.cons_append, List.nil_append, Nat.add_zero, Nat.zero_add, Nat.reduceAdd, Nat.reduceSub, Option.getD_some, Option.getD_none, Bool.not_false, Bool.not_true, Bool.true_or, Bool.false_or, Bool.true_and, Bool.false_and, Bool.and_true, Bool.or_true, Bool.or_false, if_true, if_false, Bool.false_eq_true, ite_true, ite_false])
/-! ### comprehensions -/
theorem lcGo_map {t : Tgt} {tt te : Den} {ρ : Tg.Env} {S : Store} (f : PV → PV) : ∀ xs : List PV, (∀ x ∈ xs, ∃ ρ1, t.put x ρ = some ρ1 ∧ tt ρ1 S = .ok (.bl true) S ∧ te ρ1 S = .ok (f x) S) → lcGo t tt te ρ xs S = .ok (xs.map f) S
  | [], _ => rfl
  | x :: xs, h => by
    obtain ⟨ρ1, h1, h2, h3⟩ := h x (List.mem_cons_self ..)
    have ih := lcGo_map f xs fun y hy => h y (List.mem_cons_of_mem _ hy)
    unfold lcGo
    rw [h1]; simp only
    rw [h2]; simp only [truth]
    rw [h3]; simp only
    rw [ih]; rfl
theorem lc_map {vs : List Nat} {t : Tgt} {tt te : Den} {ρ : Tg.Env} {S : Store} (f : PV → PV) {xs : List PV} (hl : xs.length ≤ sizeLine) (h : ∀ x ∈ xs, ∃ ρ1, t.put x (wipeE ρ vs) = some ρ1 ∧ tt ρ1 S = .ok (.bl true) S ∧ te ρ1 S = .ok (f x) S) :
    lcK vs t tt te ρ (.lst xs) S = .ok (.lst (xs.map f)) S := by
  unfold lcK
  show (if xs.length ≤ sizeLine then _ else _) = _
  rw [if_pos hl, show asL (PV.lst xs) = xs from rfl, lcGo_map f xs h]
  rfl
/-- of encoded things -/
theorem lc_enc {α : Type} {vs : List Nat} {t : Tgt} {tt te : Den} {ρ : Tg.Env} {S : Store} (e : α → PV) (f : α → PV) {xs : List α} (hl : xs.length ≤ sizeLine) (h : ∀ x ∈ xs, ∃ ρ1, t.put (e x) (wipeE ρ vs) = some ρ1 ∧ tt ρ1 S = .ok (.bl true) S ∧ te ρ1 S = .ok (f x) S) :
    lcK vs t tt te ρ (.lst (xs.map e)) S = .ok (.lst (xs.map f)) S := by
  unfold lcK
  show (if (xs.map e).length ≤ sizeLine then _ else _) = _
  rw [List.length_map, if_pos hl, show asL (PV.lst (xs.map e)) = xs.map e from rfl]
  have : lcGo t tt te (wipeE ρ vs) (xs.map e) S = .ok (xs.map f) S := by
    clear hl
    induction xs with
    | nil => rfl
    | cons x xs ih =>
      obtain ⟨ρ1, h1, h2, h3⟩ := h x (List.mem_cons_self ..)
      have ih := ih fun y hy => h y (List.mem_cons_of_mem _ hy)
      rw [List.map_cons, List.map_cons]
      unfold lcGo
      rw [h1]; simp only
      rw [h2]; simp only [truth]
      rw [h3]; simp only
      rw [ih]; rfl
  rw [this]; rfl
theorem asBls_map {α : Type} (g : α → Bool) : ∀ xs : List α, asBls (xs.map fun x => PV.bl (g x)) = some (xs.map g)
  | [] => rfl
  | x :: xs => by simp only [List.map_cons, asBls, asBls_map g xs]; rfl
theorem all_map {α : Type} (g : α → Bool) (xs : List α) : uAll (.lst (xs.map fun x => PV.bl (g x))) = some (.bl (xs.all g)) := by
  unfold uAll; simp only [asBls_map, Option.map_some, List.all_map]; rfl
theorem any_map {α : Type} (g : α → Bool) (xs : List α) : uAny (.lst (xs.map fun x => PV.bl (g x))) = some (.bl (xs.any g)) := by
  unfold uAny; simp only [asBls_map, Option.map_some, List.any_map]; rfl
theorem asStrs_map {α : Type} (g : α → List Nat) : ∀ xs : List α, asStrs (xs.map fun x => PV.str (g x)) = some (xs.map g)
  | [] => rfl
  | x :: xs => by simp only [List.map_cons, asStrs, asStrs_map g xs]; rfl
/-! ### validators -/
theorem s_is_integer (n : Nat) (S : Store) : (∀ i, C (n + 1) i_is_integer [.int i] S = .ok (.bl true) S) ∧ (∀ s, C (n + 1) i_is_integer [.str s] S = .ok (.bl false) S) ∧ C (n + 1) i_is_integer [.non] S = .ok (.bl false) S ∧ (∀ s, C (n + 1) i_is_integer [.tup s] S = .ok (.bl false) S) := by
  refine ⟨fun i => ?_, fun i => ?_, ?_, fun i => ?_⟩ <;> rw [cc rfl n _ S rfl] <;> walk_at "es" <;> rfl
theorem s_between_i (n : Nat) (S : Store) (v lo hi : Int) : C (n + 2) i_is_between [.int v, .int lo, .int hi] S = .ok (.bl (decide (lo ≤ v) && decide (v ≤ hi))) S := by
  rw [cc rfl (n + 1) _ S rfl]
  walk_at "es"
  rw [(s_is_integer n S).1]
  walk_at "es"
theorem s_between_s (n : Nat) (S : Store) (v : List Nat) (lo hi : Int) : C (n + 2) i_is_between [.str v, .int lo, .int hi] S = .ok (.bl false) S := by
  rw [cc rfl (n + 1) _ S rfl]
  walk_at "es"
  rw [(s_is_integer n S).2.1]
  walk_at "es"
theorem s_between_n (n : Nat) (S : Store) (lo hi : Int) : C (n + 2) i_is_between [.non, .int lo, .int hi] S = .ok (.bl false) S := by
  rw [cc rfl (n + 1) _ S rfl]
  walk_at "es"
  rw [(s_is_integer n S).2.2.1]
  walk_at "es"
theorem s_is_tuple (n : Nat) (S : Store) (xs : List PV) (lo hi : Int) : C (n + 1) i_is_tuple [.tup xs, .int lo, .int hi] S = .ok (.bl (decide (lo ≤ xs.length) && decide ((xs.length : Int) ≤ hi))) S := by
  rw [cc rfl n _ S rfl]
  walk_at "es"
theorem s_is_tuple_n (n : Nat) (S : Store) (lo hi : Int) : C (n + 1) i_is_tuple [.non, .int lo, .int hi] S = .ok (.bl false) S := by
  rw [cc rfl n _ S rfl]
  walk_at "es"
theorem inB_tup (s : List Nat) (l : List PV) : inB (.str s) (.tup l) = if flatIn (.str s) l = true then some (inF (.str s) l) else inD (.str s) l := by
  cases s with
  | nil => rfl
  | cons a r => cases r <;> rfl
theorem s_le {α : Type} {s : List α} {k : Nat} (h : s.length ≤ k) (hk : k ≤ 1000000 := by decide) : s.length ≤ sizeLine := by
  have : sizeLine = 16777216 := by decide
  omega
/-! ### data -/
def strG (s : List Nat) : Prop := s.length ≤ 65536 ∧ ∀ c ∈ s, c < 128
theorem strG.le {s : List Nat} (h : strG s) : s.length ≤ sizeLine := s_le h.1
/-- a datum of depth k at most -/
def Gd (k : Nat) (v : PV) : Prop := ∃ d, toD v = some d ∧ d.canLay0 = true ∧ d.depth ≤ k
theorem gd_non {k : Nat} : Gd k .non := ⟨_, rfl, rfl, Nat.zero_le _⟩
theorem gd_int {k : Nat} (i : Int) : Gd k (.int i) := ⟨_, rfl, rfl, Nat.zero_le _⟩
theorem gd_bl {k : Nat} (i : Bool) : Gd k (.bl i) := ⟨_, rfl, rfl, Nat.zero_le _⟩
theorem gd_str {k : Nat} {s : List Nat} (h : strG s) : Gd k (.str s) := by
  refine ⟨_, rfl, ?_, Nat.zero_le _⟩
  show PyData.canLay0 (.str _) = true
  unfold PyData.canLay0 PyData.strOk
  rw [Array.all_eq_true_iff_forall_mem]
  intro c hc
  have := h.2 c (by simpa using hc)
  simp; omega
theorem gd_list {k : Nat} : ∀ {xs : List PV}, (∀ x ∈ xs, Gd k x) → ∃ ds, toDs xs = some ds ∧ PyData.canLayAll0 ds = true ∧ PyData.depthAll ds ≤ k
  | [], _ => ⟨[], rfl, rfl, Nat.zero_le _⟩
  | x :: xs, h => by
    obtain ⟨d, h1, h2, h3⟩ := h x (List.mem_cons_self ..)
    obtain ⟨ds, q1, q2, q3⟩ := gd_list fun y hy => h y (List.mem_cons_of_mem _ hy)
    refine ⟨d :: ds, ?_, ?_, ?_⟩
    · unfold toDs; rw [h1, q1]
    · show (_ && _) = true; rw [h2, q2]; rfl
    · show max _ _ ≤ k; omega
theorem gd_tup {k : Nat} {xs : List PV} (h : ∀ x ∈ xs, Gd k x) : Gd (k + 1) (.tup xs) := by
  obtain ⟨ds, q1, q2, q3⟩ := gd_list h
  refine ⟨.tuple ds, ?_, q2, ?_⟩
  · unfold toD; rw [q1]
  · show PyData.depthAll ds + 1 ≤ _; omega
theorem Gd.mono {k m : Nat} {v : PV} (h : Gd k v) (hk : k ≤ m) : Gd m v := by
  obtain ⟨d, h1, h2, h3⟩ := h
  exact ⟨d, h1, h2, Nat.le_trans h3 hk⟩
theorem eq_unit {k : Nat} {xs : List PV} (h : ∀ x ∈ xs, Gd k x) (hk : k ≤ 63 := by decide) : eqB (.tup xs) (.tup []) = some xs.isEmpty := by
  obtain ⟨ds, q1, q2, q3⟩ := gd_list h
  show vEqD _ _ = _
  have e1 : toD (.tup xs) = some (.tuple ds) := by unfold toD; rw [q1]
  have e2 : toD (.tup []) = some (.tuple []) := rfl
  unfold vEqD
  rw [e1, e2]
  have : (SeqAt.shaped (.tuple ds) && SeqAt.shaped (.tuple [])) = true := by
    have a : SeqAt.shaped (.tuple ds) = true := by
      show (PyData.canLayAll0 ds && decide (PyData.depthAll ds + 1 ≤ 64)) = true
      rw [q2]; simp; omega
    rw [a]; decide
  simp only [this, if_true]
  cases xs with
  | nil => cases q1; rfl
  | cons x xs =>
    cases ds with
    | nil => unfold toDs at q1; split at q1 <;> (try split at q1) <;> simp at q1
    | cons d ds => rfl
theorem eqv_non : ∀ d : PyData, PyData.eqv d .none = (match d with | .none => true | _ => false) := by
  intro d; cases d <;> rfl
theorem in_non {k : Nat} {xs : List PV} (h : ∀ x ∈ xs, Gd k x) (hk : k ≤ 63 := by decide) : inB .non (.lst xs) = some (xs.any isNonP) := by
  have e : inB .non (.lst xs) = if flatIn .non xs = true then some (inF .non xs) else inD .non xs := rfl
  rw [e]
  split
  · congr 1
    unfold inF
    congr 1
    funext y
    cases y <;> rfl
  · obtain ⟨ds, q1, q2, q3⟩ := gd_list h
    unfold inD
    rw [show toD PV.non = some .none from rfl, q1]
    have a : (SeqAt.shaped .none && SeqAt.shaped (.list ds)) = true := by
      have a : SeqAt.shaped (.list ds) = true := by
        show (PyData.canLayAll0 ds && decide (PyData.depthAll ds + 1 ≤ 64)) = true
        rw [q2]; simp; omega
      rw [a]; decide
    simp only [a, if_true]
    congr 1
    rename_i hf; clear a q2 q3 e hf
    induction xs generalizing ds with
    | nil => cases q1; rfl
    | cons x xs ih =>
      unfold toDs at q1
      split at q1
      · rename_i d hd
        split at q1
        · rename_i es he
          cases q1
          rw [List.any_cons, List.any_cons, ih (fun y hy => h y (List.mem_cons_of_mem _ hy)) es he, eqv_non]
          congr 1
          cases x <;> simp [toD] at hd <;> (try (subst hd; rfl))
          all_goals (split at hd <;> simp at hd; subst hd; rfl)
        · cases q1
      · cases q1
end K75
end
section
set_option Elab.async false
set_option linter.all false
set_option autoImplicit false
set_option maxRecDepth 100000
set_option maxHeartbeats 0
namespace K75
open PySem PySem.Spec PyProof.Rows L2 Tg
local macro_rules | `(tactic| walk_at "es") => `(tactic| try simp only [st0, st1, st2, st3, st4, evS, ev, evO, dSeqS, dSkip, dExpr, dRet, dRetN, dIfS, dAsg, dC, dNil, dCons, consV, dTup, dLst, dB1, dB2, dChain, dIte, dAnd, dOr, dNot, dCall,
  dCutL, dCutH, dCutB, dM1, dIx, dSeq, dSrc, dLc, dFor, dPar2, oCons, oNil, wipeE, opF, cmF, u1F, u2F, m1F, isiN, rngF, Tgt.put, List.set, List.headD_cons, List.tail_cons,
  bnd_ok, bnd_bad, bnd_exc, okv_s, onBl_b, onI_i, onS_s, onT_s, tst_b, tstS_b, okE_s, outF_rt, outF_nx, outF_exc, seqK_nx, seqK_rt, okL_s, asL_l, okN0, okN1, okN2, okN3, okN4, okN5, v0, v1, v2, v3, v4, v5, v6, v7, v8, v9, v10, v11,
  isi1, isi2, isi3, isi4, isi5, iss1, iss2, iss3, iss4, iss5, ist1, ist2, ist3, ist4, ist5, isn1, isn2, isn3, isb5, len_t, len_l, lt_i, le_i, gt_i, ge_i, eq_i, ne_i, eq_s, ne_s, lt_s, add_i, sub_i, neg_i, is_non, is_t, is_s, is_i, isn_non, isn_t, isn_s, isn_i,
  at_t0, at_t1, at_t2, at_t3, at_t4, ixt, ixl, ixs, sq_t, sq_l, sq_s, tup_l, in_c, nin_c, and_bl, or_bl, ite_ok, ret_ok, guard_ok, ib_and, ib_or, ib_f, nc0, nc1, nc2, nc3, nc4, nc5, nc6, Int.reduceLE, Int.reduceLT, Int.reduceEq, decide_true, decide_false, Int.le_refl, Int.lt_irrefl,
  List.length_cons, List.length_nil, List.replicate, List.cons_append, List.nil_append, Nat.add_zero, Nat.zero_add, Nat.reduceAdd, Nat.reduceSub, Option.getD_some, Option.getD_none, Bool.not_false, Bool.not_true, Bool.true_or, Bool.false_or, Bool.true_and, Bool.false_and, Bool.and_true, Bool.or_true, Bool.or_false, if_true, if_false, Bool.false_eq_true, ite_true, ite_false])
/-! ### constants -/
def alpha : List Nat := [97, 98, 99, 100, 101, 102, 103, 104, 105, 106, 107, 108]
def kinds : List PV := [.str [97, 110, 121], .str [109, 97, 121, 98, 101], .str [111, 110, 101]]
theorem g0 : dG G0 0 = dC (.str alpha) := rfl
theorem g6 : dG G0 6 = dC (.tup kinds) := rfl
theorem g10 : dG G0 10 = dC (.int 6) := rfl
theorem g14 : dG G0 14 = dC (.int 8) := rfl
theorem g15 : dG G0 15 = dC (.int 8) := rfl
theorem g3 : dG G0 3 = dC (.tup [.str [101, 100, 103, 101]]) := rfl
theorem g20 : dG G0 20 = dC (.int 2) := rfl
def ways : List PV := [.str [97, 116, 32, 111, 110, 99, 101], .str [98, 97, 99, 107, 119, 97, 114, 100], .str [111, 110, 119, 97, 114, 100]]
def forces : List PV := [.str [109, 97, 121], .str [109, 117, 115, 116]]
theorem g26 : dG G0 26 = dC (.tup ways) := rfl
theorem g4 : dG G0 4 = dC (.tup forces) := rfl
def lets (n : Int) : List Nat := cutP alpha none (some n)
theorem lets_le (n : Int) : (lets n).length ≤ 12 := by
  unfold lets cutP
  rw [List.length_take, List.length_drop]
  exact Nat.le_trans (Nat.min_le_right _ _) (Nat.sub_le _ _)
/-! ### one -/
theorem in_t {s : List Nat} {l : List PV} (hl : flatIn (.str s) l = true) : vIn (.str s) (.tup l) = some (.bl (inF (.str s) l)) := by
  unfold vIn; rw [inB_tup, if_pos hl]; rfl
theorem s_is_text (n : Nat) (S : Store) {s z : List Nat} (lo hi : Int) (hs : s.length ≤ sizeLine) :
    C (n + 1) i_is_text [.str s, .str z, .int lo, .int hi] S = .ok (.bl ((decide (lo ≤ s.length) && decide ((s.length : Int) ≤ hi)) && s.all fun c => decide (c ∈ z))) S := by
  rw [cc rfl n _ S rfl]
  walk_at "es"
  rw [len_s hs]
  walk_at "es"
  rw [Tg.signs, lc_enc (fun c : Nat => PV.str [c]) (fun c : Nat => PV.bl (decide (c ∈ z))) hs (fun c _ => ⟨_, rfl, by walk_at "es", by walk_at "es"⟩)]
  walk_at "es"
  rw [all_map]
  walk_at "es"
theorem s_is_one_of (n : Nat) (S : Store) {s : List Nat} {l : List PV} (hl : flatIn (.str s) l = true) :
    C (n + 1) i_is_one_of [.str s, .tup l] S = .ok (.bl (inF (.str s) l)) S := by
  rw [cc rfl n _ S rfl]
  walk_at "es"
  rw [in_t hl]
  walk_at "es"
theorem flatS (s : List Nat) {l : List PV} (h : l.all flatP = true) : flatIn (.str s) l = true := by unfold flatIn; rw [h]; rfl
theorem s_letters_of (n : Nat) (S : Store) (k : Int) : C (n + 1) i_letters_of [.int k] S = .ok (.str (lets k)) S := by
  rw [cc rfl n _ S rfl]
  walk_at "es"
  rw [g0]
  walk_at "es"
  rfl
theorem s_is_letters (n : Nat) (S : Store) (k : Int) : C (n + 3) i_is_letters [.int k] S = .ok (.bl (decide (1 ≤ k) && decide (k ≤ 12))) S := by
  rw [cc rfl (n + 2) _ S rfl]
  walk_at "es"
  rw [g0]
  walk_at "es"
  rw [show uLen (.str alpha) = some (.int 12) from rfl]
  walk_at "es"
  rw [s_between_i]
  walk_at "es"
theorem s_is_letters_n (n : Nat) (S : Store) : C (n + 3) i_is_letters [.non] S = .ok (.bl false) S := by
  rw [cc rfl (n + 2) _ S rfl]
  walk_at "es"
  rw [g0]
  walk_at "es"
  rw [show uLen (.str alpha) = some (.int 12) from rfl]
  walk_at "es"
  rw [s_between_n]
  walk_at "es"
theorem s_need_n (n : Nat) (S : Store) {k : Int} (h : (decide (1 ≤ k) && decide (k ≤ 12)) = true) : C (n + 4) i_need_n [.int k] S = .ok .non S := by
  rw [cc rfl (n + 3) _ S rfl]
  walk_at "es"
  rw [s_is_letters, h]
  walk_at "es"
def isW (n : Int) (s : List Nat) : Bool := s.all fun c => decide (c ∈ lets n)
theorem s_is_word (n : Nat) (S : Store) (k : Int) {s : List Nat} (hs : s.length ≤ sizeLine) : C (n + 1) i_is_word [.int k, .str s] S = .ok (.bl (isW k s)) S := by
  rw [cc rfl n _ S rfl]
  walk_at "es"
  rw [Tg.signs, lc_enc (fun c : Nat => PV.str [c]) (fun c : Nat => PV.bl (decide (c ∈ lets k))) hs (fun c _ => ⟨_, rfl, by walk_at "es", by walk_at "es"; rw [g0]; walk_at "es"; rw [show vCut (.str alpha) none (some k) = some (.str (lets k)) from rfl]; walk_at "es"⟩)]
  walk_at "es"
  rw [all_map]
  walk_at "es"
  rfl
/-! ### items, rows, patterns -/
inductive Item where
  | edge | one (w : List Nat) | may (w : List Nat) | any (w : List Nat)
def eI : Item → PV
  | .edge => .tup [.str [101, 100, 103, 101]]
  | .one w => .tup [.str [111, 110, 101], .str w]
  | .may w => .tup [.str [109, 97, 121, 98, 101], .str w]
  | .any w => .tup [.str [97, 110, 121], .str w]
def Item.ok : Item → Prop
  | .edge => True
  | .one w => strG w
  | .may w => strG w
  | .any w => strG w
def rise : List Nat → Bool
  | [] => true
  | c :: r => (match r with | [] => true | d :: _ => decide (c < d)) && rise r
theorem tailP {α : Type} (s : List α) : cutP s (some 1) none = s.tail := by
  unfold cutP sPl
  cases s with
  | nil => rfl
  | cons a r => simp
theorem zip_map {α β : Type} (f : α → PV) (g : β → PV) : ∀ (a : List α) (b : List β), List.zipWith pr (a.map f) (b.map g) = (List.zip a b).map fun p => PV.tup [f p.1, g p.2]
  | [], _ => rfl
  | _ :: _, [] => rfl
  | x :: a, y :: b => by
    simp only [List.map_cons, List.zipWith_cons_cons, List.zip_cons_cons, zip_map f g a b]; rfl
theorem zip_signs (s t : List Nat) : zipV [.str s, .str t] = some ((List.zip s t).map fun p => PV.tup [.str [p.1], .str [p.2]]) := by
  show some (List.zipWith pr (Tg.signs s) (Tg.signs t)) = _
  unfold Tg.signs
  rw [zip_map]
theorem cutS {s : List Nat} {lo hi : Option Int} (h : s.length ≤ sizeLine) : vCut (.str s) lo hi = some (.str (cutP s lo hi)) := if_pos h
def incr (s : List Nat) : Bool := (List.zip s s.tail).all fun p => decide (([p.1] : List Nat) < [p.2])
def liB (n : Int) (w : List Nat) : Bool := !!((decide (1 ≤ (w.length : Int)) && decide ((w.length : Int) ≤ n)) && w.all fun c => decide (c ∈ lets n)) && incr w
def itB (n : Int) : Item → Bool
  | .edge => false
  | .one w => liB n w
  | .may w => liB n w
  | .any w => liB n w
theorem zip_le {α β : Type} (a : List α) (b : List β) : (List.zip a b).length ≤ a.length := by rw [List.length_zip]; exact Nat.min_le_left _ _
theorem s_li (n : Nat) (S : Store) (k : Int) {w kd : List Nat} (hw : strG w) (hk : inF (.str kd) kinds = true) : C (n + 2) i_is_letter_item [.int k, .tup [.str kd, .str w]] S = .ok (.bl (liB k w)) S := by
  have fl : flatIn (.str kd) kinds = true := flatS _ rfl
  rw [cc rfl (n + 1) _ S rfl]
  walk_at "es"
  rw [s_is_tuple]
  walk_at "es"
  rw [g6]
  walk_at "es"
  rw [s_is_one_of n S fl, hk]
  walk_at "es"
  rw [s_letters_of]
  walk_at "es"
  rw [s_is_text n S _ _ hw.le]
  walk_at "es"
  rw [cutS hw.le, tailP]
  walk_at "es"
  rw [zip_signs]
  walk_at "es"
  rw [lc_enc (fun p : Nat × Nat => PV.tup [.str [p.1], .str [p.2]]) (fun p => PV.bl (decide (([p.1] : List Nat) < [p.2]))) (Nat.le_trans (zip_le _ _) hw.le) (fun p _ => ⟨_, rfl, by walk_at "es", by walk_at "es"⟩)]
  walk_at "es"
  rw [all_map]
  walk_at "es"
  simp [liB, incr]
theorem s_is_letter_item (n : Nat) (S : Store) (k : Int) {i : Item} (h : i.ok) : C (n + 2) i_is_letter_item [.int k, eI i] S = .ok (.bl (itB k i)) S := by
  cases i with
  | edge =>
    rw [cc rfl (n + 1) _ S rfl]
    walk_at "es"
    simp only [eI]
    rw [s_is_tuple]
    walk_at "es"
    rfl
  | one w => exact s_li n S k h rfl
  | may w => exact s_li n S k h rfl
  | any w => exact s_li n S k h rfl
end K75
end
section
set_option Elab.async false
set_option linter.all false
set_option autoImplicit false
set_option maxRecDepth 100000
set_option maxHeartbeats 0
namespace K75
open PySem PySem.Spec PyProof.Rows L2 Tg
local macro_rules | `(tactic| walk_at "es") => `(tactic| try simp only [st0, st1, st2, st3, st4, evS, ev, evO, dSeqS, dSkip, dExpr, dRet, dRetN, dIfS, dAsg, dC, dNil, dCons, consV, dTup, dLst, dB1, dB2, dChain, dIte, dAnd, dOr, dNot, dCall,
  dCutL, dCutH, dCutB, dM1, dIx, dSeq, dSrc, dLc, dFor, dPar2, oCons, oNil, wipeE, opF, cmF, u1F, u2F, m1F, isiN, rngF, Tgt.put, List.set, List.headD_cons, List.tail_cons,
  bnd_ok, bnd_bad, bnd_exc, okv_s, onBl_b, onI_i, onS_s, onT_s, tst_b, tstS_b, okE_s, outF_rt, outF_nx, outF_exc, seqK_nx, seqK_rt, okL_s, asL_l, okN0, okN1, okN2, okN3, okN4, okN5, v0, v1, v2, v3, v4, v5, v6, v7, v8, v9, v10, v11,
  isi1, isi2, isi3, isi4, isi5, iss1, iss2, iss3, iss4, iss5, ist1, ist2, ist3, ist4, ist5, isn1, isn2, isn3, isb5, len_t, len_l, lt_i, le_i, gt_i, ge_i, eq_i, ne_i, eq_s, ne_s, lt_s, add_i, sub_i, neg_i, is_non, is_t, is_s, is_i, isn_non, isn_t, isn_s, isn_i,
  at_t0, at_t1, at_t2, at_t3, at_t4, ixt, ixl, ixs, sq_t, sq_l, sq_s, tup_l, in_c, nin_c, and_bl, or_bl, ite_ok, ret_ok, guard_ok, ib_and, ib_or, ib_f, nc0, nc1, nc2, nc3, nc4, nc5, nc6, Int.reduceLE, Int.reduceLT, Int.reduceEq, decide_true, decide_false, Int.le_refl, Int.lt_irrefl,
  List.length_cons, List.length_nil, List.replicate, List.cons_append, List.nil_append, Nat.add_zero, Nat.zero_add, Nat.reduceAdd, Nat.reduceSub, Option.getD_some, Option.getD_none, Bool.not_false, Bool.not_true, Bool.true_or, Bool.false_or, Bool.true_and, Bool.false_and, Bool.and_true, Bool.or_true, Bool.or_false, if_true, if_false, Bool.false_eq_true, ite_true, ite_false])
def isEdge : Item → Bool
  | .edge => true
  | _ => false
theorem eqEdge : vEq (.tup [.str [101, 100, 103, 101]]) (.tup [.str [101, 100, 103, 101]]) = some (.bl true) := by
  unfold vEq
  rw [show eqB (.tup [.str [101, 100, 103, 101]]) (.tup [.str [101, 100, 103, 101]]) = some true by decide +kernel]
  rfl
theorem s_is_edge (n : Nat) (S : Store) (i : Item) : C (n + 2) i_is_edge [eI i] S = .ok (.bl (isEdge i)) S := by
  rw [cc rfl (n + 1) _ S rfl]
  walk_at "es"
  cases i with
  | edge =>
    simp only [eI]
    rw [s_is_tuple]
    walk_at "es"
    rw [g3]
    walk_at "es"
    rw [eqEdge]
    walk_at "es"
    rfl
  | one w => simp only [eI]; rw [s_is_tuple]; walk_at "es"; rfl
  | may w => simp only [eI]; rw [s_is_tuple]; walk_at "es"; rfl
  | any w => simp only [eI]; rw [s_is_tuple]; walk_at "es"; rfl
theorem gd_item {i : Item} (h : i.ok) : Gd 1 (eI i) := by
  have c : ∀ s : List Nat, s.length ≤ 65536 ∧ (∀ c ∈ s, c < 128) → strG s := fun s h => h
  cases i with
  | edge => exact gd_tup (k := 0) (by intro x hx; simp at hx; subst hx; exact gd_str (by constructor <;> decide))
  | one w => exact gd_tup (k := 0) (by intro x hx; simp at hx; rcases hx with rfl | rfl; exact gd_str (by constructor <;> decide); exact gd_str h)
  | may w => exact gd_tup (k := 0) (by intro x hx; simp at hx; rcases hx with rfl | rfl; exact gd_str (by constructor <;> decide); exact gd_str h)
  | any w => exact gd_tup (k := 0) (by intro x hx; simp at hx; rcases hx with rfl | rfl; exact gd_str (by constructor <;> decide); exact gd_str h)
def rowOk (r : List Item) : Prop := r.length ≤ 65536 ∧ ∀ i ∈ r, i.ok
theorem gd_row {r : List Item} (h : rowOk r) : ∀ x ∈ r.map eI, Gd 1 x := by
  intro x hx
  obtain ⟨i, hi, rfl⟩ := List.mem_map.mp hx
  exact gd_item (h.2 i hi)
def eRow (r : List Item) : PV := .tup (r.map eI)
theorem eq_t0 {k : Nat} {xs : List PV} (h : ∀ x ∈ xs, Gd k x) (hk : k ≤ 63 := by decide) : vEq (.tup xs) (.tup []) = some (.bl xs.isEmpty) := by unfold vEq; rw [eq_unit h hk]; rfl
theorem ne_t0 {k : Nat} {xs : List PV} (h : ∀ x ∈ xs, Gd k x) (hk : k ≤ 63 := by decide) : vNe (.tup xs) (.tup []) = some (.bl (!xs.isEmpty)) := by unfold vNe; rw [eq_unit h hk]; rfl
theorem cutT {l : List PV} {lo hi : Option Int} : vCut (.tup l) lo hi = some (.tup (cutP l lo hi)) := rfl
theorem cutL {l : List PV} {lo hi : Option Int} : vCut (.lst l) lo hi = some (.lst (cutP l lo hi)) := rfl
theorem cut_last {α : Type} (s : List α) : cutP s none (some (-1)) = s.dropLast := by
  unfold cutP sPl
  simp only [List.drop_zero, Nat.sub_zero, if_pos (show (-1 : Int) < 0 by decide)]
  rw [List.dropLast_eq_take]
  congr 1
  omega
def leftS : List Nat := [108, 101, 102, 116]
def rightS : List Nat := [114, 105, 103, 104, 116]
/-- the row's items without its edge -/
def inner (side : Bool) (r : List Item) : List Item := if side = true then (match r with
  | .edge :: t => t
  | _ => r) else (match r.getLast? with
  | some .edge => r.dropLast
  | _ => r)
def sideS (side : Bool) : List Nat := if side = true then leftS else rightS
def rowB (n : Int) (side : Bool) (r : List Item) : Bool := decide ((r.length : Int) ≤ 6) && (inner side r).all (itB n)
theorem at_last {l : List PV} {v : PV} (h : l.getLast? = some v) : vIdx (.tup l) (.int (-1)) = some v := by
  show atP l (-1) = _
  unfold atP
  cases l with
  | nil => cases h
  | cons a r =>
    rw [if_neg (by decide), if_pos (by simp; omega)]
    rw [List.getLast?_eq_getElem?] at h
    rw [← h]
    congr 1
    simp only [List.length_cons]
    omega
theorem all_items (n : Nat) (S : Store) (k : Int) {r : List Item} (h : rowOk r) (v : Tgt) (ρ : Tg.Env) {te : Den} (hv : v = .name 4) (hρ : ∃ a b c d, ρ = [.val (.int k), a, b, c, d]) (hte : te = dCall (C (n + 2)) 14 (dCons (dVar 0) (dCons (dVar 4) dNil))) :
    lcK [4] v (dC (.bl true)) te ρ (.lst (r.map eI)) S = .ok (.lst (r.map fun i => .bl (itB k i))) S := by
  subst hv hte
  obtain ⟨a, b, c, d, rfl⟩ := hρ
  exact lc_enc eI (fun i => .bl (itB k i)) (s_le (k := 65536) h.1) fun i hi => ⟨_, rfl, by walk_at "es", by walk_at "es"; rw [s_is_letter_item n S k (h.2 i hi)]⟩
theorem inner_ok {side : Bool} {r : List Item} (h : rowOk r) : rowOk (inner side r) := by
  unfold inner
  split
  · split
    · exact ⟨by have := h.1; simp at this; omega, fun i hi => h.2 i (List.mem_cons_of_mem _ hi)⟩
    · exact h
  · split
    · exact ⟨by have := h.1; rw [List.length_dropLast]; omega, fun i hi => h.2 i (List.dropLast_subset _ hi)⟩
    · exact h
theorem s_is_row (n : Nat) (S : Store) (k : Int) (side : Bool) {r : List Item} (h : rowOk r) : C (n + 3) i_is_row [.int k, eRow r, .str (sideS side)] S = .ok (.bl (rowB k side r)) S := by
  rw [cc rfl (n + 2) _ S rfl]
  walk_at "es"
  rw [g10]
  walk_at "es"
  simp only [eRow]
  rw [s_is_tuple]
  walk_at "es"
  rw [List.length_map]
  by_cases hl : (r.length : Int) ≤ 6
  case neg => simp [rowB, hl]
  have h0 : (0 : Int) ≤ r.length := by omega
  simp only [hl, h0, decide_true, Bool.and_true, Bool.not_true, Bool.false_eq_true, if_false]
  walk_at "es"
  rw [ne_t0 (gd_row h)]
  walk_at "es"
  cases side with
  | true =>
    have e : sideS true = leftS := rfl
    rw [e, show decide (leftS = [108, 101, 102, 116]) = true from rfl]
    walk_at "es"
    cases r with
    | nil =>
      rw [show (([] : List Item).map eI).isEmpty = true from rfl]
      walk_at "es"
      try rw [show decide (leftS = [114, 105, 103, 104, 116]) = false from rfl]
      walk_at "es"
      rw [all_items n S k (r := []) ⟨by decide, by simp⟩ _ _ rfl ⟨_, _, _, _, rfl⟩ rfl]
      walk_at "es"
      rfl
    | cons a t =>
      rw [show ((a :: t).map eI).isEmpty = false from rfl]
      walk_at "es"
      rw [List.map_cons]
      walk_at "es"
      rw [s_is_edge]
      walk_at "es"
      cases hE : isEdge a with
      | true =>
        walk_at "es"
        rw [cutT]
        walk_at "es"
        try rw [show decide (leftS = [114, 105, 103, 104, 116]) = false from rfl]
        walk_at "es"
        rw [tailP, List.tail_cons]
        cases a with
        | edge =>
          rw [all_items n S k (r := t) (inner_ok (side := true) h) _ _ rfl ⟨_, _, _, _, rfl⟩ rfl]
          walk_at "es"
          rw [all_map]
          walk_at "es"
          simp [rowB, inner] at hl ⊢; omega
        | _ => cases hE
      | false =>
        walk_at "es"
        try rw [show decide (leftS = [114, 105, 103, 104, 116]) = false from rfl]
        walk_at "es"
        rw [show eI a :: t.map eI = (a :: t).map eI from rfl, all_items n S k h _ _ rfl ⟨_, _, _, _, rfl⟩ rfl]
        walk_at "es"
        rw [all_map]
        walk_at "es"
        have : inner true (a :: t) = a :: t := by
          cases a with
          | edge => cases hE
          | _ => rfl
        simp only [rowB, this, hl, decide_true, Bool.true_and]
  | false =>
    have e : sideS false = rightS := rfl
    rw [e, show decide (rightS = [108, 101, 102, 116]) = false from rfl]
    walk_at "es"
    rw [show decide (rightS = [114, 105, 103, 104, 116]) = true from rfl]
    walk_at "es"
    cases hr : r.getLast? with
    | none =>
      rw [List.getLast?_eq_none_iff] at hr
      subst hr
      rw [show (([] : List Item).map eI).isEmpty = true from rfl]
      walk_at "es"
      rw [all_items n S k (r := []) ⟨by decide, by simp⟩ _ _ rfl ⟨_, _, _, _, rfl⟩ rfl]
      walk_at "es"
      rfl
    | some a =>
      have hne : (r.map eI).isEmpty = false := by
        cases r with
        | nil => cases hr
        | cons => rfl
      have hg : (r.map eI).getLast? = some (eI a) := by rw [List.getLast?_map, hr]; rfl
      rw [hne]
      walk_at "es"
      rw [at_last hg]
      walk_at "es"
      rw [s_is_edge]
      walk_at "es"
      cases hE : isEdge a with
      | true =>
        walk_at "es"
        rw [cutT]
        walk_at "es"
        rw [cut_last, ← List.map_dropLast]
        have hi : inner false r = r.dropLast := by
          unfold inner
          rw [if_neg (by decide), hr]
          cases a with
          | edge => rfl
          | _ => cases hE
        rw [all_items n S k (r := r.dropLast) (hi ▸ inner_ok (side := false) h) _ _ rfl ⟨_, _, _, _, rfl⟩ rfl]
        walk_at "es"
        rw [all_map]
        walk_at "es"
        simp only [rowB, hi, hl, decide_true, Bool.true_and]
      | false =>
        walk_at "es"
        have hi : inner false r = r := by
          unfold inner
          rw [if_neg (by decide), hr]
          cases a with
          | edge => cases hE
          | _ => rfl
        rw [all_items n S k h _ _ rfl ⟨_, _, _, _, rfl⟩ rfl]
        walk_at "es"
        rw [all_map]
        walk_at "es"
        simp only [rowB, hi, hl, decide_true, Bool.true_and]
end K75
end
section
set_option Elab.async false
set_option linter.all false
set_option autoImplicit false
set_option maxRecDepth 100000
set_option maxHeartbeats 0
namespace K75
open PySem PySem.Spec PyProof.Rows L2 Tg
local macro_rules | `(tactic| walk_at "es") => `(tactic| try simp only [st0, st1, st2, st3, st4, evS, ev, evO, dSeqS, dSkip, dExpr, dRet, dRetN, dIfS, dAsg, dC, dNil, dCons, consV, dTup, dLst, dB1, dB2, dChain, dIte, dAnd, dOr, dNot, dCall,
  dCutL, dCutH, dCutB, dM1, dIx, dSeq, dSrc, dLc, dFor, dPar2, oCons, oNil, wipeE, opF, cmF, u1F, u2F, m1F, isiN, rngF, Tgt.put, List.set, List.headD_cons, List.tail_cons,
  bnd_ok, bnd_bad, bnd_exc, okv_s, onBl_b, onI_i, onS_s, onT_s, tst_b, tstS_b, okE_s, outF_rt, outF_nx, outF_exc, seqK_nx, seqK_rt, okL_s, asL_l, okN0, okN1, okN2, okN3, okN4, okN5, v0, v1, v2, v3, v4, v5, v6, v7, v8, v9, v10, v11,
  isi1, isi2, isi3, isi4, isi5, iss1, iss2, iss3, iss4, iss5, ist1, ist2, ist3, ist4, ist5, isn1, isn2, isn3, isb5, len_t, len_l, lt_i, le_i, gt_i, ge_i, eq_i, ne_i, eq_s, ne_s, lt_s, add_i, sub_i, neg_i, is_non, is_t, is_s, is_i, isn_non, isn_t, isn_s, isn_i,
  at_t0, at_t1, at_t2, at_t3, at_t4, ixt, ixl, ixs, sq_t, sq_l, sq_s, tup_l, in_c, nin_c, and_bl, or_bl, ite_ok, ret_ok, guard_ok, ib_and, ib_or, ib_f, nc0, nc1, nc2, nc3, nc4, nc5, nc6, Int.reduceLE, Int.reduceLT, Int.reduceEq, decide_true, decide_false, Int.le_refl, Int.lt_irrefl,
  List.length_cons, List.length_nil, List.replicate, List.cons_append, List.nil_append, Nat.add_zero, Nat.zero_add, Nat.reduceAdd, Nat.reduceSub, Option.getD_some, Option.getD_none, Bool.not_false, Bool.not_true, Bool.true_or, Bool.false_or, Bool.true_and, Bool.false_and, Bool.and_true, Bool.or_true, Bool.or_false, if_true, if_false, Bool.false_eq_true, ite_true, ite_false])
/-! ### patterns -/
def patOk (p : List (List Item)) : Prop := p.length ≤ 65536 ∧ ∀ r ∈ p, rowOk r
def ePat (p : List (List Item)) : PV := .tup (p.map eRow)
def patB (n : Int) (side : Bool) (p : List (List Item)) : Bool := (decide (1 ≤ (p.length : Int)) && decide ((p.length : Int) ≤ 8)) && p.all (rowB n side)
theorem s_is_pattern_of (n : Nat) (S : Store) (k : Int) (side : Bool) {p : List (List Item)} (h : patOk p) : C (n + 4) i_is_pattern_of [.int k, ePat p, .str (sideS side)] S = .ok (.bl (patB k side p)) S := by
  rw [cc rfl (n + 3) _ S rfl]
  walk_at "es"
  rw [g14]
  walk_at "es"
  unfold ePat
  rw [s_is_tuple]
  walk_at "es"
  rw [List.length_map, lc_enc eRow (fun r => .bl (rowB k side r)) (s_le h.1) (fun r hr => ⟨_, rfl, by walk_at "es", by walk_at "es"; rw [s_is_row n S k side (h.2 r hr)]⟩)]
  walk_at "es"
  rw [all_map]
  walk_at "es"
  rfl
theorem s_is_pattern (n : Nat) (S : Store) {k : Int} (hk : (decide (1 ≤ k) && decide (k ≤ 12)) = true) (side : Bool) {p : List (List Item)} (h : patOk p) : C (n + 5) i_is_pattern [.int k, ePat p, .str (sideS side)] S = .ok (.bl (patB k side p)) S := by
  rw [cc rfl (n + 4) _ S rfl]
  walk_at "es"
  rw [s_need_n n S hk]
  walk_at "es"
  rw [s_is_pattern_of n S k side h]
  walk_at "es"
/-! ### rising -/
theorem rng1_ok {j : Int} (h1 : -1 ≤ j) (h2 : j ≤ 1000000) : rng1 [.int j] = some (rngL 0 j.toNat) := by
  show (if rgOk j = true then some (rngL 0 j.toNat) else none) = _
  rw [if_pos]
  unfold rgOk
  rw [Bool.and_eq_true, decide_eq_true_eq, decide_eq_true_eq]
  omega
theorem at_nat {xs : List PV} {k : Nat} : atP xs (k : Int) = xs[k]? := by
  unfold atP
  rw [if_pos (by omega)]
  rfl
theorem zip_tail {α : Type} (d : α) : ∀ ys : List α, List.zip ys ys.tail = (List.range (ys.length - 1)).map fun k => (ys.getD k d, ys.getD (k + 1) d)
  | [] => rfl
  | [a] => rfl
  | a :: b :: t => by
    have ih := zip_tail d (b :: t)
    simp only [List.tail_cons, List.zip_cons_cons, List.length_cons, Nat.add_sub_cancel] at ih ⊢
    rw [ih, List.range_succ_eq_map, List.map_cons, List.map_map]
    rfl
/-- what rises -/
def risL {α : Type} (lt : α → α → Bool) (ys : List α) : Bool := (List.zip ys ys.tail).all fun p => lt p.1 p.2
def isSeq (v : PV) (xs : List PV) : Prop := v = .tup xs ∨ v = .lst xs
theorem s_is_rising {α : Type} (n : Nat) (S : Store) {v : PV} (e : α → PV) (lt : α → α → Bool) (d : α) {ys : List α} (hv : isSeq v (ys.map e)) (hl : ys.length ≤ 65537) (h : ∀ a ∈ ys, ∀ b ∈ ys, ltB (e a) (e b) = some (lt a b)) :
    C (n + 1) i_is_rising [v] S = .ok (.bl (risL lt ys)) S := by
  rw [cc rfl n _ S rfl]
  walk_at "es"
  have h1 : uLen v = some (.int ys.length) := by rcases hv with rfl | rfl <;> (walk_at "es"; rw [List.length_map])
  have h2 : ∀ k : Nat, ixS v (.int k) S = (ys.map e)[k]? := fun k => by rcases hv with rfl | rfl <;> exact at_nat
  rw [h1]
  walk_at "es"
  rw [rng1_ok (by omega) (by omega)]
  walk_at "es"
  have e3 : ((ys.length : Int) - 1).toNat = ys.length - 1 := by omega
  rw [e3]
  unfold rngL
  rw [lc_enc (fun k : Nat => PV.int (0 + k)) (fun k : Nat => PV.bl (lt (ys.getD k d) (ys.getD (k + 1) d))) (by rw [List.length_range]; exact s_le (s := ys.tail) (k := 65537) (by rw [List.length_tail]; omega) |> fun q => by rw [List.length_tail] at q; exact q) (fun k hk => ⟨_, rfl, by walk_at "es", by
    walk_at "es"
    rw [List.mem_range] at hk
    have q1 : k < ys.length := by omega
    have q2 : k + 1 < ys.length := by omega
    rw [show (0 + (k : Int)) = ((k : Nat) : Int) by omega, show ((k : Int) + 1) = ((k + 1 : Nat) : Int) by omega, h2, List.getElem?_map, List.getElem?_eq_getElem q1]
    simp only [Option.map_some]
    walk_at "es"
    rw [h2, List.getElem?_map, List.getElem?_eq_getElem q2]
    simp only [Option.map_some]
    walk_at "es"
    rw [vLt, h _ (List.getElem_mem q1) _ (List.getElem_mem q2)]
    simp only [Option.map_some]
    walk_at "es"
    rw [List.getD_eq_getElem?_getD, List.getD_eq_getElem?_getD, List.getElem?_eq_getElem q1, List.getElem?_eq_getElem q2]
    rfl⟩)]
  walk_at "es"
  rw [all_map]
  walk_at "es"
  unfold risL
  rw [zip_tail d, List.all_map]
  rfl
/-! ### changes, rules -/
def eCh (c : List Nat × List Nat) : PV := .tup [.str c.1, .str c.2]
def chOk (c : List Nat × List Nat) : Prop := strG c.1 ∧ strG c.2
def chB (n : Int) (c : List Nat × List Nat) : Bool := (isW n c.1 && isW n c.2) && (decide ((c.1.length : Int) ≤ 1) && (decide ((c.2.length : Int) ≤ 2) && !decide (c.1 = c.2)))
theorem s_is_change (n : Nat) (S : Store) (k : Int) {c : List Nat × List Nat} (h : chOk c) : C (n + 2) i_is_change [.int k, eCh c] S = .ok (.bl (chB k c)) S := by
  rw [cc rfl (n + 1) _ S rfl]
  walk_at "es"
  simp only [eCh]
  rw [s_is_tuple]
  walk_at "es"
  rw [s_is_word n S k h.1.le]
  walk_at "es"
  rw [s_is_word n S k h.2.le]
  walk_at "es"
  rw [len_s h.1.le, len_s h.2.le]
  walk_at "es"
  rw [g20]
  walk_at "es"
  simp [chB, Bool.and_assoc]
theorem gd_ch {c : List Nat × List Nat} (h : chOk c) : Gd 1 (eCh c) := gd_tup (k := 0) (by intro x hx; simp at hx; rcases hx with rfl | rfl; exact gd_str h.1; exact gd_str h.2)
def chsOk (l : List (List Nat × List Nat)) : Prop := l.length ≤ 65536 ∧ ∀ c ∈ l, chOk c
theorem gd_chs {l : List (List Nat × List Nat)} (h : chsOk l) : ∀ x ∈ l.map eCh, Gd 1 x := by
  intro x hx
  obtain ⟨i, hi, rfl⟩ := List.mem_map.mp hx
  exact gd_ch (h.2 i hi)
def chsB (n : Int) (l : List (List Nat × List Nat)) : Bool := (!l.isEmpty && l.all (chB n)) && risL (fun a b => decide (a < b)) (l.map (·.1))
theorem ltS (a b : List Nat) : ltB (.str a) (.str b) = some (decide (a < b)) := rfl
theorem isEmpty_map {α β : Type} (f : α → β) (l : List α) : (l.map f).isEmpty = l.isEmpty := by cases l <;> rfl
theorem s_are_changes (n : Nat) (S : Store) (k : Int) {l : List (List Nat × List Nat)} (h : chsOk l) : C (n + 3) i_are_changes [.int k, .tup (l.map eCh)] S = .ok (.bl (chsB k l)) S := by
  rw [cc rfl (n + 2) _ S rfl]
  walk_at "es"
  rw [eq_t0 (gd_chs h), isEmpty_map]
  walk_at "es"
  rw [lc_enc eCh (fun c => .bl (chB k c)) (s_le h.1) (fun c hc => ⟨_, rfl, by walk_at "es", by walk_at "es"; rw [s_is_change n S k (h.2 c hc)]⟩)]
  walk_at "es"
  rw [all_map]
  walk_at "es"
  rw [lc_enc eCh (fun c => .str c.1) (s_le h.1) (fun c hc => ⟨_, rfl, by walk_at "es", by walk_at "es"⟩)]
  walk_at "es"
  rw [s_is_rising (n + 1) S (ys := l.map (·.1)) PV.str (fun a b => decide (a < b)) [] (.inr (by rw [List.map_map]; rfl)) (by rw [List.length_map]; have := h.1; omega) (fun a _ b _ => ltS a b)]
  walk_at "es"
  unfold chsB
  cases l.isEmpty <;> cases l.all (chB k) <;> rfl
structure Rule where
  ch : List (List Nat × List Nat)
  left : List (List Item)
  right : List (List Item)
  way : List Nat
  force : List Nat
def eRule (r : Rule) : PV := .tup [.tup (r.ch.map eCh), ePat r.left, ePat r.right, .str r.way, .str r.force]
structure Rule.ok (r : Rule) : Prop where
  ch : chsOk r.ch
  left : patOk r.left
  right : patOk r.right
  way : strG r.way
  force : strG r.force
def ruleB (n : Int) (r : Rule) : Bool := chsB n r.ch && ((patB n true r.left && patB n false r.right) && (inF (.str r.way) ways && inF (.str r.force) forces))
theorem s_is_rule_of (n : Nat) (S : Store) (k : Int) {r : Rule} (h : r.ok) : C (n + 5) i_is_rule_of [.int k, eRule r] S = .ok (.bl (ruleB k r)) S := by
  rw [cc rfl (n + 4) _ S rfl]
  walk_at "es"
  unfold eRule
  rw [s_is_tuple]
  walk_at "es"
  rw [s_are_changes (n + 1) S k h.ch]
  walk_at "es"
  rw [show ([108, 101, 102, 116] : List Nat) = sideS true from rfl, s_is_pattern_of n S k true h.left]
  walk_at "es"
  rw [show ([114, 105, 103, 104, 116] : List Nat) = sideS false from rfl, s_is_pattern_of n S k false h.right]
  walk_at "es"
  rw [g26]
  walk_at "es"
  rw [s_is_one_of (n + 3) S (flatS _ rfl)]
  walk_at "es"
  rw [g4]
  walk_at "es"
  rw [s_is_one_of (n + 3) S (flatS _ rfl)]
  walk_at "es"
  unfold ruleB
  cases chsB k r.ch <;> cases patB k true r.left <;> cases patB k false r.right <;> rfl
theorem s_is_rule (n : Nat) (S : Store) {k : Int} (hk : (decide (1 ≤ k) && decide (k ≤ 12)) = true) {r : Rule} (h : r.ok) : C (n + 6) i_is_rule [.int k, eRule r] S = .ok (.bl (ruleB k r)) S := by
  rw [cc rfl (n + 5) _ S rfl]
  walk_at "es"
  rw [s_need_n (n + 1) S hk]
  walk_at "es"
  rw [s_is_rule_of n S k h]
  walk_at "es"
def isN (k : Int) : Bool := decide (1 ≤ k) && decide (k ≤ 12)
def rulesOk (l : List Rule) : Prop := l.length ≤ 65536 ∧ ∀ c ∈ l, c.ok
def casB (k : Int) (l : List Rule) : Bool := (isN k && decide ((l.length : Int) ≤ 8)) && l.all (ruleB k)
theorem s_is_cascade (n : Nat) (S : Store) (k : Int) {l : List Rule} (h : rulesOk l) : C (n + 6) i_is_cascade [.tup [.int k, .tup (l.map eRule)]] S = .ok (.bl (casB k l)) S := by
  rw [cc rfl (n + 5) _ S rfl]
  walk_at "es"
  rw [s_is_tuple]
  walk_at "es"
  rw [s_is_letters]
  walk_at "es"
  rw [g15]
  walk_at "es"
  rw [s_is_tuple]
  walk_at "es"
  rw [List.length_map, lc_enc eRule (fun c => .bl (ruleB k c)) (s_le h.1) (fun c hc => ⟨_, rfl, by walk_at "es", by walk_at "es"; rw [s_is_rule_of n S k (h.2 c hc)]⟩)]
  walk_at "es"
  rw [all_map]
  walk_at "es"
  have h0 : (0 : Int) ≤ l.length := by omega
  unfold casB isN
  simp only [h0, decide_true, Bool.true_and]
  cases decide (1 ≤ k) <;> cases decide (k ≤ 12) <;> cases decide ((l.length : Int) ≤ 8) <;> rfl
/-! ### machines -/
theorem for_all {α : Type} {t : Tgt} {db : DenS} {S : Store} {u : PV} (e : α → PV) (g : α → Bool) (ρ : Sl → Tg.Env) : ∀ xs : List α, (∀ x ∈ xs, (∀ s, t.put (e x) (ρ s) = some (ρ (.val (e x)))) ∧ db (ρ (.val (e x))) S = if g x = true then .ok (.nx (ρ (.val (e x)))) S else .ok (.rt u) S) →
    ∀ s, ∃ s', forGo t db (xs.map e) (ρ s) S = if xs.all g = true then .ok (.nx (ρ s')) S else .ok (.rt u) S
  | [], _, s => ⟨s, rfl⟩
  | x :: xs, h, s => by
    obtain ⟨h1, h2⟩ := h x (List.mem_cons_self ..)
    obtain ⟨s', ih⟩ := for_all e g ρ xs (fun y hy => h y (List.mem_cons_of_mem _ hy)) (.val (e x))
    refine ⟨s', ?_⟩
    rw [List.map_cons]
    unfold forGo
    rw [h1 s]
    simp only
    rw [h2, List.all_cons]
    cases g x with
    | true => simp only [if_true, bnd_ok, whK, Bool.true_and]; exact ih
    | false => rfl
def eStep (s : Nat × Nat) : PV := .tup [.str [s.1], .int (s.2 : Int)]
def stB (k many : Int) (s : Nat × Nat) : Bool := decide (s.1 ∈ lets k) && decide ((s.2 : Int) ≤ many - 1)
def ePlace (p : Bool × List (Nat × Nat)) : PV := .tup [.bl p.1, .tup (p.2.map eStep)]
def plOk (p : Bool × List (Nat × Nat)) : Prop := p.2.length ≤ 65536
def plB (k many : Int) (p : Bool × List (Nat × Nat)) : Bool := p.2.all (stB k many) && risL (fun a b : Nat => decide (([a] : List Nat) < [b])) (p.2.map (·.1))
end K75
end
section
set_option Elab.async false
set_option linter.all false
set_option autoImplicit false
set_option maxRecDepth 100000
set_option maxHeartbeats 0
namespace K75
open PySem PySem.Spec PyProof.Rows L2 Tg
local macro_rules | `(tactic| walk_at "es") => `(tactic| try simp only [st0, st1, st2, st3, st4, evS, ev, evO, dSeqS, dSkip, dExpr, dRet, dRetN, dIfS, dAsg, dC, dNil, dCons, consV, dTup, dLst, dB1, dB2, dChain, dIte, dAnd, dOr, dNot, dCall,
  dCutL, dCutH, dCutB, dM1, dIx, dSeq, dSrc, dLc, dFor, dPar2, oCons, oNil, wipeE, opF, cmF, u1F, u2F, m1F, isiN, rngF, Tgt.put, List.set, List.headD_cons, List.tail_cons,
  bnd_ok, bnd_bad, bnd_exc, okv_s, onBl_b, onI_i, onS_s, onT_s, tst_b, tstS_b, okE_s, outF_rt, outF_nx, outF_exc, seqK_nx, seqK_rt, okL_s, asL_l, okN0, okN1, okN2, okN3, okN4, okN5, v0, v1, v2, v3, v4, v5, v6, v7, v8, v9, v10, v11,
  isi1, isi2, isi3, isi4, isi5, iss1, iss2, iss3, iss4, iss5, ist1, ist2, ist3, ist4, ist5, isn1, isn2, isn3, isb5, len_t, len_l, lt_i, le_i, gt_i, ge_i, eq_i, ne_i, eq_s, ne_s, lt_s, add_i, sub_i, neg_i, is_non, is_t, is_s, is_i, isn_non, isn_t, isn_s, isn_i,
  at_t0, at_t1, at_t2, at_t3, at_t4, ixt, ixl, ixs, sq_t, sq_l, sq_s, tup_l, in_c, nin_c, and_bl, or_bl, ite_ok, ret_ok, guard_ok, ib_and, ib_or, ib_f, nc0, nc1, nc2, nc3, nc4, nc5, nc6, Int.reduceLE, Int.reduceLT, Int.reduceEq, decide_true, decide_false, Int.le_refl, Int.lt_irrefl,
  List.length_cons, List.length_nil, List.replicate, List.cons_append, List.nil_append, Nat.add_zero, Nat.zero_add, Nat.reduceAdd, Nat.reduceSub, Option.getD_some, Option.getD_none, Bool.not_false, Bool.not_true, Bool.true_or, Bool.false_or, Bool.true_and, Bool.false_and, Bool.and_true, Bool.or_true, Bool.or_false, if_true, if_false, Bool.false_eq_true, ite_true, ite_false])
theorem zip_l {α β : Type} (f : α → PV) (g : β → PV) (a : List α) (b : List β) : zipV [.lst (a.map f), .lst (b.map g)] = some ((List.zip a b).map fun p => PV.tup [f p.1, g p.2]) := by
  show some _ = _
  rw [zip_map]
theorem zip_t {α β : Type} (f : α → PV) (g : β → PV) (a : List α) (b : List β) : zipV [.tup (a.map f), .tup (b.map g)] = some ((List.zip a b).map fun p => PV.tup [f p.1, g p.2]) := by
  show some _ = _
  rw [zip_map]
theorem tl_map {α β : Type} (f : α → β) (l : List α) : (l.map f).tail = l.tail.map f := by cases l <;> rfl
theorem s_is_place (n : Nat) (S : Store) (k many : Int) {p : Bool × List (Nat × Nat)} (h : plOk p) : C (n + 3) i_is_place [ePlace p, .int k, .int many] S = .ok (.bl (plB k many p)) S := by
  rw [cc rfl (n + 2) _ S rfl]
  walk_at "es"
  unfold ePlace
  rw [s_is_tuple]
  walk_at "es"
  obtain ⟨s', hs⟩ := for_all (S := S) (u := .bl false) (t := .name 3) (db := evS (Pn (n + 2)) (.seq (.iff (.or (.not (.tv (.call 2 (.cons (.var 3) (.cons (.c (.int 2)) (.cons (.c (.int 2)) (.nil))))))) (.or (.not (.tv (.isi 1 (.ix (.var 3) (.c (.int 0)))))) (.one (.cmp 5 (.u1 0 (.ix (.var 3) (.c (.int 0)))) (.c (.int 1)))))) (.seq (.ret (.c (.bl false))) (.skip)) (.skip)) (.seq (.iff (.or (.cmp 7 (.ix (.var 3) (.c (.int 0))) (.call 8 (.cons (.var 1) (.nil)))) (.one (.not (.tv (.call 1 (.cons (.ix (.var 3) (.c (.int 1))) (.cons (.c (.int 0)) (.cons (.bin 1 (.var 2) (.c (.int 1))) (.nil))))))))) (.seq (.ret (.c (.bl false))) (.skip)) (.skip)) (.skip)))) eStep (stB k many)
    (fun s => [.val (.tup [.bl p.1, .tup (p.2.map eStep)]), .val (.int k), .val (.int many), s, .no, .no, .no]) p.2 (fun x hx => ⟨fun s => rfl, by
      walk_at "es"
      unfold eStep
      rw [s_is_tuple]
      walk_at "es"
      rw [len_s (s := [x.1]) (show 1 ≤ sizeLine by decide)]
      walk_at "es"
      rw [s_letters_of]
      walk_at "es"
      rw [s_between_i]
      walk_at "es"
      have h0 : (0 : Int) ≤ x.2 := by omega
      unfold stB
      simp only [h0, decide_true, Bool.true_and]
      cases decide (x.1 ∈ lets k) <;> cases decide ((x.2 : Int) ≤ many - 1) <;> rfl⟩) .no
  simp only [evS, ev, opF, cmF, u1F, isiN, Option.getD_some] at hs
  rw [hs]
  clear hs
  cases hb : p.2.all (stB k many) with
  | false => walk_at "es"; unfold plB; rw [hb]; rfl
  | true =>
    walk_at "es"
    rw [lc_enc eStep (fun s => .str [s.1]) (s_le h) (fun c hc => ⟨_, rfl, by walk_at "es", by walk_at "es"; rfl⟩)]
    walk_at "es"
    rw [cutL, tailP, tl_map]
    walk_at "es"
    rw [zip_l]
    walk_at "es"
    rw [lc_enc (fun q : (Nat × Nat) × (Nat × Nat) => PV.tup [.str [q.1.1], .str [q.2.1]]) (fun q => .bl (decide (([q.1.1] : List Nat) < [q.2.1]))) (Nat.le_trans (zip_le _ _) (s_le h)) (fun q _ => ⟨_, rfl, by walk_at "es", by walk_at "es"⟩)]
    walk_at "es"
    rw [all_map]
    walk_at "es"
    unfold plB risL
    rw [hb, Bool.true_and, tl_map, List.zip_map, List.all_map]
    rfl
def macOk (l : List (Bool × List (Nat × Nat))) : Prop := l.length ≤ 65536 ∧ ∀ c ∈ l, plOk c
def macB (k : Int) (l : List (Bool × List (Nat × Nat))) : Bool := isN k && l.all (plB k l.length)
theorem s_is_machine (n : Nat) (S : Store) (k : Int) {l : List (Bool × List (Nat × Nat))} (h : macOk l) : C (n + 4) i_is_machine [.tup [.int k, .tup (l.map ePlace)]] S = .ok (.bl (macB k l)) S := by
  rw [cc rfl (n + 3) _ S rfl]
  walk_at "es"
  rw [s_is_tuple]
  walk_at "es"
  rw [s_is_letters]
  walk_at "es"
  rw [lc_enc ePlace (fun c => .bl (plB k l.length c)) (s_le h.1) (fun c hc => ⟨_, rfl, by walk_at "es", by walk_at "es"; rw [List.length_map, s_is_place n S k _ (h.2 c hc)]⟩)]
  walk_at "es"
  rw [all_map]
  walk_at "es"
  unfold macB isN
  cases decide (1 ≤ k) <;> cases decide (k ≤ 12) <;> rfl
/-! ### books -/
theorem g19 : dG G0 19 = dC (.int 8) := rfl
theorem g17 : dG G0 17 = dC (.int 8) := rfl
theorem g9 : dG G0 9 = dC (.int 12) := rfl
theorem g13 : dG G0 13 = dC (.int 8) := rfl
def caps : List Nat := [65, 66, 67, 68, 69, 70, 71, 72, 73, 74, 75, 76, 77, 78, 79, 80, 81, 82, 83, 84, 85, 86, 87, 88, 89, 90]
theorem g1 : dG G0 1 = dC (.str caps) := rfl
def txB (z : List Nat) (lo hi : Int) (s : List Nat) : Bool := (decide (lo ≤ s.length) && decide ((s.length : Int) ≤ hi)) && s.all fun c => decide (c ∈ z)
def enB (k : Int) (c : List Nat × List Nat) : Bool := (isW k c.1 && !decide ((c.1.length : Int) > 8)) && txB caps 1 8 c.2
theorem s_is_entry (n : Nat) (S : Store) (k : Int) {c : List Nat × List Nat} (h : chOk c) : C (n + 2) i_is_entry [.int k, eCh c] S = .ok (.bl (enB k c)) S := by
  rw [cc rfl (n + 1) _ S rfl]
  walk_at "es"
  simp only [eCh]
  rw [s_is_tuple]
  walk_at "es"
  rw [s_is_word n S k h.1.le]
  walk_at "es"
  rw [len_s h.1.le, g19]
  walk_at "es"
  rw [g1, g17]
  walk_at "es"
  rw [s_is_text n S _ _ h.2.le]
  walk_at "es"
  unfold enB txB
  cases isW k c.1 <;> cases hd : decide ((8 : Int) < c.1.length) <;> simp_all
def ltCh (c d : List Nat × List Nat) : Bool := PySem.W.dataLt (.tuple [.str ⟨c.1.toArray⟩, .str ⟨c.2.toArray⟩]) (.tuple [.str ⟨d.1.toArray⟩, .str ⟨d.2.toArray⟩])
theorem lt_ch (c d : List Nat × List Nat) : ltB (eCh c) (eCh d) = some (ltCh c d) := rfl
def paB (k : Int) (l : List (List Nat × List Nat)) : Bool := ((decide (1 ≤ (l.length : Int)) && decide ((l.length : Int) ≤ 12)) && l.all (enB k)) && risL ltCh l
def ePart (l : List (List Nat × List Nat)) : PV := .tup (l.map eCh)
theorem s_is_part (n : Nat) (S : Store) (k : Int) {l : List (List Nat × List Nat)} (h : chsOk l) : C (n + 3) i_is_part [.int k, ePart l] S = .ok (.bl (paB k l)) S := by
  rw [cc rfl (n + 2) _ S rfl]
  walk_at "es"
  unfold ePart
  rw [g9]
  walk_at "es"
  rw [s_is_tuple, List.length_map]
  walk_at "es"
  rw [lc_enc eCh (fun c => .bl (enB k c)) (s_le h.1) (fun c hc => ⟨_, rfl, by walk_at "es", by walk_at "es"; rw [s_is_entry n S k (h.2 c hc)]⟩)]
  walk_at "es"
  rw [all_map]
  walk_at "es"
  rw [s_is_rising (n + 1) S eCh ltCh ([], []) (.inl rfl) (by have := h.1; omega) (fun a _ b _ => lt_ch a b)]
  walk_at "es"
  unfold paB
  simp only [Bool.and_assoc]
def eO {α : Type} (e : α → PV) : Option α → PV
  | none => .non
  | some x => e x
def eNums (l : List Nat) : PV := .tup (l.map fun i : Nat => .int (i : Int))
def ascB (lo hi : Int) (l : List Nat) : Bool := (l.all fun i => decide (lo ≤ (i : Int)) && decide ((i : Int) ≤ hi)) && risL (fun a b : Nat => decide ((a : Int) < b)) l
theorem s_is_ascending (n : Nat) (S : Store) (lo hi : Int) {l : List Nat} (h : l.length ≤ 65536) : C (n + 3) i_is_ascending [eNums l, .int lo, .int hi] S = .ok (.bl (ascB lo hi l)) S := by
  rw [cc rfl (n + 2) _ S rfl]
  walk_at "es"
  unfold eNums
  walk_at "es"
  rw [lc_enc (fun i : Nat => PV.int (i : Int)) (fun i : Nat => PV.bl (decide (lo ≤ (i : Int)) && decide ((i : Int) ≤ hi))) (s_le h) (fun c hc => ⟨_, rfl, by walk_at "es", by walk_at "es"; rw [s_between_i]⟩)]
  walk_at "es"
  rw [all_map]
  walk_at "es"
  rw [s_is_rising (n + 1) S (fun i : Nat => PV.int (i : Int)) (fun a b : Nat => decide ((a : Int) < b)) 0 (.inl rfl) (by omega) (fun a _ b _ => rfl)]
  walk_at "es"
  rfl
theorem s_is_ascending_n (n : Nat) (S : Store) (lo hi : Int) : C (n + 3) i_is_ascending [.non, .int lo, .int hi] S = .ok (.bl false) S := by
  rw [cc rfl (n + 2) _ S rfl]
  walk_at "es"
/-! ### two clauses -/
theorem lc2_enc {α β : Type} {vs vs1 : List Nat} {t0 t1 : Tgt} {tt0 s1 tt1 te : Den} {ρ : Tg.Env} {S : Store} (e : α → PV) (sub : α → List β) (e1 : β → PV) (f : β → PV) {xs : List α} (hz : (xs.flatMap sub).length ≤ sizeLine)
    (h : ∀ x ∈ xs, ∃ ρ1, t0.put (e x) (wipeE ρ vs) = some ρ1 ∧ tt0 ρ1 S = .ok (.bl true) S ∧ s1 ρ1 S = .ok (.lst ((sub x).map e1)) S ∧ ∀ y ∈ sub x, ∃ ρ2, t1.put (e1 y) (wipeE ρ1 vs1) = some ρ2 ∧ tt1 ρ2 S = .ok (.bl true) S ∧ te ρ2 S = .ok (f y) S) :
    lcK2 vs vs1 t0 tt0 t1 s1 tt1 te ρ (.lst (xs.map e)) S = .ok (.lst ((xs.flatMap sub).map f)) S := by
  unfold lcK2
  have key : lcGo2 vs1 t0 tt0 t1 s1 tt1 te (wipeE ρ vs) (xs.map e) S = .ok ((xs.flatMap sub).map f) S := by
    clear hz
    induction xs with
    | nil => rfl
    | cons x xs ih =>
      obtain ⟨ρ1, h1, h2, h3, h4⟩ := h x (List.mem_cons_self ..)
      have ih := ih fun y hy => h y (List.mem_cons_of_mem _ hy)
      rw [List.map_cons, List.flatMap_cons, List.map_append]
      unfold lcGo2
      rw [h1]; simp only
      rw [h2]; simp only [truth]
      rw [h3]; simp only [asL]
      have : lcGo t1 tt1 te (wipeE ρ1 vs1) ((sub x).map e1) S = .ok ((sub x).map f) S := by
        generalize sub x = ys at h4
        clear h3
        induction ys with
        | nil => rfl
        | cons y ys ihy =>
          obtain ⟨ρ2, q1, q2, q3⟩ := h4 y (List.mem_cons_self ..)
          have ihy := ihy fun z hz => h4 z (List.mem_cons_of_mem _ hz)
          rw [List.map_cons, List.map_cons]
          unfold lcGo
          rw [q1]; simp only
          rw [q2]; simp only [truth]
          rw [q3]; simp only
          rw [ihy]; rfl
      rw [this, bnd_ok, ih, bnd_ok]
  rw [asL_l, key, bnd_ok]
  unfold okLine
  rw [if_pos (by rw [List.length_map]; exact hz)]
def eLink (l : Nat × Nat) : PV := .tup [.int (l.1 : Int), .int (l.2 : Int)]
def ltL (a b : Nat × Nat) : Bool := lexB [(a.1 : Int), (a.2 : Int)] [(b.1 : Int), (b.2 : Int)]
def both (l : Nat × Nat) : List Nat := [l.1, l.2]
def linB (many : Int) (l : List (Nat × Nat)) : Bool := ((l.flatMap both).all fun i => decide ((0 : Int) ≤ (i : Int)) && decide ((i : Int) ≤ many - 1)) && risL ltL l
theorem flat_both : ∀ l : List (Nat × Nat), (l.flatMap both).length = 2 * l.length
  | [] => rfl
  | a :: r => by rw [List.flatMap_cons, List.length_append, flat_both r, List.length_cons]; show 2 + _ = _; omega
theorem two_le {k : Nat} (h : k ≤ 65536) : 2 * k ≤ sizeLine := by
  have : sizeLine = 16777216 := by decide
  omega
theorem s_are_links (n : Nat) (S : Store) (many : Int) {l : List (Nat × Nat)} (h : l.length ≤ 65536) : C (n + 3) i_are_links [.tup (l.map eLink), .int many] S = .ok (.bl (linB many l)) S := by
  rw [cc rfl (n + 2) _ S rfl]
  walk_at "es"
  rw [lc_enc eLink (fun _ => PV.bl true) (s_le h) (fun c hc => ⟨_, rfl, by walk_at "es", by walk_at "es"; unfold eLink; rw [s_is_tuple]; walk_at "es"⟩)]
  walk_at "es"
  rw [all_map (fun _ => true), List.all_eq_true.mpr (by simp)]
  walk_at "es"
  unfold dLc2
  walk_at "es"
  rw [lc2_enc eLink both (fun i : Nat => PV.int (i : Int)) (fun i : Nat => PV.bl (decide ((0 : Int) ≤ (i : Int)) && decide ((i : Int) ≤ many - 1))) (by rw [flat_both]; exact two_le h)
    (fun c hc => ⟨_, rfl, by walk_at "es", by walk_at "es"; rfl, fun y hy => ⟨_, rfl, by walk_at "es", by walk_at "es"; rw [s_between_i]⟩⟩)]
  walk_at "es"
  rw [all_map]
  walk_at "es"
  rw [s_is_rising (n + 1) S eLink ltL (0, 0) (.inl rfl) (by omega) (fun a _ b _ => rfl)]
  walk_at "es"
  rfl
theorem s_are_links_n (n : Nat) (S : Store) (many : Int) : C (n + 3) i_are_links [.non, .int many] S = .ok (.bl false) S := by
  rw [cc rfl (n + 2) _ S rfl]
  walk_at "es"
end K75
end
section
set_option Elab.async false
set_option linter.all false
set_option autoImplicit false
set_option maxRecDepth 100000
set_option maxHeartbeats 0
namespace K75
open PySem PySem.Spec PyProof.Rows L2 Tg
local macro_rules | `(tactic| walk_at "es") => `(tactic| try simp only [st0, st1, st2, st3, st4, evS, ev, evO, dSeqS, dSkip, dExpr, dRet, dRetN, dIfS, dAsg, dC, dNil, dCons, consV, dTup, dLst, dB1, dB2, dChain, dIte, dAnd, dOr, dNot, dCall,
  dCutL, dCutH, dCutB, dM1, dIx, dSeq, dSrc, dLc, dFor, dPar2, oCons, oNil, wipeE, opF, cmF, u1F, u2F, m1F, isiN, rngF, Tgt.put, List.set, List.headD_cons, List.tail_cons,
  bnd_ok, bnd_bad, bnd_exc, okv_s, onBl_b, onI_i, onS_s, onT_s, tst_b, tstS_b, okE_s, outF_rt, outF_nx, outF_exc, seqK_nx, seqK_rt, okL_s, asL_l, okN0, okN1, okN2, okN3, okN4, okN5, v0, v1, v2, v3, v4, v5, v6, v7, v8, v9, v10, v11,
  isi1, isi2, isi3, isi4, isi5, iss1, iss2, iss3, iss4, iss5, ist1, ist2, ist3, ist4, ist5, isn1, isn2, isn3, isb5, len_t, len_l, lt_i, le_i, gt_i, ge_i, eq_i, ne_i, eq_s, ne_s, lt_s, add_i, sub_i, neg_i, is_non, is_t, is_s, is_i, isn_non, isn_t, isn_s, isn_i,
  at_t0, at_t1, at_t2, at_t3, at_t4, ixt, ixl, ixs, sq_t, sq_l, sq_s, tup_l, in_c, nin_c, and_bl, or_bl, ite_ok, ret_ok, guard_ok, ib_and, ib_or, ib_f, nc0, nc1, nc2, nc3, nc4, nc5, nc6, Int.reduceLE, Int.reduceLT, Int.reduceEq, decide_true, decide_false, Int.le_refl, Int.lt_irrefl,
  List.length_cons, List.length_nil, List.replicate, List.cons_append, List.nil_append, Nat.add_zero, Nat.zero_add, Nat.reduceAdd, Nat.reduceSub, Option.getD_some, Option.getD_none, Bool.not_false, Bool.not_true, Bool.true_or, Bool.false_or, Bool.true_and, Bool.false_and, Bool.and_true, Bool.or_true, Bool.or_false, if_true, if_false, Bool.false_eq_true, ite_true, ite_false])
structure Book where
  n : Option Nat
  parts : List (List (List Nat × List Nat))
  firsts : Option (List Nat)
  links : Option (List (Nat × Nat))
  lasts : Option (List Nat)
def eN : Option Nat → PV := eO fun i : Nat => .int (i : Int)
def eLinks (l : List (Nat × Nat)) : PV := .tup (l.map eLink)
def eBook (b : Book) : PV := .tup [eN b.n, .tup (b.parts.map ePart), eO eNums b.firsts, eO eLinks b.links, eO eNums b.lasts]
def oLe {α : Type} (o : Option (List α)) : Prop := ∀ l, o = some l → l.length ≤ 65536
structure Book.ok (b : Book) : Prop where
  parts : b.parts.length ≤ 65536 ∧ ∀ c ∈ b.parts, chsOk c
  firsts : oLe b.firsts
  links : oLe b.links
  lasts : oLe b.lasts
def oB {α : Type} (f : α → Bool) : Option α → Bool
  | none => false
  | some x => f x
def bookB (b : Book) : Bool := match b.n with
  | none => false
  | some k => ((isN k && (decide (1 ≤ (b.parts.length : Int)) && decide ((b.parts.length : Int) ≤ 8))) && b.parts.all (paB k)) && (oB (ascB 0 (b.parts.length - 1)) b.firsts && (oB (linB b.parts.length) b.links && oB (ascB 0 (b.parts.length - 1)) b.lasts))
theorem s_asc_o (n : Nat) (S : Store) (lo hi : Int) {o : Option (List Nat)} (h : oLe o) : C (n + 3) i_is_ascending [eO eNums o, .int lo, .int hi] S = .ok (.bl (oB (ascB lo hi) o)) S := by
  cases o with
  | none => exact s_is_ascending_n n S lo hi
  | some l => exact s_is_ascending n S lo hi (h l rfl)
theorem s_links_o (n : Nat) (S : Store) (many : Int) {o : Option (List (Nat × Nat))} (h : oLe o) : C (n + 3) i_are_links [eO eLinks o, .int many] S = .ok (.bl (oB (linB many) o)) S := by
  cases o with
  | none => exact s_are_links_n n S many
  | some l => exact s_are_links n S many (h l rfl)
theorem s_is_a_book (n : Nat) (S : Store) {b : Book} (h : b.ok) : C (n + 4) i_is_a_book [eBook b] S = .ok (.bl (bookB b)) S := by
  rw [cc rfl (n + 3) _ S rfl]
  walk_at "es"
  unfold eBook
  rw [s_is_tuple]
  walk_at "es"
  cases hn : b.n with
  | none =>
    rw [show eN none = .non from rfl, s_is_letters_n]
    walk_at "es"
    unfold bookB; rw [hn]
  | some k =>
    rw [show eN (some k) = .int (k : Int) from rfl, s_is_letters]
    walk_at "es"
    rw [g13]
    walk_at "es"
    rw [s_is_tuple, List.length_map]
    walk_at "es"
    rw [lc_enc ePart (fun c => .bl (paB k c)) (s_le h.parts.1) (fun c hc => ⟨_, rfl, by walk_at "es", by walk_at "es"; rw [s_is_part n S k (h.parts.2 c hc)]⟩)]
    walk_at "es"
    rw [all_map]
    walk_at "es"
    rw [List.length_map, s_asc_o n S _ _ h.firsts]
    walk_at "es"
    rw [s_links_o n S _ h.links]
    walk_at "es"
    rw [s_asc_o n S _ _ h.lasts]
    walk_at "es"
    unfold bookB isN
    rw [hn]
    dsimp only
    cases decide (1 ≤ (k : Int)) <;> cases decide ((k : Int) ≤ 12) <;> cases decide (1 ≤ (b.parts.length : Int)) <;> cases decide ((b.parts.length : Int) ≤ 8) <;> cases b.parts.all (paB k) <;> rfl
theorem s_is_book (n : Nat) (S : Store) {b : Book} (h : b.ok) : C (n + 5) i_is_book [eBook b] S = .ok (.bl (bookB b)) S := by
  rw [cc rfl (n + 4) _ S rfl]
  walk_at "es"
  rw [s_is_a_book n S h]
  walk_at "es"
/-! ### grammars -/
def small26 : List Nat := [97, 98, 99, 100, 101, 102, 103, 104, 105, 106, 107, 108, 109, 110, 111, 112, 113, 114, 115, 116, 117, 118, 119, 120, 121, 122]
def tagS : List Nat := [65, 66, 67, 68, 69, 70, 71, 72, 73, 74, 75, 76, 77, 78, 79, 80, 81, 82, 83, 84, 85, 86, 87, 88, 89, 90, 46]
theorem g23 : dG G0 23 = dC (.str small26) := rfl
theorem g24 : dG G0 24 = dC (.str tagS) := rfl
theorem g21 : dG G0 21 = dC (.int 4) := rfl
theorem g11 : dG G0 11 = dC (.int 20) := rfl
theorem g16 : dG G0 16 = dC (.int 40) := rfl
theorem g22 : dG G0 22 = dC (.int 60) := rfl
theorem g12 : dG G0 12 = dC (.int 40) := rfl
theorem g8 : dG G0 8 = dC (.int 30) := rfl
theorem g18 : dG G0 18 = dC (.int 40) := rfl
def digs : List Nat := [48, 49, 50, 51, 52, 53, 54, 55, 56, 57]
theorem g2 : dG G0 2 = dC (.str digs) := rfl
def vars : List PV := [.str [120], .str [121]]
theorem g25 : dG G0 25 = dC (.tup vars) := rfl
theorem s_is_name (n : Nat) (S : Store) {s : List Nat} (hs : s.length ≤ sizeLine) : C (n + 2) i_is_name [.str s] S = .ok (.bl (txB small26 1 8 s)) S := by
  rw [cc rfl (n + 1) _ S rfl]
  walk_at "es"
  rw [g23]
  walk_at "es"
  rw [s_is_text n S _ _ hs]
  walk_at "es"
  rfl
theorem s_is_tag (n : Nat) (S : Store) {s : List Nat} (hs : s.length ≤ sizeLine) : C (n + 2) i_is_tag [.str s] S = .ok (.bl (txB tagS 1 80 s)) S := by
  rw [cc rfl (n + 1) _ S rfl]
  walk_at "es"
  rw [g24]
  walk_at "es"
  rw [s_is_text n S _ _ hs]
  walk_at "es"
  rfl
/-- a mark: a variable's name or a number -/
inductive Mark where
  | v (s : List Nat) | n (i : Nat)
def eM : Mark → PV
  | .v s => .str s
  | .n i => .int (i : Int)
def Mark.ok : Mark → Prop
  | .v s => strG s
  | .n _ => True
abbrev Sign := List Nat × List Mark
def eSign (s : Sign) : PV := .tup [.str s.1, .tup (s.2.map eM)]
def sgOk (s : Sign) : Prop := strG s.1 ∧ s.2.length ≤ 65536 ∧ ∀ m ∈ s.2, m.ok
def btwM (lo hi : Int) : Mark → Bool
  | .v _ => false
  | .n i => decide (lo ≤ (i : Int)) && decide ((i : Int) ≤ hi)
theorem s_btw_m (n : Nat) (S : Store) (lo hi : Int) (m : Mark) : C (n + 2) i_is_between [eM m, .int lo, .int hi] S = .ok (.bl (btwM lo hi m)) S := by
  cases m with
  | v s => exact s_between_s n S s lo hi
  | n i => exact s_between_i n S i lo hi
def sizB (s : Sign) : Bool := (txB small26 1 8 s.1 && decide ((s.2.length : Int) ≤ 2)) && s.2.all (btwM 1 4)
theorem s_is_size (n : Nat) (S : Store) {s : Sign} (h : sgOk s) : C (n + 3) i_is_size [eSign s] S = .ok (.bl (sizB s)) S := by
  rw [cc rfl (n + 2) _ S rfl]
  walk_at "es"
  unfold eSign
  rw [s_is_tuple]
  walk_at "es"
  rw [s_is_name (n := n) S h.1.le]
  walk_at "es"
  rw [s_is_tuple, List.length_map]
  walk_at "es"
  rw [lc_enc eM (fun c => .bl (btwM 1 4 c)) (s_le h.2.1) (fun c hc => ⟨_, rfl, by walk_at "es", by walk_at "es"; rw [g21]; walk_at "es"; rw [s_btw_m]⟩)]
  walk_at "es"
  rw [all_map]
  walk_at "es"
  have h0 : (0 : Int) ≤ s.2.length := by omega
  unfold sizB
  simp only [h0, decide_true, Bool.true_and]
  cases txB small26 1 8 s.1 <;> cases decide ((s.2.length : Int) ≤ 2) <;> rfl
def sizsB (l : List Sign) : Bool := ((decide (1 ≤ (l.length : Int)) && decide ((l.length : Int) ≤ 20)) && l.all sizB) && risL (fun a b => decide (a < b)) (l.map (·.1))
def sgsOk (l : List Sign) : Prop := l.length ≤ 65536 ∧ ∀ c ∈ l, sgOk c
theorem s_are_sizes (n : Nat) (S : Store) {l : List Sign} (h : sgsOk l) : C (n + 4) i_are_sizes [.tup (l.map eSign)] S = .ok (.bl (sizsB l)) S := by
  rw [cc rfl (n + 3) _ S rfl]
  walk_at "es"
  rw [g11]
  walk_at "es"
  rw [s_is_tuple, List.length_map]
  walk_at "es"
  rw [lc_enc eSign (fun c => .bl (sizB c)) (s_le h.1) (fun c hc => ⟨_, rfl, by walk_at "es", by walk_at "es"; rw [s_is_size n S (h.2 c hc)]⟩)]
  walk_at "es"
  rw [all_map]
  walk_at "es"
  rw [lc_enc eSign (fun c => .str c.1) (s_le h.1) (fun c hc => ⟨_, rfl, by walk_at "es", by walk_at "es"; unfold eSign; walk_at "es"⟩)]
  walk_at "es"
  rw [s_is_rising (n + 2) S (ys := l.map (·.1)) PV.str (fun a b => decide (a < b)) [] (.inl (by rw [List.map_map]; rfl)) (by rw [List.length_map]; have := h.1; omega) (fun a _ b _ => ltS a b)]
  walk_at "es"
  unfold sizsB
  cases decide (1 ≤ (l.length : Int)) <;> cases decide ((l.length : Int) ≤ 20) <;> cases l.all sizB <;> rfl
theorem s_are_sizes_n (n : Nat) (S : Store) : C (n + 4) i_are_sizes [.non] S = .ok (.bl false) S := by
  rw [cc rfl (n + 3) _ S rfl]
  walk_at "es"
  rw [g11]
  walk_at "es"
  rw [s_is_tuple_n]
  walk_at "es"
end K75
end
section
set_option Elab.async false
set_option linter.all false
set_option autoImplicit false
set_option maxRecDepth 100000
set_option maxHeartbeats 0
namespace K75
open PySem PySem.Spec PyProof.Rows L2 Tg
local macro_rules | `(tactic| walk_at "es") => `(tactic| try simp only [st0, st1, st2, st3, st4, evS, ev, evO, dSeqS, dSkip, dExpr, dRet, dRetN, dIfS, dAsg, dC, dNil, dCons, consV, dTup, dLst, dB1, dB2, dChain, dIte, dAnd, dOr, dNot, dCall,
  dCutL, dCutH, dCutB, dM1, dIx, dSeq, dSrc, dLc, dFor, dPar2, oCons, oNil, wipeE, opF, cmF, u1F, u2F, m1F, isiN, rngF, Tgt.put, List.set, List.headD_cons, List.tail_cons,
  bnd_ok, bnd_bad, bnd_exc, okv_s, onBl_b, onI_i, onS_s, onT_s, tst_b, tstS_b, okE_s, outF_rt, outF_nx, outF_exc, seqK_nx, seqK_rt, okL_s, asL_l, okN0, okN1, okN2, okN3, okN4, okN5, v0, v1, v2, v3, v4, v5, v6, v7, v8, v9, v10, v11,
  isi1, isi2, isi3, isi4, isi5, iss1, iss2, iss3, iss4, iss5, ist1, ist2, ist3, ist4, ist5, isn1, isn2, isn3, isb5, len_t, len_l, lt_i, le_i, gt_i, ge_i, eq_i, ne_i, eq_s, ne_s, lt_s, add_i, sub_i, neg_i, is_non, is_t, is_s, is_i, isn_non, isn_t, isn_s, isn_i,
  at_t0, at_t1, at_t2, at_t3, at_t4, ixt, ixl, ixs, sq_t, sq_l, sq_s, tup_l, in_c, nin_c, and_bl, or_bl, ite_ok, ret_ok, guard_ok, ib_and, ib_or, ib_f, nc0, nc1, nc2, nc3, nc4, nc5, nc6, Int.reduceLE, Int.reduceLT, Int.reduceEq, decide_true, decide_false, Int.le_refl, Int.lt_irrefl,
  List.length_cons, List.length_nil, List.replicate, List.cons_append, List.nil_append, Nat.add_zero, Nat.zero_add, Nat.reduceAdd, Nat.reduceSub, Option.getD_some, Option.getD_none, Bool.not_false, Bool.not_true, Bool.true_or, Bool.false_or, Bool.true_and, Bool.false_and, Bool.and_true, Bool.or_true, Bool.or_false, if_true, if_false, Bool.false_eq_true, ite_true, ite_false])
/-! ### the sizes as a dict -/
abbrev Sz := List Nat × List Nat
def eSz (s : Sz) : PV := .tup [.str s.1, eNums s.2]
def toSign (s : Sz) : Sign := (s.1, s.2.map Mark.n)
theorem eSign_to (s : Sz) : eSign (toSign s) = eSz s := by
  unfold eSign toSign eSz eNums
  simp only [List.map_map]
  rfl
def putZ (D : List Sz) (s : Sz) : List Sz := if (D.any fun d => decide (d.1 = s.1)) = true then D.map (fun d => if d.1 = s.1 then (d.1, s.2) else d) else D ++ [s]
def dicZ (l : List Sz) : List Sz := l.foldl putZ []
def eD (D : List Sz) : List (KP × PV) := D.map fun s => (KP.s s.1, eNums s.2)
theorem putZ_put (D : List Sz) (s : Sz) : putL (eD D) (.s s.1) (eNums s.2) = eD (putZ D s) := by
  unfold putL putZ eD
  have e : ((D.map fun s => (KP.s s.1, eNums s.2)).any fun kv => decide (kv.1 = KP.s s.1)) = D.any fun d => decide (d.1 = s.1) := by
    rw [List.any_map]
    congr 1
    funext d
    simp
  rw [e]
  split
  · rw [List.map_map, List.map_map]
    apply List.map_congr_left
    intro d _
    simp only [Function.comp_apply, KP.s.injEq]
    split <;> rfl
  · rw [List.map_append]; rfl
theorem merge_eD : ∀ (l D : List Sz), mergeL (eD D) (l.map fun s => (KP.s s.1, eNums s.2)) = eD (l.foldl putZ D)
  | [], D => rfl
  | s :: l, D => by
    have ih := merge_eD l (putZ D s)
    unfold mergeL at ih ⊢
    rw [List.map_cons, List.foldl_cons, List.foldl_cons]
    simp only
    rw [putZ_put]
    exact ih
theorem pairs_sz : ∀ l : List Sz, Tg.pairsOf (l.map eSz) = some (l.map fun s => (KP.s s.1, eNums s.2))
  | [] => rfl
  | s :: l => by
    rw [List.map_cons]
    unfold eSz
    have ih := pairs_sz l
    unfold eSz at ih
    unfold Tg.pairsOf
    rw [ih]
    rfl
theorem dict_sz (l : List Sz) : uDict (.tup (l.map eSz)) = some (.dct (eD (dicZ l))) := by
  show (Tg.pairsOf (l.map eSz)).map _ = _
  rw [pairs_sz]
  show some (PV.dct (mergeL [] _)) = _
  rw [show ([] : List (KP × PV)) = eD [] from rfl, merge_eD]
  rfl
def lookZ (x : List Nat) : List Sz → Option (List Nat)
  | [] => none
  | s :: r => if s.1 = x then some s.2 else lookZ x r
theorem lookZ_cons (x : List Nat) (s : Sz) (r : List Sz) : lookZ x (s :: r) = if s.1 = x then some s.2 else lookZ x r := rfl
theorem look_eD (x : List Nat) : ∀ D : List Sz, dLook (.s x) (eD D) = (lookZ x D).map eNums
  | [] => rfl
  | s :: r => by
    unfold eD
    rw [List.map_cons]
    unfold dLook
    rw [lookZ_cons]
    have := look_eD x r
    unfold eD at this
    rw [this]
    by_cases h : s.1 = x <;> simp [h]
theorem inB_d (x : List Nat) (D : List Sz) : inB (.str x) (.dct (eD D)) = some (lookZ x D).isSome := by
  have e : inB (.str x) (.dct (eD D)) = some ((eD D).any fun kv => decide (kv.1 = .s x)) := by
    cases x with
    | nil => rfl
    | cons a r => cases r <;> rfl
  rw [e]
  congr 1
  clear e
  induction D with
  | nil => rfl
  | cons s r ih =>
    unfold eD at ih ⊢
    rw [List.map_cons, List.any_cons, ih, lookZ_cons]
    by_cases h : s.1 = x <;> simp [h]
theorem nin_d (x : List Nat) (D : List Sz) : vNotIn (.str x) (.dct (eD D)) = some (.bl (!(lookZ x D).isSome)) := by unfold vNotIn; rw [inB_d]; rfl
theorem ix_d {x : List Nat} {D : List Sz} {S : Store} : ixS (.dct (eD D)) (.str x) S = (lookZ x D).map eNums := look_eD x D
def sgB (f : Int → Mark → Bool) (D : List Sz) (s : Sign) : Bool := match lookZ s.1 D with
  | none => false
  | some vs => (txB small26 1 8 s.1 && decide (s.2.length = vs.length)) && (List.zip s.2 vs).all fun p => f (p.2 : Int) p.1
def dOk (D : List Sz) : Prop := ∀ x vs, lookZ x D = some vs → vs.length ≤ 65536
def catB : List Sz → Sign → Bool := sgB fun many m => btwM 0 (many - 1) m
def mkB (many : Int) : Mark → Bool
  | .v s => inF (.str s) vars
  | .n i => decide ((0 : Int) ≤ (i : Int)) && decide ((i : Int) ≤ many - 1)
theorem s_is_mark (n : Nat) (S : Store) (many : Int) (m : Mark) : C (n + 3) i_is_mark [eM m, .int many] S = .ok (.bl (mkB many m)) S := by
  rw [cc rfl (n + 2) _ S rfl]
  cases m with
  | v s =>
    simp only [eM]
    walk_at "es"
    rw [g25]
    walk_at "es"
    rw [in_t (flatS _ rfl)]
    walk_at "es"
    rw [s_between_s]
    walk_at "es"
    rfl
  | n i =>
    simp only [eM]
    walk_at "es"
    rw [s_between_i]
    walk_at "es"
    rfl
theorem s_is_category (n : Nat) (S : Store) {D : List Sz} {s : Sign} (h : sgOk s) : C (n + 3) i_is_category [.dct (eD D), eSign s] S = .ok (.bl (catB D s)) S := by
  rw [cc rfl (n + 2) _ S rfl]
  walk_at "es"
  unfold eSign
  rw [s_is_tuple]
  walk_at "es"
  rw [s_is_name (n := n) S h.1.le]
  walk_at "es"
  rw [nin_d]
  walk_at "es"
  unfold catB sgB
  cases hx : lookZ s.1 D with
  | none => walk_at "es"; cases txB small26 1 8 s.1 <;> rfl
  | some vs =>
    walk_at "es"
    cases hn : txB small26 1 8 s.1 with
    | false => rfl
    | true =>
      walk_at "es"
      rw [ix_d, hx]
      walk_at "es"
      simp only [Option.map_some, Option.isSome_some]
      walk_at "es"
      unfold eNums
      walk_at "es"
      rw [s_is_tuple, List.length_map, List.length_map]
      walk_at "es"
      by_cases hl : s.2.length = vs.length
      · rw [hl]
        walk_at "es"
        rw [zip_t]
        walk_at "es"
        rw [lc_enc (fun q : Mark × Nat => PV.tup [eM q.1, .int (q.2 : Int)]) (fun q => .bl (btwM 0 ((q.2 : Int) - 1) q.1)) (Nat.le_trans (zip_le _ _) (s_le h.2.1)) (fun q _ => ⟨_, rfl, by walk_at "es", by walk_at "es"; rw [s_btw_m]⟩)]
        walk_at "es"
        rw [all_map]
        walk_at "es"
      · have : (decide ((vs.length : Int) ≤ s.2.length) && decide ((s.2.length : Int) ≤ vs.length)) = false := by
          simp; omega
        rw [this]
        walk_at "es"
        simp [hl]
theorem s_is_category_n (n : Nat) (S : Store) (v : PV) : C (n + 3) i_is_category [v, .non] S = .ok (.bl false) S := by
  rw [cc rfl (n + 2) _ S rfl]
  walk_at "es"
  rw [s_is_tuple_n]
  walk_at "es"
def signB : List Sz → Sign → Bool := sgB mkB
theorem s_is_sign (n : Nat) (S : Store) {D : List Sz} {s : Sign} (h : sgOk s) : C (n + 4) i_is_sign [.dct (eD D), eSign s] S = .ok (.bl (signB D s)) S := by
  rw [cc rfl (n + 3) _ S rfl]
  walk_at "es"
  unfold eSign
  rw [s_is_tuple]
  walk_at "es"
  rw [s_is_name (n := n + 1) S h.1.le]
  walk_at "es"
  rw [nin_d]
  walk_at "es"
  unfold signB sgB
  cases hx : lookZ s.1 D with
  | none => walk_at "es"; cases txB small26 1 8 s.1 <;> rfl
  | some vs =>
    walk_at "es"
    cases hn : txB small26 1 8 s.1 with
    | false => rfl
    | true =>
      walk_at "es"
      rw [ix_d, hx]
      walk_at "es"
      simp only [Option.map_some, Option.isSome_some]
      walk_at "es"
      unfold eNums
      walk_at "es"
      rw [s_is_tuple, List.length_map, List.length_map]
      walk_at "es"
      by_cases hl : s.2.length = vs.length
      · rw [hl]
        walk_at "es"
        rw [zip_t]
        walk_at "es"
        rw [lc_enc (fun q : Mark × Nat => PV.tup [eM q.1, .int (q.2 : Int)]) (fun q => .bl (mkB (q.2 : Int) q.1)) (Nat.le_trans (zip_le _ _) (s_le h.2.1)) (fun q _ => ⟨_, rfl, by walk_at "es", by walk_at "es"; rw [s_is_mark]⟩)]
        walk_at "es"
        rw [all_map]
        walk_at "es"
      · have : (decide ((vs.length : Int) ≤ s.2.length) && decide ((s.2.length : Int) ≤ vs.length)) = false := by
          simp; omega
        rw [this]
        walk_at "es"
        simp [hl]
end K75
end
section
set_option Elab.async false
set_option linter.all false
set_option autoImplicit false
set_option maxRecDepth 100000
set_option maxHeartbeats 0
namespace K75
open PySem PySem.Spec PyProof.Rows L2 Tg
local macro_rules | `(tactic| walk_at "es") => `(tactic| try simp only [st0, st1, st2, st3, st4, evS, ev, evO, dSeqS, dSkip, dExpr, dRet, dRetN, dIfS, dAsg, dC, dNil, dCons, consV, dTup, dLst, dB1, dB2, dChain, dIte, dAnd, dOr, dNot, dCall,
  dCutL, dCutH, dCutB, dM1, dIx, dSeq, dSrc, dLc, dFor, dPar2, oCons, oNil, wipeE, opF, cmF, u1F, u2F, m1F, isiN, rngF, Tgt.put, List.set, List.headD_cons, List.tail_cons,
  bnd_ok, bnd_bad, bnd_exc, okv_s, onBl_b, onI_i, onS_s, onT_s, tst_b, tstS_b, okE_s, outF_rt, outF_nx, outF_exc, seqK_nx, seqK_rt, okL_s, asL_l, okN0, okN1, okN2, okN3, okN4, okN5, v0, v1, v2, v3, v4, v5, v6, v7, v8, v9, v10, v11,
  isi1, isi2, isi3, isi4, isi5, iss1, iss2, iss3, iss4, iss5, ist1, ist2, ist3, ist4, ist5, isn1, isn2, isn3, isb5, len_t, len_l, lt_i, le_i, gt_i, ge_i, eq_i, ne_i, eq_s, ne_s, lt_s, add_i, sub_i, neg_i, is_non, is_t, is_s, is_i, isn_non, isn_t, isn_s, isn_i,
  at_t0, at_t1, at_t2, at_t3, at_t4, ixt, ixl, ixs, sq_t, sq_l, sq_s, tup_l, in_c, nin_c, and_bl, or_bl, ite_ok, ret_ok, guard_ok, ib_and, ib_or, ib_f, nc0, nc1, nc2, nc3, nc4, nc5, nc6, Int.reduceLE, Int.reduceLT, Int.reduceEq, decide_true, decide_false, Int.le_refl, Int.lt_irrefl,
  List.length_cons, List.length_nil, List.replicate, List.cons_append, List.nil_append, Nat.add_zero, Nat.zero_add, Nat.reduceAdd, Nat.reduceSub, Option.getD_some, Option.getD_none, Bool.not_false, Bool.not_true, Bool.true_or, Bool.false_or, Bool.true_and, Bool.false_and, Bool.and_true, Bool.or_true, Bool.or_false, if_true, if_false, Bool.false_eq_true, ite_true, ite_false])
theorem for_st {α β γ : Type} {t : Tgt} {db : DenS} {S : Store} (e : α → PV) (step : β → α → β) (ρ : β → γ → Tg.Env) (I : List α → β → Prop) (h : ∀ x xs b g, I (x :: xs) b → I xs (step b x) ∧ ∃ ρ1 g', t.put (e x) (ρ b g) = some ρ1 ∧ db ρ1 S = .ok (.nx (ρ (step b x) g')) S) :
    ∀ xs b g, I xs b → ∃ g', forGo t db (xs.map e) (ρ b g) S = .ok (.nx (ρ (xs.foldl step b) g')) S
  | [], b, g, _ => ⟨g, rfl⟩
  | x :: xs, b, g, hI => by
    obtain ⟨h1, ρ1, g', h2, h3⟩ := h x xs b g hI
    obtain ⟨g2, ih⟩ := for_st e step ρ I h xs (step b x) g' h1
    refine ⟨g2, ?_⟩
    rw [List.map_cons]
    unfold forGo
    rw [h2]
    simp only
    rw [h3, bnd_ok]
    exact ih
theorem fold_inv {α β : Type} (step : β → α → β) (I : List α → β → Prop) (h : ∀ x xs b, I (x :: xs) b → I xs (step b x)) : ∀ xs b, I xs b → I [] (xs.foldl step b)
  | [], b, hI => hI
  | x :: xs, b, hI => fold_inv step I h xs _ (h x xs b hI)
/-! ### ranges -/
def eInts (l : List Nat) : PV := .lst (l.map fun i : Nat => .int (i : Int))
def eR (D : List Sz) : List (KP × PV) := D.map fun s => (KP.s s.1, eInts s.2)
theorem putZ_putR (D : List Sz) (s : Sz) : putL (eR D) (.s s.1) (eInts s.2) = eR (putZ D s) := by
  unfold putL putZ eR
  have e : ((D.map fun s => (KP.s s.1, eInts s.2)).any fun kv => decide (kv.1 = KP.s s.1)) = D.any fun d => decide (d.1 = s.1) := by
    rw [List.any_map]
    congr 1
    funext d
    simp
  rw [e]
  split
  · rw [List.map_map, List.map_map]
    apply List.map_congr_left
    intro d _
    simp only [Function.comp_apply, KP.s.injEq]
    split <;> rfl
  · rw [List.map_append]; rfl
theorem look_eR (x : List Nat) : ∀ D : List Sz, dLook (.s x) (eR D) = (lookZ x D).map eInts
  | [] => rfl
  | s :: r => by
    unfold eR
    rw [List.map_cons]
    unfold dLook
    rw [lookZ_cons]
    have := look_eR x r
    unfold eR at this
    rw [this]
    by_cases h : s.1 = x <;> simp [h]
def addR (R : List Sz) (m : List Nat) (k : Nat) : List Sz := putZ R (m, (lookZ m R).getD [] ++ [k])
theorem get_R (R : List Sz) (m : List Nat) : mGet2 (.dct (eR R)) (.str m) (.lst []) = some (eInts ((lookZ m R).getD [])) := by
  show some ((dLook (.s m) (eR R)).getD (.lst [])) = _
  rw [look_eR]
  cases lookZ m R <;> rfl
structure Bd (c : Nat) (R : List Sz) : Prop where
  len : R.length ≤ c
  each : ∀ r ∈ R, r.2.length ≤ c ∧ r.2 ≠ []
theorem lookZ_mem {x : List Nat} {vs : List Nat} : ∀ {D : List Sz}, lookZ x D = some vs → ∃ s ∈ D, s.2 = vs
  | [], h => by cases h
  | s :: r, h => by
    rw [lookZ_cons] at h
    split at h
    · cases h; exact ⟨s, List.mem_cons_self .., rfl⟩
    · obtain ⟨q, h1, h2⟩ := lookZ_mem h
      exact ⟨q, List.mem_cons_of_mem _ h1, h2⟩
theorem Bd.look {c : Nat} {R : List Sz} (h : Bd c R) (m : List Nat) : ((lookZ m R).getD []).length ≤ c := by
  cases e : lookZ m R with
  | none => exact Nat.zero_le _
  | some vs =>
    obtain ⟨s, h1, h2⟩ := lookZ_mem e
    rw [Option.getD_some, ← h2]
    exact (h.each s h1).1
theorem Bd.add {c : Nat} {R : List Sz} (h : Bd c R) (m : List Nat) (k : Nat) : Bd (c + 1) (addR R m k) := by
  have hl := h.look m
  unfold addR putZ
  split
  · refine ⟨by rw [List.length_map]; have := h.len; omega, fun r hr => ?_⟩
    obtain ⟨d, hd, rfl⟩ := List.mem_map.mp hr
    split
    · exact ⟨by simp; omega, by simp⟩
    · have := h.each d hd; exact ⟨by omega, this.2⟩
  · refine ⟨by rw [List.length_append]; have := h.len; simp; omega, fun r hr => ?_⟩
    rcases List.mem_append.mp hr with hr | hr
    · have := h.each r hr; exact ⟨by omega, this.2⟩
    · simp at hr; subst hr; exact ⟨by simp; omega, by simp⟩
theorem Bd.mono {c d : Nat} {R : List Sz} (h : Bd c R) (hc : c ≤ d) : Bd d R := ⟨Nat.le_trans h.len hc, fun r hr => ⟨Nat.le_trans (h.each r hr).1 hc, (h.each r hr).2⟩⟩
theorem put2 {dv dk : Den} {a b : Sl} {r : Tg.Env} {kvs : List (KP × PV)} {S : Store} {v : PV} {m : List Nat} (h1 : dv (a :: b :: .own (.dct kvs) :: r) S = .ok v S) (h2 : dk (a :: b :: .own (.dct kvs) :: r) S = .ok (.str m) S) (hl : kvs.length < sizeLine) :
    dPut 2 dv dk (a :: b :: .own (.dct kvs) :: r) S = .ok (.nx (a :: b :: .own (.dct (putL kvs (.s m) v)) :: r)) S := by
  unfold dPut
  rw [h1, bnd_ok]
  rw [show isSet (look (a :: b :: .own (.dct kvs) :: r) 2) = true from rfl, if_pos rfl, h2, bnd_ok]
  unfold putK2
  show setP 2 (putV (.own (.dct kvs)) S (.str m) v) _ = _
  unfold putV
  simp only
  rw [if_pos hl]
  rfl
theorem bor2 {a b : Sl} {v : PV} {r : Tg.Env} {S : Store} : dBor 2 (a :: b :: .own v :: r) S = .ok v S := rfl
theorem onD_d {d : List (KP × PV)} {k : Rs PV} : onD (.dct d) k = k := rfl
theorem app_ints (l : List Nat) (k : Nat) (hl : l.length < 16777216) : vAdd (eInts l) (.lst [.int (k : Int)]) = some (eInts (l ++ [k])) := by
  unfold eInts vAdd
  simp only [List.length_map, List.length_cons, List.length_nil]
  unfold isz
  rw [if_pos (by have : sizeLine = 16777216 := by decide
                 omega), List.map_append]
  rfl
def stepM (R : List Sz) (q : Mark × Nat) : List Sz := match q.1 with
  | .v m => addR R m q.2
  | .n _ => R
def cap : Nat := 1000000
theorem cap_lt {k : Nat} (h : k ≤ cap) : k < sizeLine := by
  have : sizeLine = 16777216 := by decide
  unfold cap at h
  omega
def inner36 : CS := .seq (.iff (.tv (.isi 1 (.var 5))) (.seq (.put 2 (.bin 0 (.get2 (.bor 2) (.var 5) (.lst (.nil))) (.lst (.cons (.var 6) (.nil)))) (.var 5)) (.skip)) (.skip)) (.skip)
def I1 (xs : List (Mark × Nat)) (R : List Sz) : Prop := ∃ c, Bd c R ∧ c + xs.length ≤ cap
theorem I1_step (x : Mark × Nat) (xs : List (Mark × Nat)) (R : List Sz) (h : I1 (x :: xs) R) : I1 xs (stepM R x) := by
  obtain ⟨c, hb, hc⟩ := h
  rw [List.length_cons] at hc
  unfold stepM
  cases x.1 with
  | v m => exact ⟨c + 1, hb.add m x.2, by omega⟩
  | n i => exact ⟨c, hb, by omega⟩
theorem in36 (n : Nat) (S : Store) (a b c d : Sl) (xs : List (Mark × Nat)) (R : List Sz) (g : Sl × Sl) (h : I1 xs R) :
    ∃ g', forGo (.tup (.cons (.name 5) (.cons (.name 6) (.nil)))) (evS (Pn n) inner36) (xs.map fun q => .tup [eM q.1, .int (q.2 : Int)]) [a, b, .own (.dct (eR R)), c, d, g.1, g.2] S = .ok (.nx ((fun (R : List Sz) (g : Sl × Sl) => [a, b, .own (.dct (eR R)), c, d, g.1, g.2]) (xs.foldl stepM R) g')) S := by
  refine for_st (fun q : Mark × Nat => PV.tup [eM q.1, .int (q.2 : Int)]) stepM (fun (R : List Sz) (g : Sl × Sl) => [a, b, .own (.dct (eR R)), c, d, g.1, g.2]) I1 (fun x xs R g hI => ⟨I1_step x xs R hI, ?_⟩) xs R g h
  obtain ⟨c', hb, hc⟩ := hI
  refine ⟨_, (.val (eM x.1), .val (.int (x.2 : Int))), rfl, ?_⟩
  unfold inner36
  obtain ⟨m, k⟩ := x
  cases m with
  | n i =>
    simp only [eM]
    walk_at "es"
    rfl
  | v m =>
    simp only [eM]
    walk_at "es"
    have hR : (eR R).length < sizeLine := by unfold eR; rw [List.length_map]; exact cap_lt (by have := hb.len; simp at hc; omega)
    rw [put2 (v := eInts ((lookZ m R).getD [] ++ [k])) (m := m) (by
      unfold dMD2
      walk_at "es"
      rw [bor2]
      walk_at "es"
      rw [onD_d]
      walk_at "es"
      rw [get_R]
      walk_at "es"
      rw [app_ints _ _ (by have := hb.look m; simp at hc; unfold cap at hc; omega)]
      walk_at "es") (by walk_at "es") hR]
    walk_at "es"
    rw [putZ_putR R (m, _)]
    rfl
def body36 : CS := .seq (.for (.tup (.cons (.name 5) (.cons (.name 6) (.nil)))) (.zip (.cons (.var 4) (.cons (.ix (.var 0) (.var 3)) (.nil)))) inner36) .skip
def stepS (D : List Sz) (R : List Sz) (s : Sign) : List Sz := (List.zip s.2 ((lookZ s.1 D).getD [])).foldl stepM R
def I2 (D : List Sz) (xs : List Sign) (R : List Sz) : Prop := (∃ c, Bd c R ∧ c + 65536 * xs.length ≤ cap) ∧ ∀ s ∈ xs, sgOk s ∧ (lookZ s.1 D).isSome = true
theorem I1_fold : ∀ (xs : List (Mark × Nat)) (R : List Sz) (c : Nat), Bd c R → Bd (c + xs.length) (xs.foldl stepM R)
  | [], R, c, h => h
  | x :: xs, R, c, h => by
    rw [List.foldl_cons, List.length_cons]
    have : Bd (c + 1) (stepM R x) := by
      unfold stepM
      cases x.1 with
      | v m => exact h.add m x.2
      | n i => exact h.mono (by omega)
    exact (I1_fold xs _ _ this).mono (by omega)
theorem I2_step {D : List Sz} (x : Sign) (xs : List Sign) (R : List Sz) (h : I2 D (x :: xs) R) : I2 D xs (stepS D R x) := by
  obtain ⟨⟨c, hb, hc⟩, h2⟩ := h
  refine ⟨⟨c + 65536, ?_, by rw [List.length_cons] at hc; omega⟩, fun s hs => h2 s (List.mem_cons_of_mem _ hs)⟩
  refine (I1_fold _ R c hb).mono ?_
  have := zip_le x.2 ((lookZ x.1 D).getD [])
  have := (h2 x (List.mem_cons_self ..)).1.2.1
  omega
theorem s_ranges_of (n : Nat) (S : Store) {D : List Sz} {l : List Sign} (h : ∀ s ∈ l, sgOk s ∧ (lookZ s.1 D).isSome = true) (hl : l.length ≤ 10) : C (n + 1) i_ranges_of [.dct (eD D), .tup (l.map eSign)] S = .ok (.dct (eR (l.foldl (stepS D) []))) S := by
  rw [cc (b := .seq (.own 2 (.dnew)) (.seq (.for (.tup (.cons (.name 3) (.cons (.name 4) (.nil)))) (.seq (.var 1)) body36) (.seq (.frz 2) (.seq (.ret (.var 2)) (.skip))))) rfl n _ S rfl]
  obtain ⟨g', hg⟩ := for_st (t := .tup (.cons (.name 3) (.cons (.name 4) (.nil)))) (db := evS (Pn n) body36) (S := S) eSign (stepS D) (fun (R : List Sz) (g : Sl × Sl × Sl × Sl) => [.val (.dct (eD D)), .val (.tup (l.map eSign)), .own (.dct (eR R)), g.1, g.2.1, g.2.2.1, g.2.2.2]) (I2 D)
    (fun x xs R g hI => ⟨I2_step x xs R hI, by
      obtain ⟨⟨c, hb, hc⟩, h2⟩ := hI
      obtain ⟨h3, h4⟩ := h2 x (List.mem_cons_self ..)
      cases hx : lookZ x.1 D with
      | none => rw [hx] at h4; cases h4
      | some vs =>
        obtain ⟨g2, q⟩ := in36 n S (.val (.dct (eD D))) (.val (.tup (l.map eSign))) (.val (.str x.1)) (.val (.tup (x.2.map eM))) (List.zip x.2 vs) R (g.2.2.1, g.2.2.2) ⟨c, hb, by have := zip_le x.2 vs; have := h3.2.1; rw [List.length_cons] at hc; omega⟩
        refine ⟨_, (.val (.str x.1), .val (.tup (x.2.map eM)), g2.1, g2.2), rfl, ?_⟩
        unfold body36
        unfold eSign at *
        simp only [evS]
        unfold dSeqS dFor
        simp only [ev]
        walk_at "es"
        rw [ix_d, hx]
        simp only [Option.map_some]
        walk_at "es"
        unfold eNums
        rw [zip_t]
        walk_at "es"
        rw [q]
        walk_at "es"
        unfold stepS
        rw [hx]
        rfl⟩) l [] (.no, .no, .no, .no) ⟨⟨0, ⟨Nat.le_refl _, by simp⟩, by unfold cap; omega⟩, h⟩
  simp only [evS] at hg ⊢
  have hg : forGo (.tup (.cons (.name 3) (.cons (.name 4) (.nil)))) (evS (Pn n) body36) (l.map eSign) [.val (.dct (eD D)), .val (.tup (l.map eSign)), .own (.dct []), .no, .no, .no, .no] S = _ := hg
  unfold dOwn
  walk_at "es"
  rw [show isO (.dct []) = true from rfl]
  walk_at "es"
  rw [hg]
  walk_at "es"
  unfold dFrz
  rw [show look [.val (.dct (eD D)), .val (.tup (l.map eSign)), .own (.dct (eR (l.foldl (stepS D) []))), g'.1, g'.2.1, g'.2.2.1, g'.2.2.2] 2 = .own (.dct (eR (l.foldl (stepS D) []))) from rfl]
  walk_at "es"
/-! ### rules, words, grammars -/
theorem asInts_map : ∀ l : List Nat, asInts (l.map fun i : Nat => PV.int (i : Int)) = some (l.map fun i : Nat => (i : Int))
  | [] => rfl
  | a :: l => by rw [List.map_cons, asInts, asInts_map l]; rfl
def mn (l : List Nat) : Int := match l with
  | [] => 0
  | a :: r => leastOf a (r.map fun i : Nat => (i : Int))
def mx (l : List Nat) : Int := match l with
  | [] => 0
  | a :: r => mostOf a (r.map fun i : Nat => (i : Int))
theorem min_ok {l : List Nat} (h : l ≠ []) : uMin (eInts l) = some (.int (mn l)) := by
  cases l with
  | nil => exact (h rfl).elim
  | cons a r => simp only [eInts, uMin, List.map_cons, asInts, asInts_map, Option.map_some]; rfl
theorem max_ok {l : List Nat} (h : l ≠ []) : uMax (eInts l) = some (.int (mx l)) := by
  cases l with
  | nil => exact (h rfl).elim
  | cons a r => simp only [eInts, uMax, List.map_cons, asInts, asInts_map, Option.map_some]; rfl
def gruB (D : List Sz) (l : List Sign) : Bool := l.all (signB D) && (l.foldl (stepS D) []).all fun r => decide (mn r.2 = mx r.2)
theorem signB_some {D : List Sz} {s : Sign} (h : signB D s = true) : (lookZ s.1 D).isSome = true := by
  unfold signB sgB at h
  split at h
  · cases h
  · rename_i e; rw [e]; rfl
theorem I2_bd {D : List Sz} {l : List Sign} (h : ∀ s ∈ l, sgOk s ∧ (lookZ s.1 D).isSome = true) (hl : l.length ≤ 10) : ∃ c, Bd c (l.foldl (stepS D) []) ∧ c ≤ cap := by
  obtain ⟨⟨c, h1, h2⟩, _⟩ := fold_inv (stepS D) (I2 D) (fun x xs b hI => I2_step x xs b hI) l [] ⟨⟨0, ⟨Nat.le_refl _, by simp⟩, by unfold cap; omega⟩, h⟩
  exact ⟨c, h1, by simpa using h2⟩
theorem s_is_grule (n : Nat) (S : Store) {D : List Sz} {l : List Sign} (h : ∀ s ∈ l, sgOk s) (hl : l.length = 3) : C (n + 5) i_is_rule1 [.dct (eD D), .tup (l.map eSign)] S = .ok (.bl (gruB D l)) S := by
  rw [cc rfl (n + 4) _ S rfl]
  walk_at "es"
  rw [s_is_tuple, List.length_map, hl]
  walk_at "es"
  rw [lc_enc eSign (fun c => .bl (signB D c)) (by rw [hl]; decide) (fun c hc => ⟨_, rfl, by walk_at "es", by walk_at "es"; rw [s_is_sign n S (h c hc)]⟩)]
  walk_at "es"
  rw [all_map]
  walk_at "es"
  unfold gruB
  cases hs : l.all (signB D) with
  | false => rfl
  | true =>
    walk_at "es"
    rw [List.all_eq_true] at hs
    have h2 : ∀ s ∈ l, sgOk s ∧ (lookZ s.1 D).isSome = true := fun s m => ⟨h s m, signB_some (hs s m)⟩
    unfold dWalk
    walk_at "es"
    rw [s_ranges_of (n + 3) S h2 (by omega)]
    walk_at "es"
    obtain ⟨c, hb, hc⟩ := I2_bd h2 (by omega)
    generalize l.foldl (stepS D) [] = R at hb
    rw [show walkV .vals (.dct (eR R)) = some (R.map fun r => eInts r.2) from by show some ((eR R).map (·.2)) = _; unfold eR; rw [List.map_map]; rfl]
    walk_at "es"
    rw [lc_enc (fun r : Sz => eInts r.2) (fun r : Sz => PV.bl (decide (mn r.2 = mx r.2))) (Nat.le_of_lt (cap_lt (Nat.le_trans hb.len hc))) (fun r hr => ⟨_, rfl, by walk_at "es", by walk_at "es"; rw [min_ok (hb.each r hr).2, max_ok (hb.each r hr).2]; walk_at "es"⟩)]
    walk_at "es"
    rw [all_map]
    walk_at "es"
def eWord (w : Sign × List Nat) : PV := .tup [eSign w.1, .str w.2]
def gwB (D : List Sz) (w : Sign × List Nat) : Bool := signB D w.1 && txB tagS 1 80 w.2
theorem s_is_gword (n : Nat) (S : Store) {D : List Sz} {w : Sign × List Nat} (h : sgOk w.1 ∧ strG w.2) : C (n + 5) i_is_word1 [.dct (eD D), eWord w] S = .ok (.bl (gwB D w)) S := by
  rw [cc rfl (n + 4) _ S rfl]
  walk_at "es"
  unfold eWord
  rw [s_is_tuple]
  walk_at "es"
  rw [s_is_sign n S h.1]
  walk_at "es"
  rw [s_is_tag (n := n + 2) S h.2.le]
  walk_at "es"
  rfl
structure Gram where
  start : Option Sign
  sizes : Option (List Sign)
  rules : Option (List (List Sign))
  words : Option (List (Sign × List Nat))
def eRu (l : List Sign) : PV := .tup (l.map eSign)
def eL {α : Type} (e : α → PV) (l : List α) : PV := .tup (l.map e)
def eGram (g : Gram) : PV := .tup [eO eSign g.start, eO (eL eSign) g.sizes, eO (eL eRu) g.rules, eO (eL eWord) g.words]
structure Gram.ok (g : Gram) : Prop where
  start : ∀ s, g.start = some s → sgOk s
  sizes : ∀ l, g.sizes = some l → sgsOk l
  rules : ∀ l, g.rules = some l → l.length ≤ 65536 ∧ ∀ r ∈ l, r.length = 3 ∧ ∀ s ∈ r, sgOk s
  words : ∀ l, g.words = some l → l.length ≤ 65536 ∧ ∀ w ∈ l, sgOk w.1 ∧ strG w.2
def mkN : Mark → Nat
  | .n i => i
  | .v _ => 0
def szOf (l : List Sign) : List Sz := l.map fun s => (s.1, s.2.map mkN)
theorem szOf_e {l : List Sign} (h : l.all sizB = true) : l.map eSign = (szOf l).map eSz := by
  unfold szOf
  rw [List.map_map]
  apply List.map_congr_left
  intro s hs
  rw [List.all_eq_true] at h
  have h := h s hs
  unfold sizB at h
  rw [Bool.and_eq_true, List.all_eq_true] at h
  show eSign s = eSz _
  unfold eSign eSz eNums
  rw [List.map_map]
  congr 4
  apply List.map_congr_left
  intro m hm
  have := h.2 m hm
  cases m with
  | v s => cases this
  | n i => rfl
def gramB (g : Gram) : Bool := match g.sizes with
  | none => false
  | some l => sizsB l && (oB (catB (dicZ (szOf l))) g.start && oB (fun r => (decide ((r.length : Int) ≤ 40) && r.all (gruB (dicZ (szOf l)))) && oB (fun w => decide ((w.length : Int) ≤ 60) && w.all (gwB (dicZ (szOf l)))) g.words) g.rules)
theorem s_cat_o (n : Nat) (S : Store) {D : List Sz} {o : Option Sign} (h : ∀ s, o = some s → sgOk s) : C (n + 3) i_is_category [.dct (eD D), eO eSign o] S = .ok (.bl (oB (catB D) o)) S := by
  cases o with
  | none => exact s_is_category_n n S _
  | some s => exact s_is_category n S (h s rfl)
theorem s_any_grammar (n : Nat) (S : Store) {g : Gram} (h : g.ok) : C (n + 6) i_is_any_grammar [eGram g] S = .ok (.bl (gramB g)) S := by
  rw [cc rfl (n + 5) _ S rfl]
  walk_at "es"
  unfold eGram
  rw [s_is_tuple]
  walk_at "es"
  unfold gramB
  cases hz : g.sizes with
  | none =>
    rw [show eO (eL eSign) none = .non from rfl, s_are_sizes_n]
    walk_at "es"
  | some l =>
    rw [show eO (eL eSign) (some l) = .tup (l.map eSign) from rfl, s_are_sizes (n + 1) S (h.sizes l hz)]
    walk_at "es"
    cases hs : sizsB l with
    | false => rfl
    | true =>
      have ha : l.all sizB = true := by
        unfold sizsB at hs
        simp only [Bool.and_eq_true] at hs
        exact hs.1.2
      walk_at "es"
      rw [szOf_e ha, dict_sz]
      walk_at "es"
      rw [s_cat_o (n + 2) S h.start]
      walk_at "es"
      rw [g16]
      walk_at "es"
      cases hr : g.rules with
      | none =>
        rw [show eO (eL eRu) none = .non from rfl, s_is_tuple_n]
        walk_at "es"
        cases oB (catB (dicZ (szOf l))) g.start <;> rfl
      | some r =>
        have hr' := h.rules r hr
        rw [show eO (eL eRu) (some r) = .tup (r.map eRu) from rfl, s_is_tuple, List.length_map]
        walk_at "es"
        rw [lc_enc eRu (fun c => .bl (gruB (dicZ (szOf l)) c)) (s_le hr'.1) (fun c hc => ⟨_, rfl, by walk_at "es", by walk_at "es"; unfold eRu; rw [s_is_grule n S (hr'.2 c hc).2 (hr'.2 c hc).1]⟩)]
        walk_at "es"
        rw [all_map]
        walk_at "es"
        have r0 : (0 : Int) ≤ r.length := by omega
        rw [decide_eq_true r0, g22]
        walk_at "es"
        cases hw : g.words with
        | none =>
          rw [show eO (eL eWord) none = .non from rfl, s_is_tuple_n]
          walk_at "es"
          generalize oB (catB (dicZ (szOf l))) g.start = q1
          unfold oB
          dsimp only
          cases q1 <;> cases decide ((r.length : Int) ≤ 40) <;> cases r.all (gruB (dicZ (szOf l))) <;> rfl
        | some w =>
          have hw' := h.words w hw
          rw [show eO (eL eWord) (some w) = .tup (w.map eWord) from rfl, s_is_tuple, List.length_map]
          walk_at "es"
          rw [lc_enc eWord (fun c => .bl (gwB (dicZ (szOf l)) c)) (s_le hw'.1) (fun c hc => ⟨_, rfl, by walk_at "es", by walk_at "es"; rw [s_is_gword n S (hw'.2 c hc)]⟩)]
          walk_at "es"
          rw [all_map]
          walk_at "es"
          have w0 : (0 : Int) ≤ w.length := by omega
          rw [decide_eq_true w0]
          generalize oB (catB (dicZ (szOf l))) g.start = q1
          unfold oB
          dsimp only
          cases q1 <;> cases decide ((r.length : Int) ≤ 40) <;> cases r.all (gruB (dicZ (szOf l))) <;> cases decide ((w.length : Int) ≤ 60) <;> rfl
end K75
end
section
set_option Elab.async false
set_option linter.all false
set_option autoImplicit false
set_option maxRecDepth 100000
set_option maxHeartbeats 0
namespace K75
open PySem PySem.Spec PyProof.Rows L2 Tg
local macro_rules | `(tactic| walk_at "es") => `(tactic| try simp only [st0, st1, st2, st3, st4, evS, ev, evO, dSeqS, dSkip, dExpr, dRet, dRetN, dIfS, dAsg, dC, dNil, dCons, consV, dTup, dLst, dB1, dB2, dChain, dIte, dAnd, dOr, dNot, dCall,
  dCutL, dCutH, dCutB, dM1, dIx, dSeq, dSrc, dLc, dFor, dPar2, oCons, oNil, wipeE, opF, cmF, u1F, u2F, m1F, isiN, rngF, Tgt.put, List.set, List.headD_cons, List.tail_cons,
  bnd_ok, bnd_bad, bnd_exc, okv_s, onBl_b, onI_i, onS_s, onT_s, tst_b, tstS_b, okE_s, outF_rt, outF_nx, outF_exc, seqK_nx, seqK_rt, okL_s, asL_l, okN0, okN1, okN2, okN3, okN4, okN5, v0, v1, v2, v3, v4, v5, v6, v7, v8, v9, v10, v11,
  isi1, isi2, isi3, isi4, isi5, iss1, iss2, iss3, iss4, iss5, ist1, ist2, ist3, ist4, ist5, isn1, isn2, isn3, isb5, len_t, len_l, lt_i, le_i, gt_i, ge_i, eq_i, ne_i, eq_s, ne_s, lt_s, add_i, sub_i, neg_i, is_non, is_t, is_s, is_i, isn_non, isn_t, isn_s, isn_i,
  at_t0, at_t1, at_t2, at_t3, at_t4, ixt, ixl, ixs, sq_t, sq_l, sq_s, tup_l, in_c, nin_c, and_bl, or_bl, ite_ok, ret_ok, guard_ok, ib_and, ib_or, ib_f, nc0, nc1, nc2, nc3, nc4, nc5, nc6, Int.reduceLE, Int.reduceLT, Int.reduceEq, decide_true, decide_false, Int.le_refl, Int.lt_irrefl,
  List.length_cons, List.length_nil, List.replicate, List.cons_append, List.nil_append, Nat.add_zero, Nat.zero_add, Nat.reduceAdd, Nat.reduceSub, Option.getD_some, Option.getD_none, Bool.not_false, Bool.not_true, Bool.true_or, Bool.false_or, Bool.true_and, Bool.false_and, Bool.and_true, Bool.or_true, Bool.or_false, if_true, if_false, Bool.false_eq_true, ite_true, ite_false])
/-- a text of the law -/
def tx (s : List Nat) : Prop := s.length ≤ 500 ∧ ∀ c ∈ s, c < 128
theorem tx.g {s : List Nat} (h : tx s) : strG s := ⟨Nat.le_trans h.1 (by decide), h.2⟩
theorem tx.le {s : List Nat} (h : tx s) : s.length ≤ sizeLine := h.g.le
/-- a part of a text -/
def Sub (p a : List Nat) : Prop := p.length ≤ a.length ∧ ∀ c ∈ p, c ∈ a
theorem tx.sub {p a : List Nat} (h : tx a) (q : Sub p a) : tx p := ⟨Nat.le_trans q.1 h.1, fun c hc => h.2 c (q.2 c hc)⟩
theorem Sub.refl (a : List Nat) : Sub a a := ⟨Nat.le_refl _, fun _ h => h⟩
theorem sub_take (a : List Nat) (n : Nat) : Sub (a.take n) a := ⟨by rw [List.length_take]; exact Nat.min_le_right _ _, fun c h => List.take_subset _ _ h⟩
theorem sub_drop (a : List Nat) (n : Nat) : Sub (a.drop n) a := ⟨by rw [List.length_drop]; exact Nat.sub_le _ _, fun c h => List.drop_subset _ _ h⟩
theorem Sub.trans {a b c : List Nat} (h : Sub a b) (q : Sub b c) : Sub a c := ⟨Nat.le_trans h.1 q.1, fun x hx => q.2 x (h.2 x hx)⟩
theorem sub_cut (a : List Nat) (lo hi : Option Int) : Sub (cutP a lo hi) a := by
  unfold cutP
  exact (sub_take _ _).trans (sub_drop _ _)
/-! ### cut texts -/
theorem spl_sub (z : List Nat) : ∀ (l : List Nat) (k : Nat) (acc : List Nat), ∀ p ∈ TL.spl z k acc l, p.length ≤ acc.length + l.length ∧ ∀ c ∈ p, c ∈ acc ∨ c ∈ l
  | [], k, acc, p, h => by
    rw [TL.spl_nil] at h
    simp at h
    subst h
    exact ⟨by simp, fun c hc => .inl hc⟩
  | c :: r, 0, acc, p, h => by
    cases q : TL.pre z (c :: r) with
    | true =>
      rw [TL.spl_hit q] at h
      rcases List.mem_cons.mp h with rfl | h
      · exact ⟨by simp, fun c hc => .inl hc⟩
      · obtain ⟨h1, h2⟩ := spl_sub z r _ _ p h
        exact ⟨by simp at h1 ⊢; omega, fun d hd => (h2 d hd).elim (fun e => by cases e) fun e => .inr (List.mem_cons_of_mem _ e)⟩
    | false =>
      rw [TL.spl_miss q] at h
      obtain ⟨h1, h2⟩ := spl_sub z r _ _ p h
      refine ⟨by simp at h1 ⊢; omega, fun d hd => ?_⟩
      rcases h2 d hd with e | e
      · rcases List.mem_append.mp e with e | e
        · exact .inl e
        · simp at e; subst e; exact .inr (List.mem_cons_self ..)
      · exact .inr (List.mem_cons_of_mem _ e)
  | c :: r, k + 1, acc, p, h => by
    obtain ⟨h1, h2⟩ := spl_sub z r k acc p h
    exact ⟨by simp at h1 ⊢; omega, fun d hd => (h2 d hd).imp id fun e => List.mem_cons_of_mem _ e⟩
theorem spl_len (z : List Nat) : ∀ (l : List Nat) (k : Nat) (acc : List Nat), (TL.spl z k acc l).length ≤ l.length + 1
  | [], k, acc => by rw [TL.spl_nil]; simp
  | c :: r, 0, acc => by
    cases q : TL.pre z (c :: r) with
    | true => rw [TL.spl_hit q]; have := spl_len z r (z.length - 1) []; simp; omega
    | false => rw [TL.spl_miss q]; have := spl_len z r 0 (acc ++ [c]); simp; omega
  | c :: r, k + 1, acc => by have := spl_len z r k acc; show (TL.spl z k acc r).length ≤ _; simp; omega
theorem spl_ne (z : List Nat) : ∀ (l : List Nat) (k : Nat) (acc : List Nat), TL.spl z k acc l ≠ []
  | [], k, acc => by rw [TL.spl_nil]; simp
  | c :: r, 0, acc => by
    cases q : TL.pre z (c :: r) with
    | true => rw [TL.spl_hit q]; simp
    | false => rw [TL.spl_miss q]; exact spl_ne z r _ _
  | c :: r, k + 1, acc => spl_ne z r k acc
/-- the parts of a text -/
def splt (z a : List Nat) : List (List Nat) := TL.spl z 0 [] a
theorem splt_sub {z a p : List Nat} (h : p ∈ splt z a) : Sub p a := by
  obtain ⟨h1, h2⟩ := spl_sub z a 0 [] p h
  exact ⟨by simpa using h1, fun c hc => (h2 c hc).elim (fun e => by cases e) id⟩
theorem splt_len (z a : List Nat) : (splt z a).length ≤ a.length + 1 := spl_len z a 0 []
theorem splt_ne (z a : List Nat) : splt z a ≠ [] := spl_ne z a 0 []
theorem split_s {a z : List Nat} (hz : (!z.isEmpty && low z) = true) (ha : tx a) : mSplit (.str a) (.str z) = some (.lst ((splt z a).map .str)) := by
  show (if _ then _ else _) = _
  rw [if_pos]
  · rfl
  · rw [hz, Bool.true_and]
    have : sizeLine = 16777216 := by decide
    have := ha.1
    simp; omega
theorem pre_eq {z l : List Nat} (h : TL.pre z l = true) : l = z ++ l.drop z.length := by
  unfold TL.pre at h
  have e : l.take z.length = z := by simpa using h
  conv => lhs; rw [← List.take_append_drop z.length l]
  rw [e]
theorem par_eq {z : List Nat} : ∀ {l acc p q : List Nat}, TL.par z acc l = some (p, q) → ∃ u, p = acc ++ u ∧ l = u ++ (z ++ q)
  | [], _, _, _, h => by cases h
  | c :: r, acc, p, q, h => by
    cases e : TL.pre z (c :: r) with
    | true =>
      rw [TL.par_hit e] at h
      cases h
      exact ⟨[], by simp, pre_eq e⟩
    | false =>
      rw [TL.par_miss e] at h
      obtain ⟨u, h1, h2⟩ := par_eq h
      exact ⟨c :: u, by rw [h1]; simp, by rw [h2]; rfl⟩
structure P3 where
  p : List Nat
  m : List Nat
  q : List Nat
def parP (z a : List Nat) : P3 := match TL.par z [] a with
  | some (p, q) => ⟨p, z, q⟩
  | none => ⟨a, [], []⟩
def eP (x : P3) : PV := .tup [.str x.p, .str x.m, .str x.q]
theorem part_s {a z : List Nat} (hz : (!z.isEmpty) = true) (ha : tx a) : mPart (.str a) (.str z) = some (.tup [.str (parP z a).p, .str (parP z a).m, .str (parP z a).q]) := by
  show (if _ then _ else _) = _
  rw [if_pos (by rw [hz, Bool.true_and]; exact decide_eq_true ha.le)]
  unfold parP
  cases TL.par z [] a with
  | none => rfl
  | some x => rfl
theorem parP_p (z a : List Nat) : Sub (parP z a).p a := by
  unfold parP
  cases e : TL.par z [] a with
  | none => exact Sub.refl a
  | some x =>
    obtain ⟨u, h1, h2⟩ := par_eq (p := x.1) (q := x.2) e
    simp only
    rw [h1, h2]
    exact ⟨by simp, fun c hc => by simp at hc ⊢; exact .inl hc⟩
theorem parP_q (z a : List Nat) : Sub (parP z a).q a := by
  unfold parP
  cases e : TL.par z [] a with
  | none => exact ⟨Nat.zero_le _, fun c hc => by cases hc⟩
  | some x =>
    obtain ⟨u, h1, h2⟩ := par_eq (p := x.1) (q := x.2) e
    simp only
    rw [h2]
    exact ⟨by simp; omega, fun c hc => by simp; exact .inr (.inr hc)⟩
theorem rpar_sub {c : Nat} : ∀ {a p q : List Nat}, rpar c a = some (p, q) → Sub p a ∧ Sub q a
  | [], _, _, h => by cases h
  | x :: xs, p, q, h => by
    unfold rpar at h
    cases e : rpar c xs with
    | some y =>
      obtain ⟨u, v⟩ := y
      rw [e] at h
      cases h
      obtain ⟨h1, h2⟩ := rpar_sub e
      exact ⟨⟨by have := h1.1; simp; omega, fun d hd => by
        rcases List.mem_cons.mp hd with rfl | hd
        · exact List.mem_cons_self ..
        · exact List.mem_cons_of_mem _ (h1.2 d hd)⟩, ⟨by have := h2.1; simp; omega, fun d hd => List.mem_cons_of_mem _ (h2.2 d hd)⟩⟩
    | none =>
      rw [e] at h
      simp only at h
      split at h
      · cases h; exact ⟨⟨Nat.zero_le _, fun d hd => by cases hd⟩, ⟨by simp, fun d hd => List.mem_cons_of_mem _ hd⟩⟩
      · cases h
def rparP (c : Nat) (a : List Nat) : P3 := match rpar c a with
  | some (p, q) => ⟨p, [c], q⟩
  | none => ⟨[], [], a⟩
theorem rpart_s {a : List Nat} {c : Nat} (ha : tx a) : mRpart (.str a) (.str [c]) = some (.tup [.str (rparP c a).p, .str (rparP c a).m, .str (rparP c a).q]) := by
  show (if _ then _ else _) = _
  rw [if_pos ha.le]
  unfold rparP
  cases rpar c a with
  | none => rfl
  | some x => rfl
theorem rparP_p (c : Nat) (a : List Nat) : Sub (rparP c a).p a := by
  unfold rparP
  cases e : rpar c a with
  | none => exact ⟨Nat.zero_le _, fun d hd => by cases hd⟩
  | some x => exact (rpar_sub (p := x.1) (q := x.2) e).1
theorem rparP_q (c : Nat) (a : List Nat) : Sub (rparP c a).q a := by
  unfold rparP
  cases e : rpar c a with
  | none => exact Sub.refl a
  | some x => exact (rpar_sub (p := x.1) (q := x.2) e).2
end K75
end
section
set_option Elab.async false
set_option linter.all false
set_option autoImplicit false
set_option maxRecDepth 100000
set_option maxHeartbeats 0
namespace K75
open PySem PySem.Spec PyProof.Rows L2 Tg
local macro_rules | `(tactic| walk_at "es") => `(tactic| try simp only [st0, st1, st2, st3, st4, evS, ev, evO, dSeqS, dSkip, dExpr, dRet, dRetN, dIfS, dAsg, dC, dNil, dCons, consV, dTup, dLst, dB1, dB2, dChain, dIte, dAnd, dOr, dNot, dCall,
  dCutL, dCutH, dCutB, dM1, dIx, dSeq, dSrc, dLc, dFor, dPar2, oCons, oNil, wipeE, opF, cmF, u1F, u2F, m1F, isiN, rngF, Tgt.put, List.set, List.headD_cons, List.tail_cons,
  bnd_ok, bnd_bad, bnd_exc, okv_s, onBl_b, onI_i, onS_s, onT_s, tst_b, tstS_b, okE_s, outF_rt, outF_nx, outF_exc, seqK_nx, seqK_rt, okL_s, asL_l, okN0, okN1, okN2, okN3, okN4, okN5, v0, v1, v2, v3, v4, v5, v6, v7, v8, v9, v10, v11,
  isi1, isi2, isi3, isi4, isi5, iss1, iss2, iss3, iss4, iss5, ist1, ist2, ist3, ist4, ist5, isn1, isn2, isn3, isb5, len_t, len_l, lt_i, le_i, gt_i, ge_i, eq_i, ne_i, eq_s, ne_s, lt_s, add_i, sub_i, neg_i, is_non, is_t, is_s, is_i, isn_non, isn_t, isn_s, isn_i,
  at_t0, at_t1, at_t2, at_t3, at_t4, ixt, ixl, ixs, sq_t, sq_l, sq_s, tup_l, in_c, nin_c, and_bl, or_bl, ite_ok, ret_ok, guard_ok, ib_and, ib_or, ib_f, nc0, nc1, nc2, nc3, nc4, nc5, nc6, Int.reduceLE, Int.reduceLT, Int.reduceEq, decide_true, decide_false, Int.le_refl, Int.lt_irrefl,
  List.length_cons, List.length_nil, List.replicate, List.cons_append, List.nil_append, Nat.add_zero, Nat.zero_add, Nat.reduceAdd, Nat.reduceSub, Option.getD_some, Option.getD_none, Bool.not_false, Bool.not_true, Bool.true_or, Bool.false_or, Bool.true_and, Bool.false_and, Bool.and_true, Bool.or_true, Bool.or_false, if_true, if_false, Bool.false_eq_true, ite_true, ite_false])
def isDig (s : List Nat) : Bool := s.all fun c => decide (c ∈ digs)
def intF (s : List Nat) (d : Nat) : Option Nat := if ((decide (0 < (s.length : Int)) && decide ((s.length : Int) ≤ (d : Int))) && isDig s) = true then (if (decide (s.take 1 = [48]) && !decide (s = [48])) = true then none else some (NumText.digitsVal s)) else none
theorem dig_digit {s : List Nat} (h : isDig s = true) : s.all digit = true := by
  unfold isDig at h
  rw [List.all_eq_true] at h ⊢
  intro c hc
  have := h c hc
  have : c ∈ digs := by simpa using this
  have k : ∀ c ∈ digs, digit c = true := by decide
  exact k c this
theorem int_ok (s : List Nat) (h : isDig s = true) (hne : s ≠ []) (hl : s.length ≤ 640) : uInt (.str s) = some (.int ((NumText.digitsVal s : Nat) : Int)) := by
  show (if _ then _ else _) = _
  rw [if_pos]
  rw [dig_digit h]
  cases s with
  | nil => exact (hne rfl).elim
  | cons a r => simpa using hl
theorem at_s0 {c : Nat} {r : List Nat} (h : (c :: r).length ≤ sizeLine) : vIdx (.str (c :: r)) (.int 0) = some (.str [c]) := by
  show (if _ then _ else _) = _
  rw [if_pos h]
  rfl
theorem s_integer_from (n : Nat) (S : Store) {s : List Nat} (hs : tx s) (d : Nat) (hd : d ≤ 600) : C (n + 1) i_integer_from [.str s, .int (d : Int)] S = .ok (eN (intF s d)) S := by
  rw [cc rfl n _ S rfl]
  walk_at "es"
  rw [len_s hs.le]
  walk_at "es"
  rw [Tg.signs, lc_enc (fun c : Nat => PV.str [c]) (fun c : Nat => PV.bl (decide (c ∈ digs))) hs.le (fun c _ => ⟨_, rfl, by walk_at "es", by walk_at "es"; rw [g2]; walk_at "es"⟩)]
  walk_at "es"
  rw [all_map]
  walk_at "es"
  unfold intF
  change _ = Rs.ok (eN (if ((decide (0 < (s.length : Int)) && decide ((s.length : Int) ≤ (d : Int))) && s.all fun c => decide (c ∈ digs)) = true then _ else _)) S
  cases hb : (decide (0 < (s.length : Int)) && decide ((s.length : Int) ≤ (d : Int))) with
  | false => rfl
  | true =>
    cases ha : s.all fun c => decide (c ∈ digs) with
    | false => rfl
    | true =>
      walk_at "es"
      cases s with
      | nil => cases hb
      | cons c r =>
        rw [at_s0 hs.le]
        walk_at "es"
        rw [int_ok _ ha (by simp) (by simp at hb ⊢; omega)]
        walk_at "es"
        rw [show List.take 1 (c :: r) = [c] from rfl]
        cases (decide ([c] = [48]) && !decide (c :: r = [48])) <;> rfl
theorem fold_lt : ∀ (s : List Nat), (∀ c ∈ s, c ≤ 57) → ∀ acc k : Nat, acc < 10 ^ k → s.foldl (fun acc c => acc * 10 + (c - 48)) acc < 10 ^ (k + s.length)
  | [], _, acc, k, h => h
  | c :: r, hc, acc, k, h => by
    rw [List.foldl_cons, List.length_cons, show k + (r.length + 1) = (k + 1) + r.length by omega]
    refine fold_lt r (fun d hd => hc d (List.mem_cons_of_mem _ hd)) _ _ ?_
    have := hc c (List.mem_cons_self ..)
    rw [Nat.pow_succ]
    omega
theorem intF_lt {s : List Nat} {d k : Nat} (h : intF s d = some k) : k < 10 ^ d := by
  unfold intF at h
  split at h
  · rename_i hb
    split at h
    · cases h
    · cases h
      rw [Bool.and_eq_true, Bool.and_eq_true] at hb
      obtain ⟨⟨_, h2⟩, h3⟩ := hb
      have h2 : s.length ≤ d := by simpa using h2
      unfold isDig at h3
      rw [List.all_eq_true] at h3
      have := fold_lt s (fun c hc => by
        have : c ∈ digs := by simpa using h3 c hc
        have k : ∀ c ∈ digs, c ≤ 57 := by decide
        exact k c this) 0 0 (by decide)
      rw [Nat.zero_add] at this
      exact Nat.lt_of_lt_of_le this (Nat.pow_le_pow_right (by decide) h2)
  · cases h
def numF (s : List Nat) : Option Nat := intF s 30
theorem s_number_from (n : Nat) (S : Store) {s : List Nat} (hs : tx s) : C (n + 2) i_number_from [.str s] S = .ok (eN (numF s)) S := by
  rw [cc rfl (n + 1) _ S rfl]
  walk_at "es"
  rw [g8]
  walk_at "es"
  rw [show (PV.int 30) = .int ((30 : Nat) : Int) from rfl, s_integer_from n S hs 30 (by decide)]
  walk_at "es"
  rfl
/-! ### all or none -/
def allO {α : Type} : List (Option α) → Option (List α)
  | [] => some []
  | none :: _ => none
  | some x :: r => match allO r with
    | some l => some (x :: l)
    | none => none
theorem allO_none {α : Type} : ∀ {l : List (Option α)}, none ∈ l → allO l = none
  | none :: _, _ => rfl
  | some x :: r, h => by
    have : none ∈ r := by simpa using h
    unfold allO
    rw [allO_none this]
theorem allO_some {α : Type} : ∀ {l : List (Option α)}, none ∉ l → ∃ m, allO l = some m ∧ l = m.map some
  | [], _ => ⟨[], rfl, rfl⟩
  | none :: _, h => by simp at h
  | some x :: r, h => by
    obtain ⟨m, h1, h2⟩ := allO_some (l := r) (by simpa using h)
    exact ⟨x :: m, by unfold allO; rw [h1], by rw [h2]; rfl⟩
theorem allO_mem {α : Type} {l : List (Option α)} {m : List α} (h : allO l = some m) : l = m.map some := by
  by_cases q : none ∈ l
  · rw [allO_none q] at h; cases h
  · obtain ⟨m', h1, h2⟩ := allO_some q
    rw [h1] at h; cases h; exact h2
theorem any_non {α : Type} (e : α → PV) (hn : ∀ x, isNonP (e x) = false) : ∀ l : List (Option α), (l.map (eO e)).any isNonP = true ↔ none ∈ l
  | [] => by simp
  | none :: r => by simp [eO, isNonP]
  | some x :: r => by
    rw [List.map_cons, List.any_cons, show eO e (some x) = e x from rfl, hn x, Bool.false_or, any_non e hn r]
    simp
theorem s_all_or_none {α : Type} (n : Nat) (S : Store) {k : Nat} (e : α → PV) {l : List (Option α)} (hn : ∀ x, isNonP (e x) = false) (hg : ∀ x, some x ∈ l → Gd k (e x)) (hk : k ≤ 63) : C (n + 1) i_all_or_none [.lst (l.map (eO e))] S = .ok (eO (eL e) (allO l)) S := by
  rw [cc rfl n _ S rfl]
  walk_at "es"
  unfold vIn
  rw [in_non (k := k) (by
    intro x hx
    obtain ⟨o, ho, rfl⟩ := List.mem_map.mp hx
    cases o with
    | none => exact gd_non
    | some x => exact hg x ho) hk]
  simp only [Option.map_some]
  walk_at "es"
  by_cases q : none ∈ l
  · rw [(any_non e hn l).mpr q, allO_none q]
    rfl
  · have h0 : (l.map (eO e)).any isNonP = false := by
      cases h : (l.map (eO e)).any isNonP with
      | false => rfl
      | true => exact (q ((any_non e hn l).mp h)).elim
    obtain ⟨m, h1, h2⟩ := allO_some q
    rw [h0, h1, h2, List.map_map]
    rfl
/-! ### text_from, items -/
def textF (s : List Nat) : List Nat := if s = [46] then [] else s
theorem s_text_from (n : Nat) (S : Store) (s : List Nat) : C (n + 1) i_text_from [.str s] S = .ok (.str (textF s)) S := by
  rw [cc rfl n _ S rfl]
  walk_at "es"
  unfold textF
  by_cases h : s = [46] <;> simp [h]
theorem textF_tx {s : List Nat} (h : tx s) : tx (textF s) := by
  unfold textF
  split
  · exact ⟨Nat.zero_le _, fun c hc => by cases hc⟩
  · exact h
theorem s_word_from (n : Nat) (S : Store) (k : Int) {s : List Nat} (hs : tx s) : C (n + 2) i_word_from [.int k, .str s] S = .ok (if (isW k (textF s) && !decide (s = [])) = true then .str (textF s) else .non) S := by
  rw [cc rfl (n + 1) _ S rfl]
  walk_at "es"
  rw [s_text_from]
  walk_at "es"
  rw [s_is_word n S k (textF_tx hs).le]
  walk_at "es"
theorem g5 : dG G0 5 = dC (.kdc [(.s [63], .str [109, 97, 121, 98, 101]), (.s [42], .str [97, 110, 121])]) := rfl
def itemF (s : List Nat) : Item := if s = [35] then .edge else if s.drop (s.length - 1) = [63] then .may s.dropLast else if s.drop (s.length - 1) = [42] then .any s.dropLast else .one s
theorem cut_tail (s : List Nat) : cutP s (some (-1)) none = s.drop (s.length - 1) := by
  unfold cutP sPl
  simp only [if_pos (show (-1 : Int) < 0 by decide)]
  rw [List.take_of_length_le]
  · congr 1; omega
  · rw [List.length_drop]; omega
theorem s_item_from (n : Nat) (S : Store) {s : List Nat} (hs : tx s) : C (n + 1) i_item_from [.str s] S = .ok (eI (itemF s)) S := by
  rw [cc rfl n _ S rfl]
  walk_at "es"
  unfold itemF
  by_cases h0 : s = [35]
  · rw [if_pos h0, decide_eq_true h0]; walk_at "es"; rfl
  · rw [if_neg h0, decide_eq_false h0]
    walk_at "es"
    rw [g5]
    unfold dMD
    walk_at "es"
    rw [cutS hs.le, cut_tail]
    walk_at "es"
    rw [show ∀ (d : List (KP × PV)) (k : Rs PV), onD (.kdc d) k = k from fun _ _ => rfl]
    rw [show mGet (.kdc [(.s [63], .str [109, 97, 121, 98, 101]), (.s [42], .str [97, 110, 121])]) (.str (s.drop (s.length - 1))) = some (if s.drop (s.length - 1) = [63] then .str [109, 97, 121, 98, 101] else if s.drop (s.length - 1) = [42] then .str [97, 110, 121] else .non) from by
      show some ((dLook (.s (s.drop (s.length - 1))) _).getD .non) = _
      unfold dLook
      by_cases h : s.drop (s.length - 1) = [63]
      · rw [h]; rfl
      · have h' : ¬ KP.s [63] = KP.s (s.drop (s.length - 1)) := fun e => h (by injection e with e; exact e.symm)
        rw [if_neg h', if_neg h]
        unfold dLook
        by_cases q : s.drop (s.length - 1) = [42]
        · rw [q]; rfl
        · have q' : ¬ KP.s [42] = KP.s (s.drop (s.length - 1)) := fun e => q (by injection e with e; exact e.symm)
          rw [if_neg q', if_neg q]
          rfl]
    walk_at "es"
    by_cases h : s.drop (s.length - 1) = [63]
    · rw [if_pos h, if_pos h]
      walk_at "es"
      rw [cutS hs.le, cut_last]
      walk_at "es"
      rfl
    · rw [if_neg h, if_neg h]
      by_cases q : s.drop (s.length - 1) = [42]
      · rw [if_pos q, if_pos q]
        walk_at "es"
        rw [cutS hs.le, cut_last]
        walk_at "es"
        rfl
      · rw [if_neg q, if_neg q]
        walk_at "es"
        rfl
end K75
end
section
set_option Elab.async false
set_option linter.all false
set_option autoImplicit false
set_option maxRecDepth 100000
set_option maxHeartbeats 0
namespace K75
open PySem PySem.Spec PyProof.Rows L2 Tg
local macro_rules | `(tactic| walk_at "es") => `(tactic| try simp only [st0, st1, st2, st3, st4, evS, ev, evO, dSeqS, dSkip, dExpr, dRet, dRetN, dIfS, dAsg, dC, dNil, dCons, consV, dTup, dLst, dB1, dB2, dChain, dIte, dAnd, dOr, dNot, dCall,
  dCutL, dCutH, dCutB, dM1, dIx, dSeq, dSrc, dLc, dFor, dPar2, oCons, oNil, wipeE, opF, cmF, u1F, u2F, m1F, isiN, rngF, Tgt.put, List.set, List.headD_cons, List.tail_cons,
  bnd_ok, bnd_bad, bnd_exc, okv_s, onBl_b, onI_i, onS_s, onT_s, tst_b, tstS_b, okE_s, outF_rt, outF_nx, outF_exc, seqK_nx, seqK_rt, okL_s, asL_l, okN0, okN1, okN2, okN3, okN4, okN5, v0, v1, v2, v3, v4, v5, v6, v7, v8, v9, v10, v11,
  isi1, isi2, isi3, isi4, isi5, iss1, iss2, iss3, iss4, iss5, ist1, ist2, ist3, ist4, ist5, isn1, isn2, isn3, isb5, len_t, len_l, lt_i, le_i, gt_i, ge_i, eq_i, ne_i, eq_s, ne_s, lt_s, add_i, sub_i, neg_i, is_non, is_t, is_s, is_i, isn_non, isn_t, isn_s, isn_i,
  at_t0, at_t1, at_t2, at_t3, at_t4, ixt, ixl, ixs, sq_t, sq_l, sq_s, tup_l, in_c, nin_c, and_bl, or_bl, ite_ok, ret_ok, guard_ok, ib_and, ib_or, ib_f, nc0, nc1, nc2, nc3, nc4, nc5, nc6, Int.reduceLE, Int.reduceLT, Int.reduceEq, decide_true, decide_false, Int.le_refl, Int.lt_irrefl,
  List.length_cons, List.length_nil, List.replicate, List.cons_append, List.nil_append, Nat.add_zero, Nat.zero_add, Nat.reduceAdd, Nat.reduceSub, Option.getD_some, Option.getD_none, Bool.not_false, Bool.not_true, Bool.true_or, Bool.false_or, Bool.true_and, Bool.false_and, Bool.and_true, Bool.or_true, Bool.or_false, if_true, if_false, Bool.false_eq_true, ite_true, ite_false])
theorem itemF_ok {s : List Nat} (hs : tx s) : (itemF s).ok := by
  have h : tx s.dropLast := hs.sub ⟨by rw [List.length_dropLast]; exact Nat.sub_le _ _, fun c hc => List.dropLast_subset _ hc⟩
  unfold itemF
  split
  · trivial
  · split
    · exact h.g
    · split
      · exact h.g
      · exact hs.g
def rowF (s : List Nat) : List (List Nat) := if s = [46] then [] else splt [32] s
def patF (s : List Nat) : List (List Item) := (splt [32, 124, 32] s).map fun r => (rowF r).map itemF
theorem rowF_tx {s w : List Nat} (hs : tx s) (h : w ∈ rowF s) : tx w := by
  unfold rowF at h
  split at h
  · cases h
  · exact hs.sub (splt_sub h)
theorem rowF_len {s : List Nat} (hs : tx s) : (rowF s).length ≤ 501 := by
  unfold rowF
  split
  · exact Nat.zero_le _
  · exact Nat.le_trans (splt_len _ _) (by have := hs.1; omega)
theorem patF_ok {s : List Nat} (hs : tx s) : patOk (patF s) := by
  unfold patF
  refine ⟨by rw [List.length_map]; exact Nat.le_trans (splt_len _ _) (by have := hs.1; omega), fun r hr => ?_⟩
  obtain ⟨w, hw, rfl⟩ := List.mem_map.mp hr
  have ht := hs.sub (splt_sub hw)
  refine ⟨by rw [List.length_map]; exact Nat.le_trans (rowF_len ht) (by decide), fun i hi => ?_⟩
  obtain ⟨x, hx, rfl⟩ := List.mem_map.mp hi
  exact itemF_ok (rowF_tx ht hx)
theorem s_pattern_in (n : Nat) (S : Store) {s : List Nat} (hs : tx s) : C (n + 2) i_pattern_in [.str s] S = .ok (ePat (patF s)) S := by
  rw [cc rfl (n + 1) _ S rfl]
  walk_at "es"
  rw [split_s rfl hs]
  walk_at "es"
  have hl : (splt [32, 124, 32] s).length ≤ sizeLine := s_le (Nat.le_trans (splt_len _ _) (by have := hs.1; omega : _ ≤ 501))
  rw [lc_enc PV.str (fun r => PV.lst ((rowF r).map .str)) hl (fun r hr => ⟨_, rfl, by walk_at "es", by
    walk_at "es"
    have ht := hs.sub (splt_sub hr)
    unfold rowF
    by_cases h : r = [46]
    · rw [decide_eq_true h, if_pos h]
      walk_at "es"
      rfl
    · rw [decide_eq_false h, if_neg h]
      walk_at "es"
      rw [split_s rfl ht]
      walk_at "es"⟩)]
  walk_at "es"
  rw [lc_enc (fun r => PV.lst ((rowF r).map .str)) (fun r => PV.tup (((rowF r).map itemF).map eI)) hl (fun r hr => ⟨_, rfl, by walk_at "es", by
    walk_at "es"
    have ht := hs.sub (splt_sub hr)
    rw [lc_enc PV.str (fun w => eI (itemF w)) (s_le (k := 501) (rowF_len ht)) (fun w hw => ⟨_, rfl, by walk_at "es", by walk_at "es"; rw [s_item_from n S (rowF_tx ht hw)]⟩)]
    walk_at "es"
    rw [List.map_map]
    rfl⟩)]
  walk_at "es"
  unfold ePat patF eRow
  rw [List.map_map]
  rfl
def chF (s : List Nat) : List Nat × List Nat := ((parP [62] s).p, textF (parP [62] s).q)
theorem s_change_from (n : Nat) (S : Store) {s : List Nat} (hs : tx s) : C (n + 2) i_change_from [.str s] S = .ok (eCh (chF s)) S := by
  rw [cc rfl (n + 1) _ S rfl]
  walk_at "es"
  rw [part_s rfl hs]
  walk_at "es"
  rw [s_text_from]
  walk_at "es"
  rfl
theorem chF_ok {s : List Nat} (hs : tx s) : chOk (chF s) := ⟨(hs.sub (parP_p _ _)).g, (textF_tx (hs.sub (parP_q _ _))).g⟩
def ruleF (s : List Nat) : Option Rule := match splt [32, 47, 32] s with
  | [a, b, c] => some ⟨(splt [32] a).map chF, patF (parP [32, 95, 32] b).p, patF (parP [32, 95, 32] b).q, (rparP 32 c).p, (rparP 32 c).q⟩
  | _ => none
theorem ruleF_ok {s : List Nat} (hs : tx s) {r : Rule} (h : ruleF s = some r) : r.ok := by
  unfold ruleF at h
  split at h
  · rename_i a b c e
    cases h
    have ha : tx a := hs.sub (splt_sub (z := [32, 47, 32]) (by rw [e]; simp))
    have hb : tx b := hs.sub (splt_sub (z := [32, 47, 32]) (by rw [e]; simp))
    have hc : tx c := hs.sub (splt_sub (z := [32, 47, 32]) (by rw [e]; simp))
    refine ⟨⟨by rw [List.length_map]; exact Nat.le_trans (splt_len _ _) (by have := ha.1; omega), fun x hx => ?_⟩, patF_ok (hb.sub (parP_p _ _)), patF_ok (hb.sub (parP_q _ _)), (hc.sub (rparP_p _ _)).g, (hc.sub (rparP_q _ _)).g⟩
    obtain ⟨w, hw, rfl⟩ := List.mem_map.mp hx
    exact chF_ok (ha.sub (splt_sub hw))
  · cases h
theorem at_l0 {a : PV} {l : List PV} : vIdx (.lst (a :: l)) (.int 0) = some a := rfl
theorem at_l1 {a b : PV} {l : List PV} : vIdx (.lst (a :: b :: l)) (.int 1) = some b := rfl
theorem at_l2 {a b c : PV} {l : List PV} : vIdx (.lst (a :: b :: c :: l)) (.int 2) = some c := rfl
theorem at_l3 {a b c d : PV} {l : List PV} : vIdx (.lst (a :: b :: c :: d :: l)) (.int 3) = some d := rfl
theorem at_l4 {a b c d e : PV} {l : List PV} : vIdx (.lst (a :: b :: c :: d :: e :: l)) (.int 4) = some e := rfl
theorem len3 {α : Type} : ∀ {l : List α}, l.length = 3 → ∃ a b c, l = [a, b, c]
  | [a, b, c], _ => ⟨a, b, c, rfl⟩
theorem len4 {α : Type} : ∀ {l : List α}, l.length = 4 → ∃ a b c d, l = [a, b, c, d]
  | [a, b, c, d], _ => ⟨a, b, c, d, rfl⟩
theorem len5 {α : Type} : ∀ {l : List α}, l.length = 5 → ∃ a b c d e, l = [a, b, c, d, e]
  | [a, b, c, d, e], _ => ⟨a, b, c, d, e, rfl⟩
theorem ruleF_no {s : List Nat} (h : ¬ (splt [32, 47, 32] s).length = 3) : ruleF s = none := by
  unfold ruleF
  split
  · rename_i e; rw [e] at h; exact (h rfl).elim
  · rfl
theorem ruleF_3 {s a b c : List Nat} (e : splt [32, 47, 32] s = [a, b, c]) : ruleF s = some ⟨(splt [32] a).map chF, patF (parP [32, 95, 32] b).p, patF (parP [32, 95, 32] b).q, (rparP 32 c).p, (rparP 32 c).q⟩ := by
  unfold ruleF; rw [e]
theorem s_rule_in (n : Nat) (S : Store) {s : List Nat} (hs : tx s) : C (n + 3) i_rule_in [.str s] S = .ok (eO eRule (ruleF s)) S := by
  rw [cc rfl (n + 2) _ S rfl]
  walk_at "es"
  rw [split_s rfl hs]
  walk_at "es"
  rw [List.length_map]
  by_cases h3 : (splt [32, 47, 32] s).length = 3
  · obtain ⟨a, b, c, e⟩ := len3 h3
    rw [ruleF_3 e]
    have ha : tx a := hs.sub (splt_sub (z := [32, 47, 32]) (by rw [e]; simp))
    have hb : tx b := hs.sub (splt_sub (z := [32, 47, 32]) (by rw [e]; simp))
    have hc : tx c := hs.sub (splt_sub (z := [32, 47, 32]) (by rw [e]; simp))
    rw [e]
    simp only [List.map_cons, List.map_nil]
    walk_at "es"
    rw [at_l0]
    walk_at "es"
    rw [split_s rfl ha]
    walk_at "es"
    rw [lc_enc PV.str (fun w => eCh (chF w)) (s_le (Nat.le_trans (splt_len _ _) (by have := ha.1; omega : _ ≤ 501))) (fun w hw => ⟨_, rfl, by walk_at "es", by walk_at "es"; rw [s_change_from n S (ha.sub (splt_sub hw))]⟩)]
    walk_at "es"
    rw [at_l1]
    walk_at "es"
    rw [part_s rfl hb]
    walk_at "es"
    rw [at_l2]
    walk_at "es"
    rw [rpart_s hc]
    walk_at "es"
    rw [s_pattern_in n S (hb.sub (parP_p _ _))]
    walk_at "es"
    rw [s_pattern_in n S (hb.sub (parP_q _ _))]
    walk_at "es"
    show _ = Rs.ok (eRule _) S
    unfold eRule
    rw [List.map_map]
    rfl
  · have : ¬ ((splt [32, 47, 32] s).length : Int) = 3 := fun q => h3 (by omega)
    rw [decide_eq_false this, ruleF_no h3]
    walk_at "es"
    rfl
end K75
end
section
set_option Elab.async false
set_option linter.all false
set_option autoImplicit false
set_option maxRecDepth 100000
set_option maxHeartbeats 0
namespace K75
open PySem PySem.Spec PyProof.Rows L2 Tg
local macro_rules | `(tactic| walk_at "es") => `(tactic| try simp only [st0, st1, st2, st3, st4, evS, ev, evO, dSeqS, dSkip, dExpr, dRet, dRetN, dIfS, dAsg, dC, dNil, dCons, consV, dTup, dLst, dB1, dB2, dChain, dIte, dAnd, dOr, dNot, dCall,
  dCutL, dCutH, dCutB, dM1, dIx, dSeq, dSrc, dLc, dFor, dPar2, oCons, oNil, wipeE, opF, cmF, u1F, u2F, m1F, isiN, rngF, Tgt.put, List.set, List.headD_cons, List.tail_cons,
  bnd_ok, bnd_bad, bnd_exc, okv_s, onBl_b, onI_i, onS_s, onT_s, tst_b, tstS_b, okE_s, outF_rt, outF_nx, outF_exc, seqK_nx, seqK_rt, okL_s, asL_l, okN0, okN1, okN2, okN3, okN4, okN5, v0, v1, v2, v3, v4, v5, v6, v7, v8, v9, v10, v11,
  isi1, isi2, isi3, isi4, isi5, iss1, iss2, iss3, iss4, iss5, ist1, ist2, ist3, ist4, ist5, isn1, isn2, isn3, isb5, len_t, len_l, lt_i, le_i, gt_i, ge_i, eq_i, ne_i, eq_s, ne_s, lt_s, add_i, sub_i, neg_i, is_non, is_t, is_s, is_i, isn_non, isn_t, isn_s, isn_i,
  at_t0, at_t1, at_t2, at_t3, at_t4, ixt, ixl, ixs, sq_t, sq_l, sq_s, tup_l, in_c, nin_c, and_bl, or_bl, ite_ok, ret_ok, guard_ok, ib_and, ib_or, ib_f, nc0, nc1, nc2, nc3, nc4, nc5, nc6, Int.reduceLE, Int.reduceLT, Int.reduceEq, decide_true, decide_false, Int.le_refl, Int.lt_irrefl,
  List.length_cons, List.length_nil, List.replicate, List.cons_append, List.nil_append, Nat.add_zero, Nat.zero_add, Nat.reduceAdd, Nat.reduceSub, Option.getD_some, Option.getD_none, Bool.not_false, Bool.not_true, Bool.true_or, Bool.false_or, Bool.true_and, Bool.false_and, Bool.and_true, Bool.or_true, Bool.or_false, if_true, if_false, Bool.false_eq_true, ite_true, ite_false])
/-! ### joined texts -/
theorem join_len (a : List Nat) : ∀ ys : List (List Nat), (TL.joinL a ys).length ≤ (ys.map (·.length)).sum + ys.length * a.length
  | [] => by simp [TL.joinL]
  | [p] => by simp [TL.joinL]
  | p :: q :: r => by
    have ih := join_len a (q :: r)
    unfold TL.joinL
    simp only [List.length_append, List.map_cons, List.sum_cons, List.length_cons] at ih ⊢
    rw [show (r.length + 1 + 1) * a.length = (r.length + 1) * a.length + a.length from Nat.succ_mul _ _]
    omega
theorem sum_le {B : Nat} : ∀ {ys : List (List Nat)}, (∀ y ∈ ys, y.length ≤ B) → (ys.map (·.length)).sum ≤ ys.length * B
  | [], _ => by simp
  | y :: r, h => by
    have := sum_le fun z hz => h z (List.mem_cons_of_mem _ hz)
    have := h y (List.mem_cons_self ..)
    rw [List.map_cons, List.sum_cons, List.length_cons, Nat.succ_mul]
    omega
theorem jb_le {B K : Nat} {a : List Nat} {ys : List (List Nat)} (h : ∀ y ∈ ys, y.length ≤ B) (hn : ys.length ≤ K) : (ys.map (·.length)).sum + ys.length * a.length ≤ K * (B + a.length) := by
  have h1 := sum_le h
  have h2 : ys.length * (B + a.length) ≤ K * (B + a.length) := Nat.mul_le_mul_right _ hn
  rw [Nat.mul_add] at h2
  omega
theorem join_s {B K : Nat} {a : List Nat} {ys : List (List Nat)} (h : ∀ y ∈ ys, y.length ≤ B) (hn : ys.length ≤ K) (hb : K * (B + a.length) ≤ 16777216) : mJoin (.str a) (.lst (ys.map .str)) = some (.str (TL.joinL a ys)) := by
  unfold mJoin
  simp only [show asStrs (ys.map PV.str) = some (ys.map id) from asStrs_map id ys, List.map_id]
  rw [if_pos (Nat.le_trans (jb_le h hn) hb)]
theorem join_le {B K : Nat} {a : List Nat} {ys : List (List Nat)} (h : ∀ y ∈ ys, y.length ≤ B) (hn : ys.length ≤ K) : (TL.joinL a ys).length ≤ K * (B + a.length) := Nat.le_trans (join_len a ys) (jb_le h hn)
theorem join_t {B K : Nat} {a : List Nat} {ys : List (List Nat)} (h : ∀ y ∈ ys, y.length ≤ B) (hn : ys.length ≤ K) (hb : K * (B + a.length) ≤ 16777216) : mJoin (.str a) (.tup (ys.map .str)) = some (.str (TL.joinL a ys)) := by
  unfold mJoin
  simp only [show asStrs (ys.map PV.str) = some (ys.map id) from asStrs_map id ys, List.map_id]
  rw [if_pos (Nat.le_trans (jb_le h hn) hb)]
theorem js_ok {r : Den} {ρ : Tg.Env} {S : Store} {t : List Nat} (h : r ρ S = .ok (.str t) S) (hl : t.length ≤ sizeLine) : dJs r ρ S = .ok (.str t) S := by
  unfold dJs
  rw [h]
  simp only
  rw [if_pos hl]
theorem fm_s {s : List Nat} {S : Store} (h : s.length ≤ sizeLine) : fmtK (.str s) S = .ok (.str s) S := by
  unfold fmtK fText
  simp only
  rw [if_pos h]
theorem log_num {k : Nat} (h : k < 10 ^ 30) : k.log2 < 1920 := by
  by_cases hk : k = 0
  · subst hk; decide
  · rw [Nat.log2_lt hk]
    exact Nat.lt_of_lt_of_le h (Nat.le_trans (show 10 ^ 30 ≤ 2 ^ 100 by decide) (Nat.pow_le_pow_right (by decide) (by decide)))
theorem fm_n {k : Nat} {S : Store} (h : k < 10 ^ 30) : fmtK (.int (k : Int)) S = .ok (.str (TL.numL k)) S := by
  unfold fmtK fText
  show (match (if k.log2 < 1920 then some (TL.numL k) else none) with
    | some s => Rs.ok (PV.str s) S
    | none => .bad) = _
  rw [if_pos (log_num h)]
theorem str_n {k : Nat} (h : k < 10 ^ 30) : uStr (.int (k : Int)) = some (.str (TL.numL k)) := by
  show (if k.log2 < 1920 then _ else _) = _
  rw [if_pos (log_num h)]
theorem num_len {k : Nat} (h : k < 10 ^ 30) : (TL.numL k).length ≤ 30 := TL.numL_len (by decide) h
theorem add_s {a b : List Nat} (h : a.length + b.length ≤ 1000000) : vAdd (.str a) (.str b) = some (.str (a ++ b)) := by
  show isz _ _ = _
  unfold isz
  rw [if_pos]
  have : sizeLine = 16777216 := by decide
  omega
theorem add_l {a b : List PV} (h : a.length + b.length ≤ 1000000) : vAdd (.lst a) (.lst b) = some (.lst (a ++ b)) := by
  show isz _ _ = _
  unfold isz
  rw [if_pos]
  have : sizeLine = 16777216 := by decide
  omega
/-! ### words, patterns -/
def wordT (s : List Nat) : List Nat := if s = [] then [46] else s
theorem s_show_word (n : Nat) (S : Store) (s : List Nat) : C (n + 1) i_show_word [.str s] S = .ok (.str (wordT s)) S := by
  rw [cc rfl n _ S rfl]
  walk_at "es"
  unfold wordT
  by_cases h : s = [] <;> simp [h]
def itT : Item → List Nat
  | .edge => [35]
  | .one w => w ++ []
  | .may w => w ++ [63]
  | .any w => w ++ [42]
def itS (i : Item) : Prop := (itT i).length ≤ 501
theorem g7 : dG G0 7 = dC (.kdc [(.s [111, 110, 101], .str []), (.s [109, 97, 121, 98, 101], .str [63]), (.s [97, 110, 121], .str [42])]) := rfl
theorem s_item_text (n : Nat) (S : Store) {i : Item} (h : itS i) : C (n + 1) i_item_text [eI i] S = .ok (.str (itT i)) S := by
  rw [cc rfl n _ S rfl]
  cases i with
  | edge => walk_at "es"; simp only [eI]; walk_at "es"; rfl
  | one w =>
    simp only [eI]
    walk_at "es"
    rw [g7]
    walk_at "es"
    rw [show decide (([111, 110, 101] : List Nat) = [101, 100, 103, 101]) = false from rfl]
    walk_at "es"
    rw [show ∀ S : Store, ixS (.kdc [(.s [111, 110, 101], .str []), (.s [109, 97, 121, 98, 101], .str [63]), (.s [97, 110, 121], .str [42])]) (.str [111, 110, 101]) S = some (.str []) from fun _ => rfl]
    walk_at "es"
    rw [add_s (by unfold itS itT at h; simp at h ⊢; omega)]
    walk_at "es"
    rfl
  | may w =>
    simp only [eI]
    walk_at "es"
    rw [g7]
    walk_at "es"
    rw [show decide (([109, 97, 121, 98, 101] : List Nat) = [101, 100, 103, 101]) = false from rfl]
    walk_at "es"
    rw [show ∀ S : Store, ixS (.kdc [(.s [111, 110, 101], .str []), (.s [109, 97, 121, 98, 101], .str [63]), (.s [97, 110, 121], .str [42])]) (.str [109, 97, 121, 98, 101]) S = some (.str [63]) from fun _ => rfl]
    walk_at "es"
    rw [add_s (by unfold itS itT at h; simp at h ⊢; omega)]
    walk_at "es"
    rfl
  | any w =>
    simp only [eI]
    walk_at "es"
    rw [g7]
    walk_at "es"
    rw [show decide (([97, 110, 121] : List Nat) = [101, 100, 103, 101]) = false from rfl]
    walk_at "es"
    rw [show ∀ S : Store, ixS (.kdc [(.s [111, 110, 101], .str []), (.s [109, 97, 121, 98, 101], .str [63]), (.s [97, 110, 121], .str [42])]) (.str [97, 110, 121]) S = some (.str [42]) from fun _ => rfl]
    walk_at "es"
    rw [add_s (by unfold itS itT at h; simp at h ⊢; omega)]
    walk_at "es"
    rfl
def rowT (r : List Item) : List Nat := if r.isEmpty = true then [46] else TL.joinL [32] (r.map itT)
def rowS (r : List Item) : Prop := rowOk r ∧ r.length ≤ 6 ∧ ∀ i ∈ r, itS i
theorem itm_le {r : List Item} (h : rowS r) : ∀ y ∈ r.map itT, y.length ≤ 501 := fun y hy => by
  obtain ⟨i, hi, rfl⟩ := List.mem_map.mp hy
  exact h.2.2 i hi
theorem s_row_text (n : Nat) (S : Store) {r : List Item} (h : rowS r) : C (n + 2) i_row_text [eRow r] S = .ok (.str (rowT r)) S := by
  rw [cc rfl (n + 1) _ S rfl]
  walk_at "es"
  unfold eRow
  rw [ne_t0 (gd_row h.1), isEmpty_map]
  walk_at "es"
  unfold rowT
  cases r.isEmpty with
  | true => walk_at "es"
  | false =>
    walk_at "es"
    rw [lc_enc eI (fun i => PV.str (itT i)) (s_le h.1.1) (fun i hi => ⟨_, rfl, by walk_at "es", by walk_at "es"; rw [s_item_text n S (h.2.2 i hi)]⟩)]
    walk_at "es"
    rw [show r.map (fun i => PV.str (itT i)) = (r.map itT).map .str from by rw [List.map_map]; rfl, join_s (B := 501) (K := 6) (itm_le h) (by rw [List.length_map]; exact h.2.1) (by decide)]
    walk_at "es"
theorem rowT_le {r : List Item} (h : rowS r) : (rowT r).length ≤ 3012 := by
  unfold rowT
  split
  · decide
  · exact join_le (B := 501) (K := 6) (a := [32]) (itm_le h) (by rw [List.length_map]; exact h.2.1)
def patT (p : List (List Item)) : List Nat := TL.joinL [32, 124, 32] (p.map rowT)
def patS (p : List (List Item)) : Prop := p.length ≤ 8 ∧ ∀ r ∈ p, rowS r
theorem rows_le {p : List (List Item)} (h : patS p) : ∀ y ∈ p.map rowT, y.length ≤ 3012 := fun y hy => by
  obtain ⟨i, hi, rfl⟩ := List.mem_map.mp hy
  exact rowT_le (h.2 i hi)
theorem s_show_pattern (n : Nat) (S : Store) {p : List (List Item)} (h : patS p) : C (n + 3) i_show_pattern [ePat p] S = .ok (.str (patT p)) S := by
  rw [cc rfl (n + 2) _ S rfl]
  walk_at "es"
  unfold ePat
  walk_at "es"
  rw [lc_enc eRow (fun i => PV.str (rowT i)) (s_le h.1) (fun i hi => ⟨_, rfl, by walk_at "es", by walk_at "es"; rw [s_row_text n S (h.2 i hi)]⟩)]
  walk_at "es"
  rw [show p.map (fun i => PV.str (rowT i)) = (p.map rowT).map .str from by rw [List.map_map]; rfl, join_s (B := 3012) (K := 8) (rows_le h) (by rw [List.length_map]; exact h.1) (by decide)]
  walk_at "es"
  rfl
theorem patT_le {p : List (List Item)} (h : patS p) : (patT p).length ≤ 24120 := join_le (B := 3012) (K := 8) (a := [32, 124, 32]) (rows_le h) (by rw [List.length_map]; exact h.1)
/-! ### a pattern is shown as it was -/
theorem itemF_s {s : List Nat} (hs : tx s) : itS (itemF s) := by
  unfold itS itemF
  have := hs.1
  have hd := List.length_dropLast (xs := s)
  split
  · decide
  · split
    · unfold itT; rw [List.length_append, hd]; simp; omega
    · split
      · unfold itT; rw [List.length_append, hd]; simp; omega
      · unfold itT; rw [List.length_append]; simp; omega
theorem patF_s {k : Int} {side : Bool} {s : List Nat} (hs : tx s) (h : patB k side (patF s) = true) : patS (patF s) := by
  unfold patB at h
  simp only [Bool.and_eq_true, List.all_eq_true, decide_eq_true_eq] at h
  refine ⟨by omega, fun r hr => ?_⟩
  have h2 := h.2 r hr
  unfold rowB at h2
  simp only [Bool.and_eq_true, decide_eq_true_eq] at h2
  refine ⟨(patF_ok hs).2 r hr, by omega, fun i hi => ?_⟩
  unfold patF at hr
  obtain ⟨w, hw, rfl⟩ := List.mem_map.mp hr
  obtain ⟨x, hx, rfl⟩ := List.mem_map.mp hi
  exact itemF_s (rowF_tx (hs.sub (splt_sub hw)) hx)
def patternF (k : Int) (s : List Nat) : Option (List (List Item)) := if (patB k true (patF s) || patB k false (patF s)) = true then (if patT (patF s) = s then some (patF s) else none) else none
theorem s_pattern_from (n : Nat) (S : Store) {k : Int} (hk : isN k = true) {s : List Nat} (hs : tx s) : C (n + 6) i_pattern_from [.int k, .str s] S = .ok (eO ePat (patternF k s)) S := by
  rw [cc rfl (n + 5) _ S rfl]
  walk_at "es"
  rw [s_pattern_in (n + 3) S hs]
  walk_at "es"
  rw [show ([108, 101, 102, 116] : List Nat) = sideS true from rfl, s_is_pattern n S hk true (patF_ok hs)]
  walk_at "es"
  rw [show ([114, 105, 103, 104, 116] : List Nat) = sideS false from rfl, s_is_pattern n S hk false (patF_ok hs)]
  walk_at "es"
  unfold patternF
  have key : (patB k true (patF s) || patB k false (patF s)) = true → C (n + 5) 56 [ePat (patF s)] S = .ok (.str (patT (patF s))) S := fun h => by
    refine s_show_pattern (n + 2) S ?_
    rw [Bool.or_eq_true] at h
    rcases h with h | h
    · exact patF_s hs h
    · exact patF_s hs h
  cases hb : (patB k true (patF s) || patB k false (patF s)) with
  | false =>
    rw [Bool.or_eq_false_iff] at hb
    rw [hb.1, hb.2]
    rfl
  | true =>
    have : (!patB k true (patF s) && !patB k false (patF s)) = false := by rw [← Bool.not_or, hb]; rfl
    rw [this]
    walk_at "es"
    rw [key hb]
    walk_at "es"
    by_cases e : patT (patF s) = s
    · rw [decide_eq_true e, if_pos e]; rfl
    · rw [decide_eq_false e, if_neg e]; rfl
end K75
end
section
set_option Elab.async false
set_option linter.all false
set_option autoImplicit false
set_option maxRecDepth 100000
set_option maxHeartbeats 0
namespace K75
open PySem PySem.Spec PyProof.Rows L2 Tg
local macro_rules | `(tactic| walk_at "es") => `(tactic| try simp only [st0, st1, st2, st3, st4, evS, ev, evO, dSeqS, dSkip, dExpr, dRet, dRetN, dIfS, dAsg, dC, dNil, dCons, consV, dTup, dLst, dB1, dB2, dChain, dIte, dAnd, dOr, dNot, dCall,
  dCutL, dCutH, dCutB, dM1, dIx, dSeq, dSrc, dLc, dFor, dPar2, oCons, oNil, wipeE, opF, cmF, u1F, u2F, m1F, isiN, rngF, Tgt.put, List.set, List.headD_cons, List.tail_cons,
  bnd_ok, bnd_bad, bnd_exc, okv_s, onBl_b, onI_i, onS_s, onT_s, tst_b, tstS_b, okE_s, outF_rt, outF_nx, outF_exc, seqK_nx, seqK_rt, okL_s, asL_l, okN0, okN1, okN2, okN3, okN4, okN5, v0, v1, v2, v3, v4, v5, v6, v7, v8, v9, v10, v11,
  isi1, isi2, isi3, isi4, isi5, iss1, iss2, iss3, iss4, iss5, ist1, ist2, ist3, ist4, ist5, isn1, isn2, isn3, isb5, len_t, len_l, lt_i, le_i, gt_i, ge_i, eq_i, ne_i, eq_s, ne_s, lt_s, add_i, sub_i, neg_i, is_non, is_t, is_s, is_i, isn_non, isn_t, isn_s, isn_i,
  at_t0, at_t1, at_t2, at_t3, at_t4, ixt, ixl, ixs, sq_t, sq_l, sq_s, tup_l, in_c, nin_c, and_bl, or_bl, ite_ok, ret_ok, guard_ok, ib_and, ib_or, ib_f, nc0, nc1, nc2, nc3, nc4, nc5, nc6, Int.reduceLE, Int.reduceLT, Int.reduceEq, decide_true, decide_false, Int.le_refl, Int.lt_irrefl,
  List.length_cons, List.length_nil, List.replicate, List.cons_append, List.nil_append, Nat.add_zero, Nat.zero_add, Nat.reduceAdd, Nat.reduceSub, Option.getD_some, Option.getD_none, Bool.not_false, Bool.not_true, Bool.true_or, Bool.false_or, Bool.true_and, Bool.false_and, Bool.and_true, Bool.or_true, Bool.or_false, if_true, if_false, Bool.false_eq_true, ite_true, ite_false])
/-! ### rules as texts -/
theorem wordT_le (s : List Nat) : (wordT s).length ≤ s.length + 1 := by
  unfold wordT; split
  · simp
  · omega
def chT (c : List Nat × List Nat) : List Nat := (c.1 ++ [62]) ++ wordT c.2
def chS (c : List Nat × List Nat) : Prop := c.1.length ≤ 501 ∧ c.2.length ≤ 501
theorem chT_le {c : List Nat × List Nat} (h : chS c) : (chT c).length ≤ 1004 := by
  unfold chT
  have := wordT_le c.2
  have := h.1
  have := h.2
  simp
  omega
def ruT (r : Rule) : List Nat := TL.joinL [32] (r.ch.map chT) ++ ([32, 47, 32] ++ (patT r.left ++ ([32, 95, 32] ++ (patT r.right ++ ([32, 47, 32] ++ (r.way ++ ([32] ++ (r.force ++ []))))))))
structure Rule.sm (r : Rule) : Prop where
  ch : r.ch.length ≤ 501 ∧ ∀ c ∈ r.ch, chS c
  left : patS r.left
  right : patS r.right
  way : r.way.length ≤ 500
  force : r.force.length ≤ 500
theorem chs_le {r : Rule} (h : r.sm) : ∀ y ∈ r.ch.map chT, y.length ≤ 1004 := fun y hy => by
  obtain ⟨i, hi, rfl⟩ := List.mem_map.mp hy
  exact chT_le (h.ch.2 i hi)
theorem wds_le {r : Rule} (h : r.sm) : (TL.joinL [32] (r.ch.map chT)).length ≤ 503505 := join_le (B := 1004) (K := 501) (a := [32]) (chs_le h) (by rw [List.length_map]; exact h.ch.1)
theorem ruT_le {r : Rule} (h : r.sm) : (ruT r).length ≤ 560000 := by
  have := wds_le h
  have := patT_le h.left
  have := patT_le h.right
  have := h.way
  have := h.force
  unfold ruT
  simp only [List.length_append, List.length_cons, List.length_nil]
  omega
theorem sl_of {k : Nat} (h : k ≤ 1000000) : k ≤ sizeLine := by
  have : sizeLine = 16777216 := by decide
  omega
theorem s_show_rule (n : Nat) (S : Store) {r : Rule} (h : r.sm) : C (n + 4) i_show_rule [eRule r] S = .ok (.str (ruT r)) S := by
  rw [cc rfl (n + 3) _ S rfl]
  walk_at "es"
  unfold eRule
  walk_at "es"
  rw [lc_enc eCh (fun c => PV.str (chT c)) (s_le h.ch.1) (fun c hc => ⟨_, rfl, by walk_at "es", by
    obtain ⟨h1, h2⟩ := h.ch.2 c hc
    walk_at "es"
    rw [add_s (by simp; omega)]
    walk_at "es"
    rw [s_show_word]
    walk_at "es"
    rw [add_s (by have := wordT_le c.2; simp; omega)]
    walk_at "es"
    rfl⟩)]
  walk_at "es"
  rw [show r.ch.map (fun c => PV.str (chT c)) = (r.ch.map chT).map .str from by rw [List.map_map]; rfl, join_s (B := 1004) (K := 501) (chs_le h) (by rw [List.length_map]; exact h.ch.1) (by decide)]
  walk_at "es"
  rw [js_ok (t := ruT r) (by
    unfold jCons jNil dFmt
    walk_at "es"
    rw [fm_s (sl_of (Nat.le_trans (wds_le h) (by decide)))]
    walk_at "es"
    rw [s_show_pattern n S h.left]
    walk_at "es"
    rw [fm_s (sl_of (Nat.le_trans (patT_le h.left) (by decide)))]
    walk_at "es"
    rw [s_show_pattern n S h.right]
    walk_at "es"
    rw [fm_s (sl_of (Nat.le_trans (patT_le h.right) (by decide)))]
    walk_at "es"
    rw [fm_s (sl_of (Nat.le_trans h.way (by decide)))]
    walk_at "es"
    rw [fm_s (sl_of (Nat.le_trans h.force (by decide)))]
    walk_at "es"
    rfl) (sl_of (Nat.le_trans (ruT_le h) (by decide)))]
  walk_at "es"
theorem chF_s {s : List Nat} (hs : tx s) : chS (chF s) := by
  have h1 := (hs.sub (parP_p [62] s)).1
  have h2 := (textF_tx (hs.sub (parP_q [62] s))).1
  exact ⟨by show (parP [62] s).p.length ≤ 501; omega, by show (textF (parP [62] s).q).length ≤ 501; omega⟩
theorem ruleF_s {k : Int} {s : List Nat} (hs : tx s) {r : Rule} (h : ruleF s = some r) (hb : ruleB k r = true) : r.sm := by
  by_cases h3 : (splt [32, 47, 32] s).length = 3
  case neg => rw [ruleF_no h3] at h; cases h
  obtain ⟨a, b, c, e⟩ := len3 h3
  rw [ruleF_3 e] at h
  have ha : tx a := hs.sub (splt_sub (z := [32, 47, 32]) (by rw [e]; simp))
  have hb' : tx b := hs.sub (splt_sub (z := [32, 47, 32]) (by rw [e]; simp))
  have hc : tx c := hs.sub (splt_sub (z := [32, 47, 32]) (by rw [e]; simp))
  cases h
  unfold ruleB at hb
  simp only [Bool.and_eq_true] at hb
  refine ⟨⟨by rw [List.length_map]; exact Nat.le_trans (splt_len _ _) (by have := ha.1; omega), fun x hx => ?_⟩, patF_s (hb'.sub (parP_p _ _)) hb.2.1.1, patF_s (hb'.sub (parP_q _ _)) hb.2.1.2, (hc.sub (rparP_p _ _)).1, (hc.sub (rparP_q _ _)).1⟩
  obtain ⟨w, hw, rfl⟩ := List.mem_map.mp hx
  exact chF_s (ha.sub (splt_sub hw))
def ruleR (k : Int) (s : List Nat) : Option Rule := match ruleF s with
  | none => none
  | some r => if ruleB k r = true then (if ruT r = s then some r else none) else none
theorem isn_t' {r : Rule} : vIsN (eRule r) .non = some (.bl true) := rfl
theorem is_r {r : Rule} : vIs (eRule r) .non = some (.bl false) := rfl
theorem s_rule_from (n : Nat) (S : Store) {k : Int} (hk : isN k = true) {s : List Nat} (hs : tx s) : C (n + 7) i_rule_from [.int k, .str s] S = .ok (eO eRule (ruleR k s)) S := by
  rw [cc rfl (n + 6) _ S rfl]
  walk_at "es"
  rw [s_rule_in (n + 3) S hs]
  unfold ruleR
  cases hf : ruleF s with
  | none => simp only [eO]; walk_at "es"
  | some r =>
    simp only [eO]
    walk_at "es"
    rw [isn_t']
    walk_at "es"
    rw [s_is_rule n S hk (ruleF_ok hs hf)]
    walk_at "es"
    cases hb : ruleB k r with
    | false => walk_at "es"
    | true =>
      walk_at "es"
      rw [s_show_rule (n + 2) S (ruleF_s hs hf hb)]
      walk_at "es"
      by_cases e : ruT r = s
      · rw [decide_eq_true e, if_pos e]; rfl
      · rw [decide_eq_false e, if_neg e]; rfl
/-! ### cascades -/
def casT (k : Nat) (l : List Rule) : List Nat := TL.joinL [32, 59, 32] (TL.numL k :: l.map ruT)
theorem s_show_cascade (n : Nat) (S : Store) {k : Nat} (hk : k < 10 ^ 30) {l : List Rule} (h : ∀ r ∈ l, r.sm) (hl : l.length ≤ 8) : C (n + 5) i_show_cascade [.tup [.int (k : Int), .tup (l.map eRule)]] S = .ok (.str (casT k l)) S := by
  rw [cc rfl (n + 4) _ S rfl]
  walk_at "es"
  rw [str_n hk]
  walk_at "es"
  rw [lc_enc eRule (fun c => PV.str (ruT c)) (s_le hl) (fun c hc => ⟨_, rfl, by walk_at "es", by walk_at "es"; rw [s_show_rule n S (h c hc)]⟩)]
  walk_at "es"
  rw [add_l (by simp; omega)]
  walk_at "es"
  rw [show PV.str (TL.numL k) :: l.map (fun c => PV.str (ruT c)) = (TL.numL k :: l.map ruT).map .str from by rw [List.map_cons, List.map_map]; rfl, join_s (B := 560000) (K := 9) (fun y hy => by
    rcases List.mem_cons.mp hy with rfl | hy
    · exact Nat.le_trans (num_len hk) (by decide)
    · obtain ⟨r, hr, rfl⟩ := List.mem_map.mp hy
      exact ruT_le (h r hr)) (by simp; omega) (by decide)]
  walk_at "es"
  rfl
/-! ### data of depth -/
theorem gd_rule {r : Rule} (h : r.ok) : Gd 4 (eRule r) := by
  have gp : ∀ {p : List (List Item)}, patOk p → Gd 3 (ePat p) := fun hp => gd_tup (k := 2) (fun x hx => by
    obtain ⟨w, hw, rfl⟩ := List.mem_map.mp hx
    exact gd_tup (k := 1) (gd_row (hp.2 w hw)))
  unfold eRule
  refine gd_tup (k := 3) fun x hx => ?_
  simp only [List.mem_cons, List.not_mem_nil, or_false] at hx
  rcases hx with rfl | rfl | rfl | rfl | rfl
  · exact (gd_tup (k := 1) (gd_chs h.ch)).mono (by decide)
  · exact gp h.left
  · exact gp h.right
  · exact gd_str h.way
  · exact gd_str h.force
def casR (s : List Nat) : Option (Nat × List Rule) := match splt [32, 59, 32] s with
  | [] => none
  | a :: rest => match numF a, allO (rest.map ruleF) with
    | some k, some l => if casB k l = true then (if casT k l = s then some (k, l) else none) else none
    | _, _ => none
def eCas (c : Nat × List Rule) : PV := .tup [.int (c.1 : Int), .tup (c.2.map eRule)]
theorem s_cascade_from (n : Nat) (S : Store) {s : List Nat} (hs : tx s) : C (n + 7) i_cascade_from [.str s] S = .ok (eO eCas (casR s)) S := by
  rw [cc rfl (n + 6) _ S rfl]
  walk_at "es"
  rw [split_s rfl hs]
  walk_at "es"
  unfold casR
  cases e : splt [32, 59, 32] s with
  | nil => exact (splt_ne _ _ e).elim
  | cons a rest =>
    have hm : ∀ w ∈ a :: rest, tx w := fun w hw => hs.sub (splt_sub (z := [32, 59, 32]) (by rw [e]; exact hw))
    have ha := hm a (List.mem_cons_self ..)
    have hlen : rest.length ≤ 501 := by have := splt_len [32, 59, 32] s; rw [e] at this; have := hs.1; simp at *; omega
    rw [List.map_cons, at_l0]
    walk_at "es"
    rw [s_number_from (n + 4) S ha]
    walk_at "es"
    rw [cutL, tailP, List.tail_cons]
    walk_at "es"
    rw [lc_enc PV.str (fun w => eO eRule (ruleF w)) (s_le hlen) (fun w hw => ⟨_, rfl, by walk_at "es", by walk_at "es"; rw [s_rule_in (n + 3) S (hm w (List.mem_cons_of_mem _ hw))]⟩)]
    walk_at "es"
    rw [show rest.map (fun w => eO eRule (ruleF w)) = (rest.map ruleF).map (eO eRule) from by rw [List.map_map]; rfl, s_all_or_none (n + 5) S (k := 4) eRule (fun _ => rfl) (fun x hx => by
      obtain ⟨w, hw, hf⟩ := List.mem_map.mp hx
      exact gd_rule (ruleF_ok (hm w (List.mem_cons_of_mem _ hw)) hf)) (by decide)]
    walk_at "es"
    cases hn : numF a with
    | none => simp only [eN, eO]; walk_at "es"
    | some k =>
      have hk : k < 10 ^ 30 := intF_lt hn
      cases hl : allO (rest.map ruleF) with
      | none => simp only [eN, eO]; walk_at "es"
      | some l =>
        have hmem := allO_mem hl
        have hr : ∀ r ∈ l, ∃ w ∈ rest, ruleF w = some r := fun r hr => by
          have : some r ∈ rest.map ruleF := by rw [hmem]; exact List.mem_map.mpr ⟨r, hr, rfl⟩
          exact List.mem_map.mp this
        have hll : l.length ≤ 501 := by
          have : l.length = rest.length := by have := congrArg List.length hmem; simpa using this.symm
          omega
        have hok : rulesOk l := ⟨Nat.le_trans hll (by decide), fun r hr' => by
          obtain ⟨w, hw, q⟩ := hr r hr'
          exact ruleF_ok (hm w (List.mem_cons_of_mem _ hw)) q⟩
        simp only [eN, eO, eL]
        walk_at "es"
        rw [s_is_cascade n S k hok]
        walk_at "es"
        cases hb : casB k l with
        | false => walk_at "es"; try rfl
        | true =>
          walk_at "es"
          have hb' := hb
          unfold casB at hb'
          simp only [Bool.and_eq_true, List.all_eq_true, decide_eq_true_eq] at hb'
          rw [s_show_cascade (n + 1) S hk (fun r hr' => by
            obtain ⟨w, hw, q⟩ := hr r hr'
            exact ruleF_s (hm w (List.mem_cons_of_mem _ hw)) q (hb'.2 r hr')) (by omega)]
          walk_at "es"
          by_cases q : casT k l = s
          · rw [decide_eq_true q, if_pos q]; rfl
          · rw [decide_eq_false q, if_neg q]; rfl
end K75
end
section
set_option Elab.async false
set_option linter.all false
set_option autoImplicit false
set_option maxRecDepth 100000
set_option maxHeartbeats 0
namespace K75
open PySem PySem.Spec PyProof.Rows L2 Tg
local macro_rules | `(tactic| walk_at "es") => `(tactic| try simp only [st0, st1, st2, st3, st4, evS, ev, evO, dSeqS, dSkip, dExpr, dRet, dRetN, dIfS, dAsg, dC, dNil, dCons, consV, dTup, dLst, dB1, dB2, dChain, dIte, dAnd, dOr, dNot, dCall,
  dCutL, dCutH, dCutB, dM1, dIx, dSeq, dSrc, dLc, dFor, dPar2, oCons, oNil, wipeE, opF, cmF, u1F, u2F, m1F, isiN, rngF, Tgt.put, List.set, List.headD_cons, List.tail_cons,
  bnd_ok, bnd_bad, bnd_exc, okv_s, onBl_b, onI_i, onS_s, onT_s, tst_b, tstS_b, okE_s, outF_rt, outF_nx, outF_exc, seqK_nx, seqK_rt, okL_s, asL_l, okN0, okN1, okN2, okN3, okN4, okN5, v0, v1, v2, v3, v4, v5, v6, v7, v8, v9, v10, v11,
  isi1, isi2, isi3, isi4, isi5, iss1, iss2, iss3, iss4, iss5, ist1, ist2, ist3, ist4, ist5, isn1, isn2, isn3, isb5, len_t, len_l, lt_i, le_i, gt_i, ge_i, eq_i, ne_i, eq_s, ne_s, lt_s, add_i, sub_i, neg_i, is_non, is_t, is_s, is_i, isn_non, isn_t, isn_s, isn_i,
  at_t0, at_t1, at_t2, at_t3, at_t4, ixt, ixl, ixs, sq_t, sq_l, sq_s, tup_l, in_c, nin_c, and_bl, or_bl, ite_ok, ret_ok, guard_ok, ib_and, ib_or, ib_f, nc0, nc1, nc2, nc3, nc4, nc5, nc6, Int.reduceLE, Int.reduceLT, Int.reduceEq, decide_true, decide_false, Int.le_refl, Int.lt_irrefl,
  List.length_cons, List.length_nil, List.replicate, List.cons_append, List.nil_append, Nat.add_zero, Nat.zero_add, Nat.reduceAdd, Nat.reduceSub, Option.getD_some, Option.getD_none, Bool.not_false, Bool.not_true, Bool.true_or, Bool.false_or, Bool.true_and, Bool.false_and, Bool.and_true, Bool.or_true, Bool.or_false, if_true, if_false, Bool.false_eq_true, ite_true, ite_false])
/-! ### machines -/
def stepF : List Nat → Option (Nat × Nat)
  | [] => none
  | c :: r => match numF r with
    | some k => some (c, k)
    | none => none
theorem stepF_c (c : Nat) (r : List Nat) : stepF (c :: r) = (match numF r with
    | some k => some (c, k)
    | none => none) := rfl
theorem numF_nil : numF [] = none := by decide
theorem s_step_from (n : Nat) (S : Store) {s : List Nat} (hs : tx s) : C (n + 3) i_step_from [.str s] S = .ok (eO eStep (stepF s)) S := by
  rw [cc rfl (n + 2) _ S rfl]
  walk_at "es"
  rw [cutS hs.le, tailP]
  walk_at "es"
  have ht : tx s.tail := hs.sub ⟨by rw [List.length_tail]; omega, fun c hc => List.mem_of_mem_tail hc⟩
  rw [s_number_from n S ht]
  walk_at "es"
  cases s with
  | nil => rw [List.tail_nil, numF_nil]; simp only [eN, eO]; walk_at "es"; try rfl
  | cons c r =>
    rw [List.tail_cons]
    rw [stepF_c]
    cases hn : numF r with
    | none => simp only [eN, eO]; walk_at "es"
    | some k =>
      simp only [eN, eO]
      walk_at "es"
      rw [at_s0 hs.le]
      walk_at "es"
      try rfl
theorem stepF_ok {s : List Nat} (hs : tx s) {x : Nat × Nat} (h : stepF s = some x) : x.1 < 128 ∧ x.2 < 10 ^ 30 := by
  cases s with
  | nil => cases h
  | cons c r =>
    rw [stepF_c] at h
    cases hn : numF r with
    | none => rw [hn] at h; cases h
    | some k =>
      rw [hn] at h
      cases h
      exact ⟨hs.2 c (List.mem_cons_self ..), intF_lt hn⟩
theorem gd_step {x : Nat × Nat} (h : x.1 < 128) : Gd 1 (eStep x) := gd_tup (k := 0) (by
  intro y hy
  simp at hy
  rcases hy with rfl | rfl
  · exact gd_str ⟨show 1 ≤ 65536 by decide, fun c hc => by simp at hc; subst hc; exact h⟩
  · exact gd_int _)
def bits : List PV := [.str [48], .str [49]]
def placeF (s : List Nat) : Option (Bool × List (Nat × Nat)) := match splt [32] s with
  | [] => none
  | w :: rest => match allO (rest.map stepF) with
    | none => none
    | some l => if inF (.str w) bits = true then some (decide (w = [49]), l) else none
theorem s_place_from (n : Nat) (S : Store) {s : List Nat} (hs : tx s) : C (n + 4) i_place_from [.str s] S = .ok (eO ePlace (placeF s)) S := by
  rw [cc rfl (n + 3) _ S rfl]
  walk_at "es"
  rw [split_s rfl hs]
  walk_at "es"
  unfold placeF
  cases e : splt [32] s with
  | nil => exact (splt_ne _ _ e).elim
  | cons a rest =>
    have hm : ∀ w ∈ a :: rest, tx w := fun w hw => hs.sub (splt_sub (z := [32]) (by rw [e]; exact hw))
    have hlen : rest.length ≤ 501 := by have := splt_len [32] s; rw [e] at this; have := hs.1; simp at *; omega
    rw [List.map_cons, cutL, tailP, List.tail_cons]
    walk_at "es"
    rw [lc_enc PV.str (fun w => eO eStep (stepF w)) (s_le hlen) (fun w hw => ⟨_, rfl, by walk_at "es", by walk_at "es"; rw [s_step_from n S (hm w (List.mem_cons_of_mem _ hw))]⟩)]
    walk_at "es"
    rw [show rest.map (fun w => eO eStep (stepF w)) = (rest.map stepF).map (eO eStep) from by rw [List.map_map]; rfl, s_all_or_none (n + 2) S (k := 1) eStep (fun _ => rfl) (fun x hx => by
      obtain ⟨w, hw, hf⟩ := List.mem_map.mp hx
      exact gd_step (stepF_ok (hm w (List.mem_cons_of_mem _ hw)) hf).1) (by decide)]
    walk_at "es"
    rw [at_l0]
    walk_at "es"
    cases allO (rest.map stepF) with
    | none => simp only [eO]; walk_at "es"
    | some l =>
      simp only [eO, eL]
      walk_at "es"
      rw [show [PV.str [48], PV.str [49]] = bits from rfl, in_t (flatS a rfl)]
      walk_at "es"
      cases inF (.str a) bits with
      | false => rfl
      | true => rfl
def plS (p : Bool × List (Nat × Nat)) : Prop := p.2.length ≤ 501 ∧ ∀ s ∈ p.2, s.1 < 128 ∧ s.2 < 10 ^ 30
theorem placeF_s {s : List Nat} (hs : tx s) {p : Bool × List (Nat × Nat)} (h : placeF s = some p) : plS p := by
  unfold placeF at h
  cases e : splt [32] s with
  | nil => rw [e] at h; cases h
  | cons a rest =>
    rw [e] at h
    simp only at h
    have hm : ∀ w ∈ a :: rest, tx w := fun w hw => hs.sub (splt_sub (z := [32]) (by rw [e]; exact hw))
    have hlen : rest.length ≤ 501 := by have := splt_len [32] s; rw [e] at this; have := hs.1; simp at *; omega
    cases hl : allO (rest.map stepF) with
    | none => rw [hl] at h; cases h
    | some l =>
      rw [hl] at h
      simp only at h
      split at h
      · cases h
        have hmem := allO_mem hl
        refine ⟨by have := congrArg List.length hmem; simp at this; show l.length ≤ 501; omega, fun x hx => ?_⟩
        have : some x ∈ rest.map stepF := by rw [hmem]; exact List.mem_map.mpr ⟨x, hx, rfl⟩
        obtain ⟨w, hw, q⟩ := List.mem_map.mp this
        exact stepF_ok (hm w (List.mem_cons_of_mem _ hw)) q
      · cases h
def stT (s : Nat × Nat) : List Nat := [s.1] ++ (TL.numL s.2 ++ [])
def placeT (p : Bool × List (Nat × Nat)) : List Nat := TL.joinL [32] ((if p.1 = true then [49] else [48]) :: p.2.map stT)
theorem stT_le {s : Nat × Nat} (h : s.2 < 10 ^ 30) : (stT s).length ≤ 31 := by
  unfold stT
  have := num_len h
  simp
  omega
theorem pl_le {p : Bool × List (Nat × Nat)} (h : plS p) : ∀ y ∈ (if p.1 = true then [49] else [48]) :: p.2.map stT, y.length ≤ 31 := fun y hy => by
  rcases List.mem_cons.mp hy with rfl | hy
  · split <;> decide
  · obtain ⟨r, hr, rfl⟩ := List.mem_map.mp hy
    exact stT_le (h.2 r hr).2
theorem s_place_text (n : Nat) (S : Store) {p : Bool × List (Nat × Nat)} (h : plS p) : C (n + 1) i_place_text [ePlace p] S = .ok (.str (placeT p)) S := by
  rw [cc rfl n _ S rfl]
  walk_at "es"
  unfold ePlace
  walk_at "es"
  rw [lc_enc eStep (fun c => PV.str (stT c)) (s_le h.1) (fun c hc => ⟨_, rfl, by walk_at "es", by
    walk_at "es"
    rw [js_ok (t := stT c) (by
      unfold jCons jNil dFmt
      walk_at "es"
      rw [fm_s (s := [c.1]) (show 1 ≤ sizeLine by decide)]
      walk_at "es"
      rw [fm_n (h.2 c hc).2]
      walk_at "es"
      rfl) (sl_of (Nat.le_trans (stT_le (h.2 c hc).2) (by decide)))]⟩)]
  walk_at "es"
  rw [add_l (by have := h.1; simp; omega)]
  walk_at "es"
  rw [show (if p.1 = true then PV.str [49] else PV.str [48]) :: p.2.map (fun c => PV.str (stT c)) = ((if p.1 = true then [49] else [48]) :: p.2.map stT).map .str from by rw [List.map_cons, List.map_map]; cases p.1 <;> rfl, join_s (B := 31) (K := 502) (pl_le h) (by have := h.1; simp; omega) (by decide)]
  walk_at "es"
  rfl
theorem placeT_le {p : Bool × List (Nat × Nat)} (h : plS p) : (placeT p).length ≤ 16064 := join_le (B := 31) (K := 502) (a := [32]) (pl_le h) (by have := h.1; simp; omega)
def macT (k : Nat) (l : List (Bool × List (Nat × Nat))) : List Nat := TL.joinL [32, 59, 32] (TL.numL k :: l.map placeT)
def eMac (c : Nat × List (Bool × List (Nat × Nat))) : PV := .tup [.int (c.1 : Int), .tup (c.2.map ePlace)]
theorem s_show_machine (n : Nat) (S : Store) {k : Nat} (hk : k < 10 ^ 30) {l : List (Bool × List (Nat × Nat))} (h : ∀ r ∈ l, plS r) (hl : l.length ≤ 501) : C (n + 2) i_show_machine [.tup [.int (k : Int), .tup (l.map ePlace)]] S = .ok (.str (macT k l)) S := by
  rw [cc rfl (n + 1) _ S rfl]
  walk_at "es"
  rw [str_n hk]
  walk_at "es"
  rw [lc_enc ePlace (fun c => PV.str (placeT c)) (s_le hl) (fun c hc => ⟨_, rfl, by walk_at "es", by walk_at "es"; rw [s_place_text n S (h c hc)]⟩)]
  walk_at "es"
  rw [add_l (by simp; omega)]
  walk_at "es"
  rw [show PV.str (TL.numL k) :: l.map (fun c => PV.str (placeT c)) = (TL.numL k :: l.map placeT).map .str from by rw [List.map_cons, List.map_map]; rfl, join_s (B := 16064) (K := 502) (fun y hy => by
    rcases List.mem_cons.mp hy with rfl | hy
    · exact Nat.le_trans (num_len hk) (by decide)
    · obtain ⟨r, hr, rfl⟩ := List.mem_map.mp hy
      exact placeT_le (h r hr)) (by simp; omega) (by decide)]
  walk_at "es"
  rfl
theorem gd_place {p : Bool × List (Nat × Nat)} (h : plS p) : Gd 3 (ePlace p) := gd_tup (k := 2) (by
  intro y hy
  simp at hy
  rcases hy with rfl | rfl
  · exact gd_bl _
  · exact gd_tup (k := 1) (fun x hx => by
      obtain ⟨s, hs, rfl⟩ := List.mem_map.mp hx
      exact gd_step (h.2 s hs).1))
def macR (s : List Nat) : Option (Nat × List (Bool × List (Nat × Nat))) := match splt [32, 59, 32] s with
  | [] => none
  | a :: rest => match numF a, allO (rest.map placeF) with
    | some k, some l => if macB k l = true then (if macT k l = s then some (k, l) else none) else none
    | _, _ => none
theorem s_machine_from (n : Nat) (S : Store) {s : List Nat} (hs : tx s) : C (n + 5) i_machine_from [.str s] S = .ok (eO eMac (macR s)) S := by
  rw [cc rfl (n + 4) _ S rfl]
  walk_at "es"
  rw [split_s rfl hs]
  walk_at "es"
  unfold macR
  cases e : splt [32, 59, 32] s with
  | nil => exact (splt_ne _ _ e).elim
  | cons a rest =>
    have hm : ∀ w ∈ a :: rest, tx w := fun w hw => hs.sub (splt_sub (z := [32, 59, 32]) (by rw [e]; exact hw))
    have ha := hm a (List.mem_cons_self ..)
    have hlen : rest.length ≤ 501 := by have := splt_len [32, 59, 32] s; rw [e] at this; have := hs.1; simp at *; omega
    rw [List.map_cons, at_l0]
    walk_at "es"
    rw [s_number_from (n + 2) S ha]
    walk_at "es"
    rw [cutL, tailP, List.tail_cons]
    walk_at "es"
    rw [lc_enc PV.str (fun w => eO ePlace (placeF w)) (s_le hlen) (fun w hw => ⟨_, rfl, by walk_at "es", by walk_at "es"; rw [s_place_from n S (hm w (List.mem_cons_of_mem _ hw))]⟩)]
    walk_at "es"
    rw [show rest.map (fun w => eO ePlace (placeF w)) = (rest.map placeF).map (eO ePlace) from by rw [List.map_map]; rfl, s_all_or_none (n + 3) S (k := 3) ePlace (fun _ => rfl) (fun x hx => by
      obtain ⟨w, hw, hf⟩ := List.mem_map.mp hx
      exact gd_place (placeF_s (hm w (List.mem_cons_of_mem _ hw)) hf)) (by decide)]
    walk_at "es"
    cases hn : numF a with
    | none => simp only [eN, eO]; walk_at "es"
    | some k =>
      have hk : k < 10 ^ 30 := intF_lt hn
      cases hl : allO (rest.map placeF) with
      | none => simp only [eN, eO]; walk_at "es"
      | some l =>
        have hmem := allO_mem hl
        have hr : ∀ r ∈ l, plS r := fun r hr => by
          have : some r ∈ rest.map placeF := by rw [hmem]; exact List.mem_map.mpr ⟨r, hr, rfl⟩
          obtain ⟨w, hw, q⟩ := List.mem_map.mp this
          exact placeF_s (hm w (List.mem_cons_of_mem _ hw)) q
        have hll : l.length ≤ 501 := by
          have : l.length = rest.length := by have := congrArg List.length hmem; simpa using this.symm
          omega
        have hok : macOk l := ⟨Nat.le_trans hll (by decide), fun r hr' => Nat.le_trans (hr r hr').1 (by decide)⟩
        simp only [eN, eO, eL]
        walk_at "es"
        rw [s_is_machine n S k hok]
        walk_at "es"
        cases hb : macB k l with
        | false => walk_at "es"; try rfl
        | true =>
          walk_at "es"
          rw [s_show_machine (n + 2) S hk hr hll]
          walk_at "es"
          by_cases q : macT k l = s
          · rw [decide_eq_true q, if_pos q]; rfl
          · rw [decide_eq_false q, if_neg q]; rfl
end K75
end
section
set_option Elab.async false
set_option linter.all false
set_option autoImplicit false
set_option maxRecDepth 100000
set_option maxHeartbeats 0
namespace K75
open PySem PySem.Spec PyProof.Rows L2 Tg
local macro_rules | `(tactic| walk_at "es") => `(tactic| try simp only [st0, st1, st2, st3, st4, evS, ev, evO, dSeqS, dSkip, dExpr, dRet, dRetN, dIfS, dAsg, dC, dNil, dCons, consV, dTup, dLst, dB1, dB2, dChain, dIte, dAnd, dOr, dNot, dCall,
  dCutL, dCutH, dCutB, dM1, dIx, dSeq, dSrc, dLc, dFor, dPar2, oCons, oNil, wipeE, opF, cmF, u1F, u2F, m1F, isiN, rngF, Tgt.put, List.set, List.headD_cons, List.tail_cons,
  bnd_ok, bnd_bad, bnd_exc, okv_s, onBl_b, onI_i, onS_s, onT_s, tst_b, tstS_b, okE_s, outF_rt, outF_nx, outF_exc, seqK_nx, seqK_rt, okL_s, asL_l, okN0, okN1, okN2, okN3, okN4, okN5, v0, v1, v2, v3, v4, v5, v6, v7, v8, v9, v10, v11,
  isi1, isi2, isi3, isi4, isi5, iss1, iss2, iss3, iss4, iss5, ist1, ist2, ist3, ist4, ist5, isn1, isn2, isn3, isb5, len_t, len_l, lt_i, le_i, gt_i, ge_i, eq_i, ne_i, eq_s, ne_s, lt_s, add_i, sub_i, neg_i, is_non, is_t, is_s, is_i, isn_non, isn_t, isn_s, isn_i,
  at_t0, at_t1, at_t2, at_t3, at_t4, ixt, ixl, ixs, sq_t, sq_l, sq_s, tup_l, in_c, nin_c, and_bl, or_bl, ite_ok, ret_ok, guard_ok, ib_and, ib_or, ib_f, nc0, nc1, nc2, nc3, nc4, nc5, nc6, Int.reduceLE, Int.reduceLT, Int.reduceEq, decide_true, decide_false, Int.le_refl, Int.lt_irrefl,
  List.length_cons, List.length_nil, List.replicate, List.cons_append, List.nil_append, Nat.add_zero, Nat.zero_add, Nat.reduceAdd, Nat.reduceSub, Option.getD_some, Option.getD_none, Bool.not_false, Bool.not_true, Bool.true_or, Bool.false_or, Bool.true_and, Bool.false_and, Bool.and_true, Bool.or_true, Bool.or_false, if_true, if_false, Bool.false_eq_true, ite_true, ite_false])
/-! ### books -/
def enF (s : List Nat) : List Nat × List Nat := (textF (parP [58] s).p, (parP [58] s).q)
theorem s_entry_from (n : Nat) (S : Store) {s : List Nat} (hs : tx s) : C (n + 2) i_entry_from [.str s] S = .ok (eCh (enF s)) S := by
  rw [cc rfl (n + 1) _ S rfl]
  walk_at "es"
  rw [part_s rfl hs]
  walk_at "es"
  rw [s_text_from]
  walk_at "es"
  rfl
theorem enF_ok {s : List Nat} (hs : tx s) : chOk (enF s) := ⟨(textF_tx (hs.sub (parP_p _ _))).g, (hs.sub (parP_q _ _)).g⟩
def paF (s : List Nat) : List (List Nat × List Nat) := (splt [32] s).map enF
theorem splt_le {z s : List Nat} (hs : tx s) : (splt z s).length ≤ 501 := Nat.le_trans (splt_len _ _) (by have := hs.1; omega)
theorem s_part_from (n : Nat) (S : Store) {s : List Nat} (hs : tx s) : C (n + 3) i_part_from [.str s] S = .ok (ePart (paF s)) S := by
  rw [cc rfl (n + 2) _ S rfl]
  walk_at "es"
  rw [split_s rfl hs]
  walk_at "es"
  rw [lc_enc PV.str (fun w => eCh (enF w)) (s_le (splt_le hs)) (fun w hw => ⟨_, rfl, by walk_at "es", by walk_at "es"; rw [s_entry_from n S (hs.sub (splt_sub hw))]⟩)]
  walk_at "es"
  unfold ePart paF
  rw [List.map_map]
  rfl
theorem paF_ok {s : List Nat} (hs : tx s) : chsOk (paF s) := by
  unfold paF
  refine ⟨by rw [List.length_map]; exact Nat.le_trans (splt_le hs) (by decide), fun x hx => ?_⟩
  obtain ⟨w, hw, rfl⟩ := List.mem_map.mp hx
  exact enF_ok (hs.sub (splt_sub hw))
def linkF (s : List Nat) : Option (Nat × Nat) := match numF (parP [62] s).p, numF (parP [62] s).q with
  | some a, some b => some (a, b)
  | _, _ => none
theorem s_link_from (n : Nat) (S : Store) {s : List Nat} (hs : tx s) : C (n + 3) i_link_from [.str s] S = .ok (eO eLink (linkF s)) S := by
  rw [cc rfl (n + 2) _ S rfl]
  walk_at "es"
  rw [part_s rfl hs]
  walk_at "es"
  rw [s_number_from n S (hs.sub (parP_p _ _))]
  walk_at "es"
  rw [s_number_from n S (hs.sub (parP_q _ _))]
  walk_at "es"
  rw [show [eN (numF (parP [62] s).p), eN (numF (parP [62] s).q)] = [numF (parP [62] s).p, numF (parP [62] s).q].map (eO fun i : Nat => PV.int (i : Int)) from rfl, s_all_or_none (n + 1) S (k := 0) (fun i : Nat => PV.int (i : Int)) (fun _ => rfl) (fun _ _ => gd_int _) (by decide)]
  walk_at "es"
  unfold linkF
  cases numF (parP [62] s).p <;> cases numF (parP [62] s).q <;> rfl
/-- items_from -/
def itemsF {α : Type} (f : List Nat → Option α) (s : List Nat) : Option (List α) := allO (if s = [45] then [] else (splt [32] s).map f)
theorem s_items_from {α : Type} (n : Nat) (S : Store) {s : List Nat} (hs : tx s) (j : Nat) (hj : j < 110) (e : α → PV) (f : List Nat → Option α) {k : Nat} (hn : ∀ x, isNonP (e x) = false) (hk : k ≤ 63)
    (h : ∀ w, tx w → C (n + 1) j [.str w] S = .ok (eO e (f w)) S) (hg : ∀ w x, tx w → f w = some x → Gd k (e x)) :
    C (n + 2) i_items_from [.str s, .fn j, .str [32]] S = .ok (eO (eL e) (itemsF f s)) S := by
  rw [cc rfl (n + 1) _ S rfl]
  walk_at "es"
  unfold itemsF
  by_cases q : s = [45]
  · rw [decide_eq_true q, if_pos q]
    walk_at "es"
    have q0 := s_all_or_none n S (k := k) e (l := ([] : List (Option α))) hn (fun x hx => by simp at hx) hk
    rw [List.map_nil] at q0
    rw [q0]
    walk_at "es"
  · rw [decide_eq_false q, if_neg q]
    walk_at "es"
    rw [split_s rfl hs]
    walk_at "es"
    rw [lc_enc PV.str (fun w => eO e (f w)) (s_le (splt_le hs)) (fun w hw => ⟨_, rfl, by walk_at "es", by
      unfold dCallL
      walk_at "es"
      rw [show look [Sl.val (.str s), .val (.fn j), .val (.str [32]), .val (.str w)] 1 = .val (.fn j) from rfl]
      simp only
      rw [if_pos hj]
      walk_at "es"
      exact h w (hs.sub (splt_sub hw))⟩)]
    walk_at "es"
    rw [show (splt [32] s).map (fun w => eO e (f w)) = ((splt [32] s).map f).map (eO e) from by rw [List.map_map]; rfl, s_all_or_none n S (k := k) e hn (fun x hx => by
      obtain ⟨w, hw, hf⟩ := List.mem_map.mp hx
      exact hg w x (hs.sub (splt_sub hw)) hf) hk]
    walk_at "es"
theorem itemsF_mem {α : Type} {f : List Nat → Option α} {s : List Nat} (hs : tx s) {l : List α} (h : itemsF f s = some l) : l.length ≤ 501 ∧ ∀ x ∈ l, ∃ w, tx w ∧ f w = some x := by
  unfold itemsF at h
  have hm := allO_mem h
  split at hm
  · cases l with
    | nil => exact ⟨Nat.zero_le _, fun x hx => by cases hx⟩
    | cons => simp at hm
  · refine ⟨by have := congrArg List.length hm; simp at this; have := splt_le (z := [32]) hs; omega, fun x hx => ?_⟩
    have : some x ∈ (splt [32] s).map f := by rw [hm]; exact List.mem_map.mpr ⟨x, hx, rfl⟩
    obtain ⟨w, hw, q⟩ := List.mem_map.mp this
    exact ⟨w, hs.sub (splt_sub hw), q⟩
def bookF (s : List Nat) : Option Book := match splt [32, 124, 32] s with
  | [a, b, c, d, e] => some ⟨numF a, (splt [32, 59, 32] b).map paF, itemsF numF c, itemsF linkF d, itemsF numF e⟩
  | _ => none
theorem bookF_5 {s a b c d e : List Nat} (h : splt [32, 124, 32] s = [a, b, c, d, e]) : bookF s = some ⟨numF a, (splt [32, 59, 32] b).map paF, itemsF numF c, itemsF linkF d, itemsF numF e⟩ := by unfold bookF; rw [h]
theorem bookF_no {s : List Nat} (h : ¬ (splt [32, 124, 32] s).length = 5) : bookF s = none := by
  unfold bookF
  split
  · rename_i e; rw [e] at h; exact (h rfl).elim
  · rfl
/-! ### shown -/
theorem s_listed (n : Nat) (S : Store) {B K : Nat} {ys : List (List Nat)} (h : ∀ y ∈ ys, y.length ≤ B) (hn : ys.length ≤ K) (hb : K * (B + 1) ≤ 16777216) : C (n + 1) i_listed [.lst (ys.map .str), .str [32]] S = .ok (.str (if ys.isEmpty = true then [45] else TL.joinL [32] ys)) S := by
  rw [cc rfl n _ S rfl]
  walk_at "es"
  rw [List.length_map]
  cases ys with
  | nil => rfl
  | cons y r =>
    rw [decide_eq_true (show (0 : Int) < ((y :: r).length : Int) by rw [List.length_cons]; omega)]
    walk_at "es"
    rw [join_s h hn (by simpa using hb)]
    walk_at "es"
    rfl
def listT (ys : List (List Nat)) : List Nat := if ys.isEmpty = true then [45] else TL.joinL [32] ys
theorem listT_le {B K : Nat} {ys : List (List Nat)} (h : ∀ y ∈ ys, y.length ≤ B) (hn : ys.length ≤ K) : (listT ys).length ≤ K * (B + 1) + 1 := by
  unfold listT
  split
  · simp
  · have := join_le (a := [32]) h hn; simp at this; omega
def numsS (l : List Nat) : Prop := l.length ≤ 501 ∧ ∀ i ∈ l, i < 10 ^ 30
theorem nums_le {l : List Nat} (h : numsS l) : ∀ y ∈ l.map TL.numL, y.length ≤ 30 := fun y hy => by
  obtain ⟨i, hi, rfl⟩ := List.mem_map.mp hy
  exact num_len (h.2 i hi)
theorem s_show_numbers (n : Nat) (S : Store) {l : List Nat} (h : numsS l) : C (n + 2) i_show_numbers [eNums l] S = .ok (.str (listT (l.map TL.numL))) S := by
  rw [cc rfl (n + 1) _ S rfl]
  walk_at "es"
  unfold eNums
  walk_at "es"
  rw [lc_enc (fun i : Nat => PV.int (i : Int)) (fun i => PV.str (TL.numL i)) (s_le h.1) (fun c hc => ⟨_, rfl, by walk_at "es", by walk_at "es"; rw [str_n (h.2 c hc)]; walk_at "es"⟩)]
  walk_at "es"
  rw [show l.map (fun i => PV.str (TL.numL i)) = (l.map TL.numL).map .str from by rw [List.map_map]; rfl, s_listed n S (B := 30) (K := 501) (nums_le h) (by rw [List.length_map]; exact h.1) (by decide)]
  walk_at "es"
  rfl
def enT (c : List Nat × List Nat) : List Nat := wordT c.1 ++ ([58] ++ (c.2 ++ []))
theorem enT_le {c : List Nat × List Nat} (h : chS c) : (enT c).length ≤ 1004 := by
  unfold enT
  have := wordT_le c.1
  have := h.1
  have := h.2
  simp
  omega
def paT (l : List (List Nat × List Nat)) : List Nat := TL.joinL [32] (l.map enT)
def paS (l : List (List Nat × List Nat)) : Prop := l.length ≤ 12 ∧ ∀ c ∈ l, chS c
theorem pas_le {l : List (List Nat × List Nat)} (h : paS l) : ∀ y ∈ l.map enT, y.length ≤ 1004 := fun y hy => by
  obtain ⟨i, hi, rfl⟩ := List.mem_map.mp hy
  exact enT_le (h.2 i hi)
theorem s_part_text (n : Nat) (S : Store) {l : List (List Nat × List Nat)} (h : paS l) : C (n + 2) i_part_text [ePart l] S = .ok (.str (paT l)) S := by
  rw [cc rfl (n + 1) _ S rfl]
  walk_at "es"
  unfold ePart
  walk_at "es"
  rw [lc_enc eCh (fun c => PV.str (enT c)) (s_le h.1) (fun c hc => ⟨_, rfl, by walk_at "es", by
    obtain ⟨h1, h2⟩ := h.2 c hc
    walk_at "es"
    rw [js_ok (t := enT c) (by
      unfold jCons jNil dFmt
      walk_at "es"
      rw [s_show_word]
      walk_at "es"
      rw [fm_s (sl_of (Nat.le_trans (wordT_le _) (by omega)))]
      walk_at "es"
      rw [fm_s (sl_of (by omega))]
      walk_at "es"
      rfl) (sl_of (Nat.le_trans (enT_le ⟨h1, h2⟩) (by decide)))]⟩)]
  walk_at "es"
  rw [show l.map (fun c => PV.str (enT c)) = (l.map enT).map .str from by rw [List.map_map]; rfl, join_s (B := 1004) (K := 12) (pas_le h) (by rw [List.length_map]; exact h.1) (by decide)]
  walk_at "es"
  rfl
theorem paT_le {l : List (List Nat × List Nat)} (h : paS l) : (paT l).length ≤ 12060 := join_le (B := 1004) (K := 12) (a := [32]) (pas_le h) (by rw [List.length_map]; exact h.1)
def linkT (l : Nat × Nat) : List Nat := TL.numL l.1 ++ ([62] ++ (TL.numL l.2 ++ []))
def linksS (l : List (Nat × Nat)) : Prop := l.length ≤ 501 ∧ ∀ i ∈ l, i.1 < 10 ^ 30 ∧ i.2 < 10 ^ 30
theorem linkT_le {l : Nat × Nat} (h : l.1 < 10 ^ 30 ∧ l.2 < 10 ^ 30) : (linkT l).length ≤ 61 := by
  unfold linkT
  have := num_len h.1
  have := num_len h.2
  simp
  omega
theorem links_le {l : List (Nat × Nat)} (h : linksS l) : ∀ y ∈ l.map linkT, y.length ≤ 61 := fun y hy => by
  obtain ⟨i, hi, rfl⟩ := List.mem_map.mp hy
  exact linkT_le (h.2 i hi)
def bookT (n : Nat) (parts : List (List (List Nat × List Nat))) (fs : List Nat) (ls : List (Nat × Nat)) (la : List Nat) : List Nat :=
  TL.joinL [32, 124, 32] [TL.numL n, TL.joinL [32, 59, 32] (parts.map paT), listT (fs.map TL.numL), listT (ls.map linkT), listT (la.map TL.numL)]
theorem s_show_book (n : Nat) (S : Store) {k : Nat} (hk : k < 10 ^ 30) {parts : List (List (List Nat × List Nat))} (hp : parts.length ≤ 8 ∧ ∀ c ∈ parts, paS c) {fs la : List Nat} {ls : List (Nat × Nat)} (hf : numsS fs) (hl : linksS ls) (ha : numsS la) :
    C (n + 3) i_show_book [.tup [.int (k : Int), .tup (parts.map ePart), eNums fs, eLinks ls, eNums la]] S = .ok (.str (bookT k parts fs ls la)) S := by
  rw [cc rfl (n + 2) _ S rfl]
  walk_at "es"
  rw [str_n hk]
  walk_at "es"
  have hb : ∀ y ∈ parts.map paT, y.length ≤ 12060 := fun y hy => by
    obtain ⟨r, hr, rfl⟩ := List.mem_map.mp hy
    exact paT_le (hp.2 r hr)
  rw [lc_enc ePart (fun c => PV.str (paT c)) (s_le hp.1) (fun c hc => ⟨_, rfl, by walk_at "es", by walk_at "es"; rw [s_part_text n S (hp.2 c hc)]⟩)]
  walk_at "es"
  rw [show parts.map (fun c => PV.str (paT c)) = (parts.map paT).map .str from by rw [List.map_map]; rfl, join_s (B := 12060) (K := 8) hb (by rw [List.length_map]; exact hp.1) (by decide)]
  walk_at "es"
  rw [s_show_numbers n S hf]
  walk_at "es"
  unfold eLinks
  walk_at "es"
  rw [lc_enc eLink (fun c => PV.str (linkT c)) (s_le hl.1) (fun c hc => ⟨_, rfl, by walk_at "es", by
    walk_at "es"
    rw [js_ok (t := linkT c) (by
      unfold jCons jNil dFmt
      walk_at "es"
      rw [fm_n (hl.2 c hc).1]
      walk_at "es"
      rw [fm_n (hl.2 c hc).2]
      walk_at "es"
      rfl) (sl_of (Nat.le_trans (linkT_le (hl.2 c hc)) (by decide)))]⟩)]
  walk_at "es"
  rw [show ls.map (fun i => PV.str (linkT i)) = (ls.map linkT).map .str from by rw [List.map_map]; rfl, s_listed (n + 1) S (B := 61) (K := 501) (links_le hl) (by rw [List.length_map]; exact hl.1) (by decide)]
  walk_at "es"
  rw [s_show_numbers n S ha]
  walk_at "es"
  rw [add_l (by simp)]
  walk_at "es"
  rw [show [PV.str (TL.numL k), PV.str (TL.joinL [32, 59, 32] (parts.map paT)), PV.str (listT (fs.map TL.numL)), PV.str (if (ls.map linkT).isEmpty = true then [45] else TL.joinL [32] (ls.map linkT)), PV.str (listT (la.map TL.numL))] = [TL.numL k, TL.joinL [32, 59, 32] (parts.map paT), listT (fs.map TL.numL), listT (ls.map linkT), listT (la.map TL.numL)].map .str from rfl, join_s (B := 200000) (K := 5) (fun y hy => by
    simp only [List.mem_cons, List.not_mem_nil, or_false] at hy
    rcases hy with rfl | rfl | rfl | rfl | rfl
    · exact Nat.le_trans (num_len hk) (by decide)
    · exact Nat.le_trans (join_le (B := 12060) (K := 8) hb (by rw [List.length_map]; exact hp.1)) (by decide)
    · exact Nat.le_trans (listT_le (nums_le hf) (K := 501) (by rw [List.length_map]; exact hf.1)) (by decide)
    · exact Nat.le_trans (listT_le (links_le hl) (K := 501) (by rw [List.length_map]; exact hl.1)) (by decide)
    · exact Nat.le_trans (listT_le (nums_le ha) (K := 501) (by rw [List.length_map]; exact ha.1)) (by decide)) (by simp) (by decide)]
  walk_at "es"
  rfl
end K75
end
section
set_option Elab.async false
set_option linter.all false
set_option autoImplicit false
set_option maxRecDepth 100000
set_option maxHeartbeats 0
namespace K75
open PySem PySem.Spec PyProof.Rows L2 Tg
local macro_rules | `(tactic| walk_at "es") => `(tactic| try simp only [st0, st1, st2, st3, st4, evS, ev, evO, dSeqS, dSkip, dExpr, dRet, dRetN, dIfS, dAsg, dC, dNil, dCons, consV, dTup, dLst, dB1, dB2, dChain, dIte, dAnd, dOr, dNot, dCall,
  dCutL, dCutH, dCutB, dM1, dIx, dSeq, dSrc, dLc, dFor, dPar2, oCons, oNil, wipeE, opF, cmF, u1F, u2F, m1F, isiN, rngF, Tgt.put, List.set, List.headD_cons, List.tail_cons,
  bnd_ok, bnd_bad, bnd_exc, okv_s, onBl_b, onI_i, onS_s, onT_s, tst_b, tstS_b, okE_s, outF_rt, outF_nx, outF_exc, seqK_nx, seqK_rt, okL_s, asL_l, okN0, okN1, okN2, okN3, okN4, okN5, v0, v1, v2, v3, v4, v5, v6, v7, v8, v9, v10, v11,
  isi1, isi2, isi3, isi4, isi5, iss1, iss2, iss3, iss4, iss5, ist1, ist2, ist3, ist4, ist5, isn1, isn2, isn3, isb5, len_t, len_l, lt_i, le_i, gt_i, ge_i, eq_i, ne_i, eq_s, ne_s, lt_s, add_i, sub_i, neg_i, is_non, is_t, is_s, is_i, isn_non, isn_t, isn_s, isn_i,
  at_t0, at_t1, at_t2, at_t3, at_t4, ixt, ixl, ixs, sq_t, sq_l, sq_s, tup_l, in_c, nin_c, and_bl, or_bl, ite_ok, ret_ok, guard_ok, ib_and, ib_or, ib_f, nc0, nc1, nc2, nc3, nc4, nc5, nc6, Int.reduceLE, Int.reduceLT, Int.reduceEq, decide_true, decide_false, Int.le_refl, Int.lt_irrefl,
  List.length_cons, List.length_nil, List.replicate, List.cons_append, List.nil_append, Nat.add_zero, Nat.zero_add, Nat.reduceAdd, Nat.reduceSub, Option.getD_some, Option.getD_none, Bool.not_false, Bool.not_true, Bool.true_or, Bool.false_or, Bool.true_and, Bool.false_and, Bool.and_true, Bool.or_true, Bool.or_false, if_true, if_false, Bool.false_eq_true, ite_true, ite_false])
theorem bookF_ok {s : List Nat} (hs : tx s) {b : Book} (h : bookF s = some b) : b.ok ∧ (∀ k, b.n = some k → k < 10 ^ 30) ∧ (∀ c ∈ b.parts, ∀ x ∈ c, chS x) ∧ (∀ l, b.firsts = some l → numsS l) ∧ (∀ l, b.links = some l → linksS l) ∧ (∀ l, b.lasts = some l → numsS l) := by
  by_cases h5 : (splt [32, 124, 32] s).length = 5
  case neg => rw [bookF_no h5] at h; cases h
  obtain ⟨a, b', c, d, e, q⟩ := len5 h5
  rw [bookF_5 q] at h
  have hm : ∀ w ∈ [a, b', c, d, e], tx w := fun w hw => hs.sub (splt_sub (z := [32, 124, 32]) (by rw [q]; exact hw))
  have hb := hm b' (by simp)
  cases h
  have hn : ∀ {w : List Nat}, tx w → ∀ l, itemsF numF w = some l → numsS l := fun {w} hw l h => by
    obtain ⟨h1, h2⟩ := itemsF_mem hw h
    exact ⟨h1, fun i hi => by obtain ⟨x, _, e⟩ := h2 i hi; exact intF_lt e⟩
  have hl : ∀ l, itemsF linkF d = some l → linksS l := fun l h => by
    obtain ⟨h1, h2⟩ := itemsF_mem (hm d (by simp)) h
    refine ⟨h1, fun i hi => ?_⟩
    obtain ⟨x, _, e⟩ := h2 i hi
    unfold linkF at e
    split at e
    · rename_i u v e1 e2
      cases e
      exact ⟨intF_lt e1, intF_lt e2⟩
    · cases e
  refine ⟨⟨⟨by rw [List.length_map]; exact Nat.le_trans (splt_le hb) (by decide), fun x hx => ?_⟩, fun l h => Nat.le_trans (hn (hm c (by simp)) l h).1 (by decide), fun l h => Nat.le_trans (hl l h).1 (by decide), fun l h => Nat.le_trans (hn (hm e (by simp)) l h).1 (by decide)⟩, fun k h => intF_lt h, fun x hx y hy => ?_, hn (hm c (by simp)), hl, hn (hm e (by simp))⟩
  · obtain ⟨w, hw, rfl⟩ := List.mem_map.mp hx
    exact paF_ok (hb.sub (splt_sub hw))
  · obtain ⟨w, hw, rfl⟩ := List.mem_map.mp hx
    obtain ⟨u, hu, rfl⟩ := List.mem_map.mp hy
    have ht := (hb.sub (splt_sub hw)).sub (splt_sub hu)
    have h1 := (textF_tx (ht.sub (parP_p [58] u))).1
    have h2 := (ht.sub (parP_q [58] u)).1
    exact ⟨by show (textF (parP [58] u).p).length ≤ 501; omega, by show (parP [58] u).q.length ≤ 501; omega⟩
def bookS (b : Book) : List Nat := bookT (b.n.getD 0) b.parts (b.firsts.getD []) (b.links.getD []) (b.lasts.getD [])
theorem s_show_book' (n : Nat) (S : Store) {s : List Nat} (hs : tx s) {b : Book} (h : bookF s = some b) (hb : bookB b = true) : C (n + 3) i_show_book [eBook b] S = .ok (.str (bookS b)) S := by
  obtain ⟨h1, h2, h3, h4, h5, h6⟩ := bookF_ok hs h
  unfold bookB at hb
  cases hn : b.n with
  | none => rw [hn] at hb; cases hb
  | some k =>
    rw [hn] at hb
    simp only [Bool.and_eq_true, List.all_eq_true, decide_eq_true_eq] at hb
    cases hf : b.firsts with
    | none => rw [hf] at hb; exact absurd hb.2.1 (by simp [oB])
    | some fs =>
      cases hl : b.links with
      | none => rw [hl] at hb; exact absurd hb.2.2.1 (by simp [oB])
      | some ls =>
        cases ha : b.lasts with
        | none => rw [ha] at hb; exact absurd hb.2.2.2 (by simp [oB])
        | some la =>
          have := s_show_book n S (h2 k hn) (parts := b.parts) ⟨by have := hb.1.1.2.2; omega, fun c hc => ⟨by
            have := hb.1.2 c hc
            unfold paB at this
            simp only [Bool.and_eq_true, decide_eq_true_eq] at this
            have := this.1.1.2
            omega, h3 c hc⟩⟩ (h4 fs hf) (h5 ls hl) (h6 la ha)
          unfold eBook bookS
          rw [hn, hf, hl, ha]
          exact this
def bookR (s : List Nat) : Option Book := match bookF s with
  | none => none
  | some b => if bookB b = true then (if bookS b = s then some b else none) else none
theorem g103 : dG G0 103 = dC (.fn 43) := rfl
theorem g94 : dG G0 94 = dC (.fn 81) := rfl
theorem ne5 {n : Nat} {h : ¬ n = 5} : decide ((n : Int) = 5) = false := by simp; omega
theorem s_book_from (n : Nat) (S : Store) {s : List Nat} (hs : tx s) : C (n + 6) i_book_from [.str s] S = .ok (eO eBook (bookR s)) S := by
  rw [cc rfl (n + 5) _ S rfl]
  walk_at "es"
  rw [split_s rfl hs]
  walk_at "es"
  rw [List.length_map]
  unfold bookR
  by_cases h5 : (splt [32, 124, 32] s).length = 5
  case neg =>
    rw [ne5 (h := h5), bookF_no h5]
    walk_at "es"
    rfl
  obtain ⟨a, b, c, d, e, q⟩ := len5 h5
  have hF := bookF_5 q
  have hm : ∀ w ∈ [a, b, c, d, e], tx w := fun w hw => hs.sub (splt_sub (z := [32, 124, 32]) (by rw [q]; exact hw))
  rw [q, hF]
  simp only [List.map_cons, List.map_nil]
  walk_at "es"
  have i1 := fun w hw => s_items_from (n + 3) S (s := w) hw 43 (by decide) (fun i : Nat => PV.int (i : Int)) numF (k := 0) (fun _ => rfl) (by decide) (fun w hw => s_number_from (n + 2) S hw) (fun _ _ _ _ => gd_int _)
  have i2 := s_items_from (n + 3) S (s := d) (hm d (by simp)) 81 (by decide) eLink linkF (k := 1) (fun _ => rfl) (by decide) (fun w hw => s_link_from (n + 1) S hw) (fun w x hw hx => gd_tup (k := 0) (by
    intro y hy
    simp at hy
    rcases hy with rfl | rfl <;> exact gd_int _))
  rw [at_l2]
  walk_at "es"
  rw [g103]
  walk_at "es"
  rw [i1 c (hm c (by simp))]
  walk_at "es"
  rw [at_l4]
  walk_at "es"
  rw [i1 e (hm e (by simp))]
  walk_at "es"
  rw [at_l3]
  walk_at "es"
  rw [g94]
  walk_at "es"
  rw [i2]
  walk_at "es"
  rw [at_l0]
  walk_at "es"
  rw [s_number_from (n + 3) S (hm a (by simp))]
  walk_at "es"
  rw [at_l1]
  walk_at "es"
  rw [split_s rfl (hm b (by simp))]
  walk_at "es"
  rw [lc_enc PV.str (fun w => ePart (paF w)) (s_le (splt_le (hm b (by simp)))) (fun w hw => ⟨_, rfl, by walk_at "es", by walk_at "es"; rw [s_part_from (n + 2) S ((hm b (by simp)).sub (splt_sub hw))]⟩)]
  walk_at "es"
  have hok := (bookF_ok hs hF).1
  have e1 : PV.tup [eN (numF a), .tup ((splt [32, 59, 32] b).map fun w => ePart (paF w)), eO (eL fun i : Nat => PV.int (i : Int)) (itemsF numF c), eO (eL eLink) (itemsF linkF d), eO (eL fun i : Nat => PV.int (i : Int)) (itemsF numF e)] = eBook ⟨numF a, (splt [32, 59, 32] b).map paF, itemsF numF c, itemsF linkF d, itemsF numF e⟩ := by
    unfold eBook
    simp only [List.map_map]
    rfl
  rw [e1, s_is_book n S hok]
  walk_at "es"
  cases hb : bookB ⟨numF a, (splt [32, 59, 32] b).map paF, itemsF numF c, itemsF linkF d, itemsF numF e⟩ with
  | false => walk_at "es"; rfl
  | true =>
    walk_at "es"
    rw [s_show_book' (n + 2) S hs hF hb]
    walk_at "es"
    by_cases q : bookS ⟨numF a, (splt [32, 59, 32] b).map paF, itemsF numF c, itemsF linkF d, itemsF numF e⟩ = s
    · rw [decide_eq_true q, if_pos q]; rfl
    · rw [decide_eq_false q, if_neg q]; rfl
end K75
end
section
set_option Elab.async false
set_option linter.all false
set_option autoImplicit false
set_option maxRecDepth 100000
set_option maxHeartbeats 0
namespace K75
open PySem PySem.Spec PyProof.Rows L2 Tg
local macro_rules | `(tactic| walk_at "es") => `(tactic| try simp only [st0, st1, st2, st3, st4, evS, ev, evO, dSeqS, dSkip, dExpr, dRet, dRetN, dIfS, dAsg, dC, dNil, dCons, consV, dTup, dLst, dB1, dB2, dChain, dIte, dAnd, dOr, dNot, dCall,
  dCutL, dCutH, dCutB, dM1, dIx, dSeq, dSrc, dLc, dFor, dPar2, oCons, oNil, wipeE, opF, cmF, u1F, u2F, m1F, isiN, rngF, Tgt.put, List.set, List.headD_cons, List.tail_cons,
  bnd_ok, bnd_bad, bnd_exc, okv_s, onBl_b, onI_i, onS_s, onT_s, tst_b, tstS_b, okE_s, outF_rt, outF_nx, outF_exc, seqK_nx, seqK_rt, okL_s, asL_l, okN0, okN1, okN2, okN3, okN4, okN5, v0, v1, v2, v3, v4, v5, v6, v7, v8, v9, v10, v11,
  isi1, isi2, isi3, isi4, isi5, iss1, iss2, iss3, iss4, iss5, ist1, ist2, ist3, ist4, ist5, isn1, isn2, isn3, isb5, len_t, len_l, lt_i, le_i, gt_i, ge_i, eq_i, ne_i, eq_s, ne_s, lt_s, add_i, sub_i, neg_i, is_non, is_t, is_s, is_i, isn_non, isn_t, isn_s, isn_i,
  at_t0, at_t1, at_t2, at_t3, at_t4, ixt, ixl, ixs, sq_t, sq_l, sq_s, tup_l, in_c, nin_c, and_bl, or_bl, ite_ok, ret_ok, guard_ok, ib_and, ib_or, ib_f, nc0, nc1, nc2, nc3, nc4, nc5, nc6, Int.reduceLE, Int.reduceLT, Int.reduceEq, decide_true, decide_false, Int.le_refl, Int.lt_irrefl,
  List.length_cons, List.length_nil, List.replicate, List.cons_append, List.nil_append, Nat.add_zero, Nat.zero_add, Nat.reduceAdd, Nat.reduceSub, Option.getD_some, Option.getD_none, Bool.not_false, Bool.not_true, Bool.true_or, Bool.false_or, Bool.true_and, Bool.false_and, Bool.and_true, Bool.or_true, Bool.or_false, if_true, if_false, Bool.false_eq_true, ite_true, ite_false])
/-! ### marks, signs -/
def markF (s : List Nat) : Option Mark := if inF (.str s) vars = true then some (.v s) else match intF s 1 with
  | some i => if (i : Int) ≤ 4 then some (.n i) else none
  | none => none
theorem s_mark_from (n : Nat) (S : Store) {s : List Nat} (hs : tx s) : C (n + 2) i_mark_from [.str s] S = .ok (eO eM (markF s)) S := by
  rw [cc rfl (n + 1) _ S rfl]
  walk_at "es"
  rw [g25]
  walk_at "es"
  rw [in_t (flatS s rfl)]
  walk_at "es"
  unfold markF
  cases inF (.str s) vars with
  | true => walk_at "es"; rfl
  | false =>
    walk_at "es"
    rw [show (PV.int 1) = .int ((1 : Nat) : Int) from rfl, s_integer_from n S hs 1 (by decide)]
    walk_at "es"
    rw [g21]
    walk_at "es"
    cases intF s 1 with
    | none => simp only [eN, eO]; walk_at "es"; try rfl
    | some i =>
      simp only [eN, eO]
      walk_at "es"
      by_cases h : (i : Int) ≤ 4
      · rw [decide_eq_true h, if_pos h]; rfl
      · rw [decide_eq_false h, if_neg h]; rfl
def mS : Mark → Prop
  | .v s => s.length ≤ 1 ∧ ∀ c ∈ s, c < 128
  | .n i => i ≤ 4
theorem markF_s {s : List Nat} {m : Mark} (h : markF s = some m) : mS m := by
  unfold markF at h
  split at h
  · rename_i q
    cases h
    have : s = [120] ∨ s = [121] := by
      have q : (decide ([120] = s) || (decide ([121] = s) || false)) = true := q
      simp at q
      rcases q with q | q
      · exact .inl q.symm
      · exact .inr q.symm
    rcases this with rfl | rfl <;> exact ⟨by decide, by decide⟩
  · split at h
    · split at h
      · cases h; show _ ≤ 4; omega
      · cases h
    · cases h
def mT : Mark → List Nat
  | .v s => s
  | .n i => TL.numL i
theorem mT_le {m : Mark} (h : mS m) : (mT m).length ≤ 1 := by
  cases m with
  | v s => exact h.1
  | n i =>
    have : i ≤ 4 := h
    exact TL.numL_len (k := 1) (by decide) (by omega)
theorem str_m {m : Mark} (h : mS m) : uStr (eM m) = some (.str (mT m)) := by
  cases m with
  | v s => rfl
  | n i =>
    have : i ≤ 4 := h
    exact str_n (Nat.lt_of_le_of_lt this (by decide))
theorem gd_m {m : Mark} (h : mS m) {k : Nat} : Gd k (eM m) := by
  cases m with
  | v s => exact gd_str ⟨Nat.le_trans h.1 (by decide), h.2⟩
  | n i => exact gd_int _
structure sgS (s : Sign) : Prop where
  name : s.1.length ≤ 8 ∧ ∀ c ∈ s.1, c < 128
  len : s.2.length ≤ 2
  ms : ∀ m ∈ s.2, mS m
theorem sgS.ok {s : Sign} (h : sgS s) : sgOk s := ⟨⟨Nat.le_trans h.name.1 (by decide), h.name.2⟩, Nat.le_trans h.len (by decide), fun m hm => by
  have := h.ms m hm
  cases m with
  | v s => exact ⟨Nat.le_trans this.1 (by decide), this.2⟩
  | n i => trivial⟩
theorem gd_ms {s : Sign} (h : sgS s) : ∀ x ∈ s.2.map eM, Gd 0 x := fun x hx => by
  obtain ⟨m, hm, rfl⟩ := List.mem_map.mp hx
  exact gd_m (h.ms m hm)
theorem gd_sign {s : Sign} (h : sgS s) : Gd 2 (eSign s) := gd_tup (k := 1) (fun x hx => by
  simp at hx
  rcases hx with rfl | rfl
  · exact gd_str h.ok.1
  · exact gd_tup (k := 0) (gd_ms h))
def signF (s : List Nat) : Option Sign := if txB small26 1 8 (parP [40] s).p = true then (if (parP [40] s).m = [] then some ((parP [40] s).p, []) else match allO ((splt [44] (parP [40] s).q.dropLast).map markF) with
    | none => none
    | some l => if (decide ((parP [40] s).q.drop ((parP [40] s).q.length - 1) = [41]) && decide ((l.length : Int) ≤ 2)) = true then some ((parP [40] s).p, l) else none)
  else none
theorem s_sign_from (n : Nat) (S : Store) {s : List Nat} (hs : tx s) : C (n + 3) i_sign_from [.str s] S = .ok (eO eSign (signF s)) S := by
  rw [cc rfl (n + 2) _ S rfl]
  walk_at "es"
  rw [part_s rfl hs]
  walk_at "es"
  have hp := hs.sub (parP_p [40] s)
  have hq := hs.sub (parP_q [40] s)
  rw [s_is_name n S hp.le]
  walk_at "es"
  unfold signF
  cases txB small26 1 8 (parP [40] s).p with
  | false => walk_at "es"; rfl
  | true =>
    walk_at "es"
    by_cases hm : (parP [40] s).m = []
    · rw [decide_eq_true hm, if_pos hm]; walk_at "es"; rfl
    · rw [decide_eq_false hm, if_neg hm]
      walk_at "es"
      have hd : tx (parP [40] s).q.dropLast := hq.sub ⟨by rw [List.length_dropLast]; exact Nat.sub_le _ _, fun c hc => List.dropLast_subset _ hc⟩
      rw [cutS hq.le, cut_last]
      walk_at "es"
      rw [split_s rfl hd]
      walk_at "es"
      rw [lc_enc PV.str (fun w => eO eM (markF w)) (s_le (splt_le hd)) (fun w hw => ⟨_, rfl, by walk_at "es", by walk_at "es"; rw [s_mark_from n S (hd.sub (splt_sub hw))]⟩)]
      walk_at "es"
      rw [show (splt [44] (parP [40] s).q.dropLast).map (fun w => eO eM (markF w)) = ((splt [44] (parP [40] s).q.dropLast).map markF).map (eO eM) from by rw [List.map_map]; rfl, s_all_or_none (n + 1) S (k := 0) eM (fun x => by cases x <;> rfl) (fun x hx => by
        obtain ⟨w, hw, hf⟩ := List.mem_map.mp hx
        exact gd_m (markF_s hf)) (by decide)]
      walk_at "es"
      rw [cutS hq.le, cut_tail]
      walk_at "es"
      cases allO ((splt [44] (parP [40] s).q.dropLast).map markF) with
      | none => simp only [eO]; walk_at "es"
      | some l =>
        simp only [eO, eL]
        walk_at "es"
        rw [List.length_map]
        cases (decide ((parP [40] s).q.drop ((parP [40] s).q.length - 1) = [41]) && decide ((l.length : Int) ≤ 2)) with
        | false => rfl
        | true => rfl
theorem signF_s {s : List Nat} (hs : tx s) {g : Sign} (h : signF s = some g) : sgS g := by
  unfold signF at h
  have hp := hs.sub (parP_p [40] s)
  split at h
  · rename_i q
    unfold txB at q
    simp only [Bool.and_eq_true, decide_eq_true_eq] at q
    split at h
    · cases h
      exact ⟨⟨by show (parP [40] s).p.length ≤ 8; omega, hp.2⟩, Nat.zero_le _, fun m hm => by cases hm⟩
    · split at h
      · cases h
      · rename_i l hl
        split at h
        · rename_i q2
          cases h
          simp only [Bool.and_eq_true, decide_eq_true_eq] at q2
          refine ⟨⟨by show (parP [40] s).p.length ≤ 8; omega, hp.2⟩, by show l.length ≤ 2; omega, fun m hm => ?_⟩
          have : some m ∈ (splt [44] (parP [40] s).q.dropLast).map markF := by rw [allO_mem hl]; exact List.mem_map.mpr ⟨m, hm, rfl⟩
          obtain ⟨w, hw, e⟩ := List.mem_map.mp this
          exact markF_s e
        · cases h
  · cases h
def isV4 : Mark → Bool
  | .v _ => true
  | .n i => decide ((i : Int) = 4)
def catF (s : List Nat) : Option Sign := match signF s with
  | none => none
  | some g => if g.2.any isV4 = true then none else some g
theorem is_g {g : Sign} : vIs (eSign g) .non = some (.bl false) := rfl
theorem isn_g {g : Sign} : vIsN (eSign g) .non = some (.bl true) := rfl
theorem ix_g1 {g : Sign} {S : Store} : ixS (eSign g) (.int 1) S = some (.tup (g.2.map eM)) := rfl
theorem s_category_from (n : Nat) (S : Store) {s : List Nat} (hs : tx s) : C (n + 4) i_category_from [.str s] S = .ok (eO eSign (catF s)) S := by
  rw [cc rfl (n + 3) _ S rfl]
  walk_at "es"
  rw [s_sign_from n S hs]
  walk_at "es"
  unfold catF
  cases hf : signF s with
  | none => simp only [eO]; walk_at "es"
  | some g =>
    have hg := signF_s hs hf
    simp only [eO]
    rw [is_g]
    walk_at "es"
    rw [ix_g1]
    walk_at "es"
    rw [lc_enc eM (fun m => .bl (isV4 m)) (s_le hg.len) (fun m hm => ⟨_, rfl, by walk_at "es", by
      cases m with
      | v s => simp only [eM]; walk_at "es"; rfl
      | n i => simp only [eM]; walk_at "es"; rw [g21]; walk_at "es"; rfl⟩)]
    walk_at "es"
    rw [any_map]
    walk_at "es"
    cases g.2.any isV4 <;> rfl
/-! ### signs shown -/
def signT (g : Sign) : List Nat := if g.2.isEmpty = true then g.1 else ((g.1 ++ ([40] ++ [])) ++ TL.joinL [44] (g.2.map mT)) ++ [41]
theorem ms_le {g : Sign} (h : sgS g) : ∀ y ∈ g.2.map mT, y.length ≤ 1 := fun y hy => by
  obtain ⟨m, hm, rfl⟩ := List.mem_map.mp hy
  exact mT_le (h.ms m hm)
theorem mj_le {g : Sign} (h : sgS g) : (TL.joinL [44] (g.2.map mT)).length ≤ 4 := join_le (B := 1) (K := 2) (a := [44]) (ms_le h) (by rw [List.length_map]; exact h.len)
theorem signT_le {g : Sign} (h : sgS g) : (signT g).length ≤ 14 := by
  have := h.name.1
  have := mj_le h
  unfold signT
  split
  · omega
  · simp only [List.length_append, List.length_cons, List.length_nil]; omega
theorem s_show_sign (n : Nat) (S : Store) {g : Sign} (h : sgS g) : C (n + 1) i_show_sign [eSign g] S = .ok (.str (signT g)) S := by
  rw [cc rfl n _ S rfl]
  walk_at "es"
  unfold eSign
  walk_at "es"
  rw [eq_t0 (gd_ms h), isEmpty_map]
  walk_at "es"
  unfold signT
  have hn := h.name.1
  have hj := mj_le h
  cases g.2.isEmpty with
  | true => walk_at "es"
  | false =>
    walk_at "es"
    rw [js_ok (t := g.1 ++ ([40] ++ [])) (by
      unfold jCons jNil dFmt
      walk_at "es"
      rw [fm_s (sl_of (by omega))]
      walk_at "es") (sl_of (by simp; omega))]
    walk_at "es"
    rw [lc_enc eM (fun m => .str (mT m)) (s_le h.len) (fun m hm => ⟨_, rfl, by walk_at "es", by walk_at "es"; rw [str_m (h.ms m hm)]; walk_at "es"⟩)]
    walk_at "es"
    rw [show g.2.map (fun m => PV.str (mT m)) = (g.2.map mT).map .str from by rw [List.map_map]; rfl, join_s (B := 1) (K := 2) (ms_le h) (by rw [List.length_map]; exact h.len) (by decide)]
    walk_at "es"
    rw [add_s (by simp; omega)]
    walk_at "es"
    rw [add_s (by simp; omega)]
    walk_at "es"
theorem in_m {g : Sign} : vIn (.int 4) (.tup (g.2.map eM)) = some (.bl (inF (.int 4) (g.2.map eM))) := by
  unfold vIn
  have e : inB (.int 4) (.tup (g.2.map eM)) = if flatIn (.int 4) (g.2.map eM) = true then some (inF (.int 4) (g.2.map eM)) else inD (.int 4) (g.2.map eM) := rfl
  rw [e, if_pos]
  · rfl
  · show (true && (g.2.map eM).all flatP) = true
    rw [Bool.true_and, List.all_eq_true]
    intro x hx
    obtain ⟨m, _, rfl⟩ := List.mem_map.mp hx
    cases m <;> rfl
def sigR (s : List Nat) : Option Sign := match signF s with
  | none => none
  | some g => if inF (.int 4) (g.2.map eM) = true then none else if signT g = s then some g else none
theorem s_shown_sign (n : Nat) (S : Store) {s : List Nat} (hs : tx s) : C (n + 4) i_shown_sign [.str s] S = .ok (eO eSign (sigR s)) S := by
  rw [cc rfl (n + 3) _ S rfl]
  walk_at "es"
  rw [s_sign_from n S hs]
  walk_at "es"
  unfold sigR
  cases hf : signF s with
  | none => simp only [eO]; walk_at "es"
  | some g =>
    have hg := signF_s hs hf
    simp only [eO]
    rw [is_g]
    walk_at "es"
    rw [g21]
    walk_at "es"
    rw [ix_g1]
    walk_at "es"
    rw [in_m]
    walk_at "es"
    cases inF (.int 4) (g.2.map eM) with
    | true => rfl
    | false =>
      walk_at "es"
      rw [s_show_sign (n + 2) S hg]
      walk_at "es"
      by_cases q : signT g = s
      · rw [decide_eq_true q, if_pos q]; rfl
      · rw [decide_eq_false q, if_neg q]; rfl
def sizF (s : List Nat) : Option Sign := match signF s with
  | none => none
  | some g => if g.2.all (btwM 1 4) = true then some g else none
theorem s_size_from (n : Nat) (S : Store) {s : List Nat} (hs : tx s) : C (n + 4) i_size_from [.str s] S = .ok (eO eSign (sizF s)) S := by
  rw [cc rfl (n + 3) _ S rfl]
  walk_at "es"
  rw [s_sign_from n S hs]
  walk_at "es"
  unfold sizF
  cases hf : signF s with
  | none => simp only [eO]; walk_at "es"
  | some g =>
    have hg := signF_s hs hf
    simp only [eO]
    rw [isn_g]
    walk_at "es"
    rw [ix_g1]
    walk_at "es"
    rw [lc_enc eM (fun m => .bl (btwM 1 4 m)) (s_le hg.len) (fun m hm => ⟨_, rfl, by walk_at "es", by walk_at "es"; rw [g21]; walk_at "es"; rw [s_btw_m]⟩)]
    walk_at "es"
    rw [all_map]
    walk_at "es"
    cases g.2.all (btwM 1 4) <;> rfl
end K75
end
section
set_option Elab.async false
set_option linter.all false
set_option autoImplicit false
set_option maxRecDepth 100000
set_option maxHeartbeats 0
namespace K75
open PySem PySem.Spec PyProof.Rows L2 Tg
local macro_rules | `(tactic| walk_at "es") => `(tactic| try simp only [st0, st1, st2, st3, st4, evS, ev, evO, dSeqS, dSkip, dExpr, dRet, dRetN, dIfS, dAsg, dC, dNil, dCons, consV, dTup, dLst, dB1, dB2, dChain, dIte, dAnd, dOr, dNot, dCall,
  dCutL, dCutH, dCutB, dM1, dIx, dSeq, dSrc, dLc, dFor, dPar2, oCons, oNil, wipeE, opF, cmF, u1F, u2F, m1F, isiN, rngF, Tgt.put, List.set, List.headD_cons, List.tail_cons,
  bnd_ok, bnd_bad, bnd_exc, okv_s, onBl_b, onI_i, onS_s, onT_s, tst_b, tstS_b, okE_s, outF_rt, outF_nx, outF_exc, seqK_nx, seqK_rt, okL_s, asL_l, okN0, okN1, okN2, okN3, okN4, okN5, v0, v1, v2, v3, v4, v5, v6, v7, v8, v9, v10, v11,
  isi1, isi2, isi3, isi4, isi5, iss1, iss2, iss3, iss4, iss5, ist1, ist2, ist3, ist4, ist5, isn1, isn2, isn3, isb5, len_t, len_l, lt_i, le_i, gt_i, ge_i, eq_i, ne_i, eq_s, ne_s, lt_s, add_i, sub_i, neg_i, is_non, is_t, is_s, is_i, isn_non, isn_t, isn_s, isn_i,
  at_t0, at_t1, at_t2, at_t3, at_t4, ixt, ixl, ixs, sq_t, sq_l, sq_s, tup_l, in_c, nin_c, and_bl, or_bl, ite_ok, ret_ok, guard_ok, ib_and, ib_or, ib_f, nc0, nc1, nc2, nc3, nc4, nc5, nc6, Int.reduceLE, Int.reduceLT, Int.reduceEq, decide_true, decide_false, Int.le_refl, Int.lt_irrefl,
  List.length_cons, List.length_nil, List.replicate, List.cons_append, List.nil_append, Nat.add_zero, Nat.zero_add, Nat.reduceAdd, Nat.reduceSub, Option.getD_some, Option.getD_none, Bool.not_false, Bool.not_true, Bool.true_or, Bool.false_or, Bool.true_and, Bool.false_and, Bool.and_true, Bool.or_true, Bool.or_false, if_true, if_false, Bool.false_eq_true, ite_true, ite_false])
/-! ### grammars -/
def eSum : Sign ⊕ List Nat → PV
  | .inl g => eSign g
  | .inr s => .str s
def gruF (s : List Nat) : Option (List Sign) := allO [signF (parP [61] s).p, signF (parP [43] (parP [61] s).q).p, signF (parP [43] (parP [61] s).q).q]
theorem gruF_s {s : List Nat} (hs : tx s) {l : List Sign} (h : gruF s = some l) : l.length = 3 ∧ ∀ g ∈ l, sgS g := by
  have hm := allO_mem h
  refine ⟨by have := congrArg List.length hm; simpa using this.symm, fun g hg => ?_⟩
  have : some g ∈ [signF (parP [61] s).p, signF (parP [43] (parP [61] s).q).p, signF (parP [43] (parP [61] s).q).q] := by rw [hm]; exact List.mem_map.mpr ⟨g, hg, rfl⟩
  have hq := hs.sub (parP_q [61] s)
  simp only [List.mem_cons, List.not_mem_nil, or_false] at this
  rcases this with e | e | e
  · exact signF_s (hs.sub (parP_p [61] s)) e.symm
  · exact signF_s (hq.sub (parP_p [43] _)) e.symm
  · exact signF_s (hq.sub (parP_q [43] _)) e.symm
theorem s_grammar_rule_from (n : Nat) (S : Store) {s : List Nat} (hs : tx s) : C (n + 4) i_grammar_rule_from [.str s] S = .ok (eO eRu (gruF s)) S := by
  rw [cc rfl (n + 3) _ S rfl]
  walk_at "es"
  have hp := hs.sub (parP_p [61] s)
  have hq := hs.sub (parP_q [61] s)
  rw [part_s rfl hs]
  walk_at "es"
  rw [part_s rfl hq]
  walk_at "es"
  rw [s_sign_from n S hp]
  walk_at "es"
  rw [s_sign_from n S (hq.sub (parP_p [43] _))]
  walk_at "es"
  rw [s_sign_from n S (hq.sub (parP_q [43] _))]
  walk_at "es"
  rw [show [eO eSign (signF (parP [61] s).p), eO eSign (signF (parP [43] (parP [61] s).q).p), eO eSign (signF (parP [43] (parP [61] s).q).q)] = [signF (parP [61] s).p, signF (parP [43] (parP [61] s).q).p, signF (parP [43] (parP [61] s).q).q].map (eO eSign) from rfl, s_all_or_none (n + 2) S (k := 2) eSign (fun _ => rfl) (fun g this => by
    simp only [List.mem_cons, List.not_mem_nil, or_false] at this
    rcases this with e | e | e
    · exact gd_sign (signF_s hp e.symm)
    · exact gd_sign (signF_s (hq.sub (parP_p [43] _)) e.symm)
    · exact gd_sign (signF_s (hq.sub (parP_q [43] _)) e.symm)) (by decide)]
  walk_at "es"
  rfl
def gwF (s : List Nat) : Option (Sign × List Nat) := match signF (parP [61] s).p with
  | none => none
  | some g => some (g, (parP [61] s).q)
theorem s_grammar_word_from (n : Nat) (S : Store) {s : List Nat} (hs : tx s) : C (n + 4) i_grammar_word_from [.str s] S = .ok (eO eWord (gwF s)) S := by
  rw [cc rfl (n + 3) _ S rfl]
  walk_at "es"
  have hp := hs.sub (parP_p [61] s)
  have hq := hs.sub (parP_q [61] s)
  rw [part_s rfl hs]
  walk_at "es"
  rw [s_sign_from n S hp]
  walk_at "es"
  unfold gwF
  have key := fun (o : Option Sign) (ho : ∀ g, o = some g → sgS g) => s_all_or_none (n + 2) S (k := 2) eSum (l := [o.map Sum.inl, some (.inr (parP [61] s).q)]) (fun x => by cases x <;> rfl) (fun x hx => by
    simp only [List.mem_cons, List.not_mem_nil, or_false] at hx
    rcases hx with e | e
    · cases o with
      | none => cases e
      | some g => cases e; exact gd_sign (ho g rfl)
    · cases e; exact gd_str hq.g) (by decide)
  cases hf : signF (parP [61] s).p with
  | none =>
    have := key none (fun g h => by cases h)
    simp only [List.map_cons, List.map_nil, Option.map_none, eO, eSum] at this ⊢
    rw [this]
    walk_at "es"
    rfl
  | some g =>
    have := key (some g) (fun g' h => by cases h; exact signF_s hp hf)
    simp only [List.map_cons, List.map_nil, Option.map_some, eO, eSum] at this ⊢
    rw [this]
    walk_at "es"
    rfl
def gramF (s : List Nat) : Option Gram := match splt [32, 124, 32] s with
  | [a, b, c, d] => some ⟨catF a, allO ((splt [32] b).map sizF), itemsF gruF c, itemsF gwF d⟩
  | _ => none
theorem gramF_4 {s a b c d : List Nat} (h : splt [32, 124, 32] s = [a, b, c, d]) : gramF s = some ⟨catF a, allO ((splt [32] b).map sizF), itemsF gruF c, itemsF gwF d⟩ := by unfold gramF; rw [h]
theorem gramF_no {s : List Nat} (h : ¬ (splt [32, 124, 32] s).length = 4) : gramF s = none := by
  unfold gramF
  split
  · rename_i e; rw [e] at h; exact (h rfl).elim
  · rfl
theorem catF_s {s : List Nat} (hs : tx s) {g : Sign} (h : catF s = some g) : sgS g := by
  unfold catF at h
  cases hf : signF s with
  | none => rw [hf] at h; cases h
  | some g' =>
    rw [hf] at h
    simp only at h
    split at h
    · cases h
    · cases h; exact signF_s hs hf
theorem sizF_s {s : List Nat} (hs : tx s) {g : Sign} (h : sizF s = some g) : sgS g := by
  unfold sizF at h
  cases hf : signF s with
  | none => rw [hf] at h; cases h
  | some g' =>
    rw [hf] at h
    simp only at h
    split at h
    · cases h; exact signF_s hs hf
    · cases h
theorem gwF_s {s : List Nat} (hs : tx s) {g : Sign × List Nat} (h : gwF s = some g) : sgS g.1 ∧ tx g.2 := by
  unfold gwF at h
  cases hf : signF (parP [61] s).p with
  | none => rw [hf] at h; cases h
  | some g' =>
    rw [hf] at h
    cases h
    exact ⟨signF_s (hs.sub (parP_p [61] s)) hf, hs.sub (parP_q [61] s)⟩
structure Gram.sm (g : Gram) : Prop where
  start : ∀ s, g.start = some s → sgS s
  sizes : ∀ l, g.sizes = some l → l.length ≤ 501 ∧ ∀ s ∈ l, sgS s
  rules : ∀ l, g.rules = some l → l.length ≤ 501 ∧ ∀ r ∈ l, r.length = 3 ∧ ∀ s ∈ r, sgS s
  words : ∀ l, g.words = some l → l.length ≤ 501 ∧ ∀ w ∈ l, sgS w.1 ∧ tx w.2
theorem Gram.sm.ok {g : Gram} (h : g.sm) : g.ok where
  start := fun s e => (h.start s e).ok
  sizes := fun l e => ⟨Nat.le_trans (h.sizes l e).1 (by decide), fun s m => ((h.sizes l e).2 s m).ok⟩
  rules := fun l e => ⟨Nat.le_trans (h.rules l e).1 (by decide), fun r m => ⟨((h.rules l e).2 r m).1, fun s q => (((h.rules l e).2 r m).2 s q).ok⟩⟩
  words := fun l e => ⟨Nat.le_trans (h.words l e).1 (by decide), fun w m => ⟨((h.words l e).2 w m).1.ok, ((h.words l e).2 w m).2.g⟩⟩
theorem gramF_s {s : List Nat} (hs : tx s) {g : Gram} (h : gramF s = some g) : g.sm := by
  by_cases h4 : (splt [32, 124, 32] s).length = 4
  case neg => rw [gramF_no h4] at h; cases h
  obtain ⟨a, b, c, d, q⟩ := len4 h4
  rw [gramF_4 q] at h
  have hm : ∀ w ∈ [a, b, c, d], tx w := fun w hw => hs.sub (splt_sub (z := [32, 124, 32]) (by rw [q]; exact hw))
  have hb := hm b (by simp)
  cases h
  refine ⟨fun s e => catF_s (hm a (by simp)) e, fun l e => ?_, fun l e => ?_, fun l e => ?_⟩
  · have hl := allO_mem e
    refine ⟨by have := congrArg List.length hl; simp at this; have := splt_le (z := [32]) hb; omega, fun x hx => ?_⟩
    have : some x ∈ (splt [32] b).map sizF := by rw [hl]; exact List.mem_map.mpr ⟨x, hx, rfl⟩
    obtain ⟨w, hw, q⟩ := List.mem_map.mp this
    exact sizF_s (hb.sub (splt_sub hw)) q
  · obtain ⟨h1, h2⟩ := itemsF_mem (hm c (by simp)) e
    exact ⟨h1, fun r hr => by obtain ⟨w, hw, q⟩ := h2 r hr; exact gruF_s hw q⟩
  · obtain ⟨h1, h2⟩ := itemsF_mem (hm d (by simp)) e
    exact ⟨h1, fun r hr => by obtain ⟨w, hw, q⟩ := h2 r hr; exact gwF_s hw q⟩
/-! ### shown -/
def t3 (l : List Sign) : List Nat := match l with
  | [a, b, c] => signT a ++ ([61] ++ (signT b ++ ([43] ++ (signT c ++ []))))
  | _ => []
theorem t3_le {l : List Sign} (h : l.length = 3 ∧ ∀ s ∈ l, sgS s) : (t3 l).length ≤ 44 := by
  obtain ⟨a, b, c, rfl⟩ := len3 h.1
  have h1 := signT_le (h.2 a (by simp))
  have h2 := signT_le (h.2 b (by simp))
  have h3 := signT_le (h.2 c (by simp))
  unfold t3
  simp only [List.length_append, List.length_cons, List.length_nil]
  omega
def gwT (w : Sign × List Nat) : List Nat := signT w.1 ++ ([61] ++ (w.2 ++ []))
theorem gwT_le {w : Sign × List Nat} (h : sgS w.1 ∧ tx w.2) : (gwT w).length ≤ 515 := by
  have h1 := signT_le h.1
  have h2 := h.2.1
  unfold gwT
  simp only [List.length_append, List.length_cons, List.length_nil]
  omega
def gramT (st : Sign) (sz : List Sign) (ru : List (List Sign)) (wo : List (Sign × List Nat)) : List Nat := TL.joinL [32, 124, 32] [signT st, TL.joinL [32] (sz.map signT), listT (ru.map t3), listT (wo.map gwT)]
theorem map_le {α : Type} {B : Nat} {f : α → List Nat} {l : List α} (h : ∀ x ∈ l, (f x).length ≤ B) : ∀ y ∈ l.map f, y.length ≤ B := fun y hy => by
  obtain ⟨x, hx, rfl⟩ := List.mem_map.mp hy
  exact h x hx
theorem v12 {a b c d e f g h i j k l : Sl} {v : PV} {r : Tg.Env} {S : Store} : dVar 12 (a :: b :: c :: d :: e :: f :: g :: h :: i :: j :: k :: l :: .val v :: r) S = .ok v S := rfl
theorem app1 {dr : Den} {a : Sl} {l : List PV} {r : Tg.Env} {S : Store} {v : PV} (h : dr (a :: .own (.lst l) :: r) S = .ok (.lst [v]) S) (hl : l.length < sizeLine) : dApp 1 dr (a :: .own (.lst l) :: r) S = .ok (.nx (a :: .own (.lst (l ++ [v])) :: r)) S := by
  unfold dApp
  rw [show dApp.hasL (look (a :: .own (.lst l) :: r) 1) = true from rfl, if_pos rfl, h, bnd_ok]
  show setO 1 (appV (.own (.lst l)) v) _ S = _
  unfold appV
  simp only
  rw [if_pos hl]
  rfl
theorem bor1 {a : Sl} {v : PV} {r : Tg.Env} {S : Store} : dBor 1 (a :: .own v :: r) S = .ok v S := rfl
theorem s_show_grammar (n : Nat) (S : Store) {st : Sign} {sz : List Sign} {ru : List (List Sign)} {wo : List (Sign × List Nat)} (h1 : sgS st) (h2 : sz.length ≤ 501 ∧ ∀ s ∈ sz, sgS s) (h3 : ru.length ≤ 501 ∧ ∀ r ∈ ru, r.length = 3 ∧ ∀ s ∈ r, sgS s) (h4 : wo.length ≤ 501 ∧ ∀ w ∈ wo, sgS w.1 ∧ tx w.2) :
    C (n + 2) i_show_grammar [.tup [eSign st, .tup (sz.map eSign), .tup (ru.map eRu), .tup (wo.map eWord)]] S = .ok (.str (gramT st sz ru wo)) S := by
  rw [cc rfl (n + 1) _ S rfl]
  walk_at "es"
  unfold dOwn
  walk_at "es"
  rw [s_show_sign n S h1]
  walk_at "es"
  have b2 := map_le (f := signT) (l := sz) fun x hx => signT_le (h2.2 x hx)
  have b3 := map_le (f := t3) (l := ru) fun x hx => t3_le (h3.2 x hx)
  have b4 := map_le (f := gwT) (l := wo) fun x hx => gwT_le (h4.2 x hx)
  rw [lc_enc eSign (fun c => PV.str (signT c)) (s_le h2.1) (fun c hc => ⟨_, rfl, by walk_at "es", by walk_at "es"; rw [s_show_sign n S (h2.2 c hc)]⟩)]
  walk_at "es"
  rw [show sz.map (fun c => PV.str (signT c)) = (sz.map signT).map .str from by rw [List.map_map]; rfl, join_s (B := 14) (K := 501) b2 (by rw [List.length_map]; exact h2.1) (by decide)]
  walk_at "es"
  rw [show ∀ l, isO (.lst l) = true from fun _ => rfl]
  walk_at "es"
  rw [lc_enc eRu (fun c => PV.str (t3 c)) (s_le h3.1) (fun c hc => by
    obtain ⟨hl, hg⟩ := h3.2 c hc
    obtain ⟨x, y, z, rfl⟩ := len3 hl
    refine ⟨_, rfl, by walk_at "es", ?_⟩
    walk_at "es"
    rw [js_ok (t := t3 [x, y, z]) (by
      have k1 := signT_le (hg x (by simp))
      have k2 := signT_le (hg y (by simp))
      have k3 := signT_le (hg z (by simp))
      unfold jCons jNil dFmt
      walk_at "es"
      rw [s_show_sign n S (hg x (by simp))]
      walk_at "es"
      rw [fm_s (sl_of (by omega))]
      walk_at "es"
      rw [s_show_sign n S (hg y (by simp))]
      walk_at "es"
      rw [fm_s (sl_of (by omega))]
      walk_at "es"
      rw [s_show_sign n S (hg z (by simp))]
      walk_at "es"
      rw [fm_s (sl_of (by omega))]
      walk_at "es"
      rfl) (sl_of (Nat.le_trans (t3_le ⟨hl, hg⟩) (by decide)))])]
  walk_at "es"
  rw [app1 (v := .str (listT (ru.map t3))) (by
    walk_at "es"
    rw [show ru.map (fun c => PV.str (t3 c)) = (ru.map t3).map .str from by rw [List.map_map]; rfl, s_listed n S (B := 44) (K := 501) b3 (by rw [List.length_map]; exact h3.1) (by decide)]
    walk_at "es"
    rfl) (by show 2 < sizeLine; decide)]
  walk_at "es"
  rw [app1 (v := .str (listT (wo.map gwT))) (by
    walk_at "es"
    rw [lc_enc eWord (fun c => PV.str (gwT c)) (s_le h4.1) (fun c hc => ⟨_, rfl, by walk_at "es", by
      obtain ⟨hg, ht⟩ := h4.2 c hc
      have k1 := signT_le hg
      have k2 := ht.1
      walk_at "es"
      rw [js_ok (t := gwT c) (by
        unfold jCons jNil dFmt
        walk_at "es"
        rw [s_show_sign n S hg]
        walk_at "es"
        rw [fm_s (sl_of (by omega))]
        walk_at "es"
        rw [v12]
        walk_at "es"
        rw [fm_s (sl_of (by omega))]
        walk_at "es"
        rfl) (sl_of (Nat.le_trans (gwT_le ⟨hg, ht⟩) (by decide)))]⟩)]
    walk_at "es"
    rw [show wo.map (fun c => PV.str (gwT c)) = (wo.map gwT).map .str from by rw [List.map_map]; rfl, s_listed n S (B := 515) (K := 501) b4 (by rw [List.length_map]; exact h4.1) (by decide)]
    walk_at "es"
    rfl) (by show 3 < sizeLine; decide)]
  walk_at "es"
  rw [bor1]
  walk_at "es"
  rw [show [PV.str (signT st), PV.str (TL.joinL [32] (sz.map signT)), PV.str (listT (ru.map t3)), PV.str (listT (wo.map gwT))] = [signT st, TL.joinL [32] (sz.map signT), listT (ru.map t3), listT (wo.map gwT)].map .str from rfl, join_s (B := 300000) (K := 4) (fun y hy => by
    simp only [List.mem_cons, List.not_mem_nil, or_false] at hy
    rcases hy with rfl | rfl | rfl | rfl
    · exact Nat.le_trans (signT_le h1) (by decide)
    · exact Nat.le_trans (join_le b2 (K := 501) (by rw [List.length_map]; exact h2.1)) (by decide)
    · exact Nat.le_trans (listT_le b3 (K := 501) (by rw [List.length_map]; exact h3.1)) (by decide)
    · exact Nat.le_trans (listT_le b4 (K := 501) (by rw [List.length_map]; exact h4.1)) (by decide)) (by simp) (by decide)]
  walk_at "es"
  rfl
def gramS (g : Gram) : List Nat := match g.start, g.sizes, g.rules, g.words with
  | some a, some b, some c, some d => gramT a b c d
  | _, _, _, _ => []
theorem s_show_gram (n : Nat) (S : Store) {g : Gram} (h : g.sm) (hb : gramB g = true) : C (n + 2) i_show_grammar [eGram g] S = .ok (.str (gramS g)) S := by
  unfold gramB at hb
  cases h2 : g.sizes with
  | none => rw [h2] at hb; cases hb
  | some l =>
    rw [h2] at hb
    simp only [Bool.and_eq_true] at hb
    cases h1 : g.start with
    | none => rw [h1] at hb; exact absurd hb.2.1 (by simp [oB])
    | some st =>
      cases h3 : g.rules with
      | none => rw [h3] at hb; exact absurd hb.2.2 (by simp [oB])
      | some ru =>
        cases h4 : g.words with
        | none => rw [h3, h4] at hb; exact absurd hb.2.2 (by simp [oB])
        | some wo =>
          unfold eGram gramS
          rw [h1, h2, h3, h4]
          exact s_show_grammar n S (h.start st h1) (h.sizes l h2) (h.rules ru h3) (h.words wo h4)
def gramR (s : List Nat) : Option Gram := match gramF s with
  | none => none
  | some g => if gramB g = true then (if gramS g = s then some g else none) else none
theorem g49 : dG G0 49 = dC (.fn 85) := rfl
theorem g50 : dG G0 50 = dC (.fn 86) := rfl
theorem ne4 {n : Nat} {h : ¬ n = 4} : decide ((n : Int) = 4) = false := by simp; omega
theorem s_grammar_from (n : Nat) (S : Store) {s : List Nat} (hs : tx s) : C (n + 7) i_grammar_from [.str s] S = .ok (eO eGram (gramR s)) S := by
  rw [cc rfl (n + 6) _ S rfl]
  walk_at "es"
  rw [split_s rfl hs]
  walk_at "es"
  rw [List.length_map]
  unfold gramR
  by_cases h4 : (splt [32, 124, 32] s).length = 4
  case neg =>
    rw [ne4 (h := h4), gramF_no h4]
    walk_at "es"
    rfl
  obtain ⟨a, b, c, d, q⟩ := len4 h4
  have hF := gramF_4 q
  have hm : ∀ w ∈ [a, b, c, d], tx w := fun w hw => hs.sub (splt_sub (z := [32, 124, 32]) (by rw [q]; exact hw))
  rw [q, hF]
  simp only [List.map_cons, List.map_nil]
  walk_at "es"
  have hb := hm b (by simp)
  have i1 := s_items_from (n + 4) S (s := c) (hm c (by simp)) 85 (by decide) eRu gruF (k := 3) (fun _ => rfl) (by decide) (fun w hw => s_grammar_rule_from (n + 1) S hw) (fun w x hw hx => gd_tup (k := 2) (fun y hy => by
    obtain ⟨g, hg, rfl⟩ := List.mem_map.mp hy
    exact gd_sign ((gruF_s hw hx).2 g hg)))
  have i2 := s_items_from (n + 4) S (s := d) (hm d (by simp)) 86 (by decide) eWord gwF (k := 3) (fun _ => rfl) (by decide) (fun w hw => s_grammar_word_from (n + 1) S hw) (fun w x hw hx => gd_tup (k := 2) (fun y hy => by
    simp at hy
    rcases hy with rfl | rfl
    · exact gd_sign (gwF_s hw hx).1
    · exact gd_str (gwF_s hw hx).2.g))
  rw [at_l1]
  walk_at "es"
  rw [split_s rfl hb]
  walk_at "es"
  rw [lc_enc PV.str (fun w => eO eSign (sizF w)) (s_le (splt_le hb)) (fun w hw => ⟨_, rfl, by walk_at "es", by walk_at "es"; rw [s_size_from (n + 2) S (hb.sub (splt_sub hw))]⟩)]
  walk_at "es"
  rw [show (splt [32] b).map (fun w => eO eSign (sizF w)) = ((splt [32] b).map sizF).map (eO eSign) from by rw [List.map_map]; rfl, s_all_or_none (n + 5) S (k := 2) eSign (fun _ => rfl) (fun x hx => by
    obtain ⟨w, hw, hf⟩ := List.mem_map.mp hx
    exact gd_sign (sizF_s (hb.sub (splt_sub hw)) hf)) (by decide)]
  walk_at "es"
  rw [at_l2]
  walk_at "es"
  rw [g49]
  walk_at "es"
  rw [i1]
  walk_at "es"
  rw [at_l3]
  walk_at "es"
  rw [g50]
  walk_at "es"
  rw [i2]
  walk_at "es"
  rw [at_l0]
  walk_at "es"
  rw [s_category_from (n + 2) S (hm a (by simp))]
  walk_at "es"
  have hsm := gramF_s hs hF
  have e1 : PV.tup [eO eSign (catF a), eO (eL eSign) (allO ((splt [32] b).map sizF)), eO (eL eRu) (itemsF gruF c), eO (eL eWord) (itemsF gwF d)] = eGram ⟨catF a, allO ((splt [32] b).map sizF), itemsF gruF c, itemsF gwF d⟩ := rfl
  rw [e1, s_any_grammar n S hsm.ok]
  walk_at "es"
  cases hb : gramB ⟨catF a, allO ((splt [32] b).map sizF), itemsF gruF c, itemsF gwF d⟩ with
  | false => walk_at "es"; rfl
  | true =>
    walk_at "es"
    rw [s_show_gram (n + 4) S hsm hb]
    walk_at "es"
    by_cases q : gramS ⟨catF a, allO ((splt [32] b).map sizF), itemsF gruF c, itemsF gwF d⟩ = s
    · rw [decide_eq_true q, if_pos q]; rfl
    · rw [decide_eq_false q, if_neg q]; rfl
/-! ### sentences -/
def senR (s : List Nat) : Option (List (List Nat)) := if (decide (((splt [32] s).length : Int) ≤ 40) && (splt [32] s).all (txB tagS 1 80)) = true then some (splt [32] s) else none
def eSen (l : List (List Nat)) : PV := .tup (l.map .str)
theorem s_sentence_from (n : Nat) (S : Store) {s : List Nat} (hs : tx s) : C (n + 3) i_sentence_from [.str s] S = .ok (eO eSen (senR s)) S := by
  rw [cc rfl (n + 2) _ S rfl]
  walk_at "es"
  rw [split_s rfl hs]
  walk_at "es"
  rw [g18, List.length_map]
  walk_at "es"
  rw [lc_enc PV.str (fun w => .bl (txB tagS 1 80 w)) (s_le (splt_le hs)) (fun w hw => ⟨_, rfl, by walk_at "es", by walk_at "es"; rw [s_is_tag n S (hs.sub (splt_sub hw)).le]⟩)]
  walk_at "es"
  rw [all_map]
  walk_at "es"
  unfold senR
  cases (decide (((splt [32] s).length : Int) ≤ 40) && (splt [32] s).all (txB tagS 1 80)) <;> rfl
theorem senR_join {s : List Nat} (l : List (List Nat)) (hs : tx s) (h : senR s = some l) : l = splt [32] s := by
  unfold senR at h
  split at h
  · cases h; rfl
  · cases h
end K75
end
section
set_option Elab.async false
set_option linter.all false
set_option autoImplicit false
set_option maxRecDepth 100000
set_option maxHeartbeats 0
namespace K75
open PySem PySem.Spec PyProof.Rows L2 Tg
local macro_rules | `(tactic| walk_at "es") => `(tactic| try simp only [st0, st1, st2, st3, st4, evS, ev, evO, dSeqS, dSkip, dExpr, dRet, dRetN, dIfS, dAsg, dC, dNil, dCons, consV, dTup, dLst, dB1, dB2, dChain, dIte, dAnd, dOr, dNot, dCall,
  dCutL, dCutH, dCutB, dM1, dIx, dSeq, dSrc, dLc, dFor, dPar2, oCons, oNil, wipeE, opF, cmF, u1F, u2F, m1F, isiN, rngF, Tgt.put, List.set, List.headD_cons, List.tail_cons,
  bnd_ok, bnd_bad, bnd_exc, okv_s, onBl_b, onI_i, onS_s, onT_s, tst_b, tstS_b, okE_s, outF_rt, outF_nx, outF_exc, seqK_nx, seqK_rt, okL_s, asL_l, okN0, okN1, okN2, okN3, okN4, okN5, v0, v1, v2, v3, v4, v5, v6, v7, v8, v9, v10, v11,
  isi1, isi2, isi3, isi4, isi5, iss1, iss2, iss3, iss4, iss5, ist1, ist2, ist3, ist4, ist5, isn1, isn2, isn3, isb5, len_t, len_l, lt_i, le_i, gt_i, ge_i, eq_i, ne_i, eq_s, ne_s, lt_s, add_i, sub_i, neg_i, is_non, is_t, is_s, is_i, isn_non, isn_t, isn_s, isn_i,
  at_t0, at_t1, at_t2, at_t3, at_t4, ixt, ixl, ixs, sq_t, sq_l, sq_s, tup_l, in_c, nin_c, and_bl, or_bl, ite_ok, ret_ok, guard_ok, ib_and, ib_or, ib_f, nc0, nc1, nc2, nc3, nc4, nc5, nc6, Int.reduceLE, Int.reduceLT, Int.reduceEq, decide_true, decide_false, Int.le_refl, Int.lt_irrefl,
  List.length_cons, List.length_nil, List.replicate, List.cons_append, List.nil_append, Nat.add_zero, Nat.zero_add, Nat.reduceAdd, Nat.reduceSub, Option.getD_some, Option.getD_none, Bool.not_false, Bool.not_true, Bool.true_or, Bool.false_or, Bool.true_and, Bool.false_and, Bool.and_true, Bool.or_true, Bool.or_false, if_true, if_false, Bool.false_eq_true, ite_true, ite_false])
/-! ### levels of brackets -/
def dl (c : Nat) : Int := (if c = 91 then 1 else 0) - (if c = 93 then 1 else 0)
def sm : List Nat → Int
  | [] => 0
  | c :: r => dl c + sm r
theorem sm_nil : sm [] = 0 := rfl
theorem sm_cons (c : Nat) (r : List Nat) : sm (c :: r) = dl c + sm r := rfl
theorem sm_app : ∀ (a b : List Nat), sm (a ++ b) = sm a + sm b
  | [], b => by simp [sm]
  | c :: a, b => by
    rw [List.cons_append, sm_cons, sm_cons, sm_app a b]
    omega
theorem dl_r (c : Nat) : -1 ≤ dl c ∧ dl c ≤ 1 := by
  unfold dl
  split <;> split <;> constructor <;> omega
def endB : Int → List Nat → Option Nat
  | lv, [] => if 0 < lv then none else some 0
  | lv, c :: r => if 0 < lv then (endB (lv + dl c) r).map (· + 1) else some 0
theorem endB_ok : ∀ (r : List Nat) (lv : Int), 0 < lv → lv + sm r ≤ 0 → ∃ e, endB lv r = some e ∧ e ≤ r.length ∧ lv + sm (r.take e) = 0 ∧ ∀ j < e, 0 < lv + sm (r.take j)
  | [], lv, h, q => by simp [sm] at q; omega
  | c :: r, lv, h, q => by
    have hd := dl_r c
    rw [sm_cons] at q
    have e0 : endB lv (c :: r) = (endB (lv + dl c) r).map (· + 1) := by
      show (if 0 < lv then _ else _) = _
      rw [if_pos h]
    by_cases h' : 0 < lv + dl c
    · obtain ⟨e, h1, h2, h3, h4⟩ := endB_ok r (lv + dl c) h' (by omega)
      refine ⟨e + 1, by rw [e0, h1]; rfl, by simp; omega, ?_, fun j hj => ?_⟩
      · rw [List.take_succ_cons, sm_cons]; omega
      · cases j with
        | zero => simp [sm]; exact h
        | succ j =>
          rw [List.take_succ_cons, sm_cons]
          have := h4 j (by omega)
          omega
    · refine ⟨1, ?_, by simp, ?_, fun j hj => ?_⟩
      · rw [e0]
        have : endB (lv + dl c) r = some 0 := by
          cases r with
          | nil => show (if _ then _ else _) = _; rw [if_neg h']
          | cons d r => show (if _ then _ else _) = _; rw [if_neg h']
        rw [this]
        rfl
      · rw [List.take_succ_cons, List.take_zero, sm_cons, sm_nil]; omega
      · have : j = 0 := by omega
        subst this
        simp [sm]; exact h
/-- no suffix stands above -/
def Dn (s : List Nat) : Prop := ∀ a b, s = a ++ b → sm b ≤ 0
def Mx (k : Nat) (s : List Nat) : Prop := ∀ a b, s = a ++ b → sm a ≤ k
def Good (k : Nat) (s : List Nat) : Prop := tx s ∧ (s.take 1 = [91] → Dn s ∧ Mx k s)
def scanW (s : List Nat) : Nat := match s with
  | [] => 0
  | c :: r => if c = 32 ∨ c = 93 then 0 else scanW r + 1
def endT (s : List Nat) : Nat := if s.take 1 = [91] then 1 + (endB 1 s.tail).getD 0 else scanW s
theorem scan_le : ∀ s : List Nat, scanW s ≤ s.length
  | [] => Nat.le_refl _
  | c :: r => by
    have := scan_le r
    unfold scanW
    split
    · exact Nat.zero_le _
    · simp; omega
/-- what stands within: levels from 0 to k, each suffix not above -/
structure Ins (k : Nat) (s : List Nat) : Prop where
  tx : tx s
  pos : ∀ a b, s = a ++ b → 0 ≤ sm a
  mx : Mx k s
  dn : Dn s
theorem Ins.suf {k : Nat} {s a b : List Nat} (h : Ins k s) (e : s = a ++ b) : Good k b := by
  have h0 := h.pos a b e
  refine ⟨h.tx.sub ⟨by rw [e]; simp, fun c hc => by rw [e]; simp; exact .inr hc⟩, fun _ => ⟨fun u v q => h.dn (a ++ u) v (by rw [e, q, List.append_assoc]), fun u v q => ?_⟩⟩
  have := h.mx (a ++ u) v (by rw [e, q, List.append_assoc])
  rw [sm_app] at this
  omega
theorem d91 : dl 91 = 1 := by decide
theorem dn_tail {r : List Nat} (h : Dn (91 :: r)) : 1 + sm r ≤ 0 := by
  have := h [] (91 :: r) rfl
  rw [sm_cons, d91] at this
  exact this
theorem starts {s : List Nat} (h : s.take 1 = [91]) : ∃ r, s = 91 :: r := by
  cases s with
  | nil => cases h
  | cons c r => cases h; exact ⟨r, rfl⟩
/-- the first balanced part -/
theorem good_take {k : Nat} {s : List Nat} (h : Good k s) : Good k (s.take (endT s)) := by
  by_cases q : s.take 1 = [91]
  · obtain ⟨r, rfl⟩ := starts q
    obtain ⟨hd, hm⟩ := h.2 q
    obtain ⟨e, h1, h2, h3, h4⟩ := endB_ok r 1 (by decide) (dn_tail hd)
    have e1 : endT (91 :: r) = e + 1 := by
      unfold endT
      rw [if_pos q, List.tail_cons, h1]
      show 1 + e = e + 1
      omega
    rw [e1, List.take_succ_cons]
    refine ⟨h.1.sub ⟨by simp; omega, fun c hc => by
      rcases List.mem_cons.mp hc with rfl | hc
      · exact List.mem_cons_self ..
      · exact List.mem_cons_of_mem _ (List.take_subset _ _ hc)⟩, fun _ => ⟨fun a b q => ?_, fun a b q => ?_⟩⟩
    · cases a with
      | nil =>
        rw [List.nil_append] at q
        rw [← q, sm_cons, d91]
        omega
      | cons c a =>
        rw [List.cons_append] at q
        have q3 := (List.cons.inj q).2
        have hc := (List.cons.inj q).1
        subst hc
        clear q
        have q := q3
        by_cases hb : b = []
        · rw [hb, sm_nil]; decide
        · have hlen := congrArg List.length q
          rw [List.length_take, List.length_append] at hlen
          have hbl : 0 < b.length := List.length_pos_iff.mpr hb
          have ha : a = r.take a.length := by
            have := congrArg (List.take a.length) q
            rw [List.take_take, List.take_left'] at this
            · rw [show min a.length e = a.length by omega] at this; exact this.symm
            · rfl
          have := h4 a.length (by omega)
          rw [← ha] at this
          have h5 := congrArg sm q
          rw [sm_app] at h5
          omega
    · refine hm a (b ++ r.drop e) ?_
      rw [← List.append_assoc, ← q, List.cons_append, List.take_append_drop]
  · refine ⟨h.1.sub (sub_take _ _), fun q2 => ?_⟩
    exfalso
    apply q
    rw [List.take_take] at q2
    cases hn : endT s with
    | zero => rw [hn] at q2; simp at q2
    | succ m => rw [hn, show min 1 (m + 1) = 1 by omega] at q2; exact q2
/-- within the whole -/
theorem ins_mid {k : Nat} {s : List Nat} (h : Good (k + 1) s) (q : s.take 1 = [91]) (he : endT s = s.length) : Ins k (s.tail.dropLast) := by
  obtain ⟨r, rfl⟩ := starts q
  obtain ⟨hd, hm⟩ := h.2 q
  obtain ⟨e, h1, h2, h3, h4⟩ := endB_ok r 1 (by decide) (dn_tail hd)
  have e1 : endT (91 :: r) = e + 1 := by
    unfold endT
    rw [if_pos q, List.tail_cons, h1]
    show 1 + e = e + 1
    omega
  rw [e1, List.length_cons] at he
  have he : e = r.length := by omega
  subst he
  rw [List.take_length] at h3
  rw [List.tail_cons]
  have hne : r ≠ [] := fun z => by rw [z] at h3; simp [sm] at h3
  have hr : r = r.dropLast ++ [r.getLast hne] := (List.dropLast_concat_getLast hne).symm
  have hpos : ∀ a b, r.dropLast = a ++ b → 0 ≤ sm a := fun a b q => by
    have hlen := congrArg List.length q
    rw [List.length_dropLast, List.length_append] at hlen
    have hl := List.length_pos_iff.mpr hne
    have ha : a = r.take a.length := by
      have e2 : r = a ++ (b ++ [r.getLast hne]) := by rw [← List.append_assoc, ← q]; exact hr
      have := congrArg (List.take a.length) e2
      rw [List.take_left'] at this
      · exact this.symm
      · rfl
    have := h4 a.length (by omega)
    rw [← ha] at this
    omega
  refine ⟨h.1.sub ⟨by simp; omega, fun c hc => List.mem_cons_of_mem _ (List.dropLast_subset _ hc)⟩, hpos, fun a b q => ?_, fun a b q => ?_⟩
  · have := hm (91 :: a) (b ++ [r.getLast hne]) (by rw [List.cons_append, ← List.append_assoc, ← q, ← hr])
    rw [sm_cons, d91] at this
    omega
  · have h5 := hpos a b q
    have h6 := hpos r.dropLast [] (by simp)
    have h7 := congrArg sm hr
    rw [sm_app, sm_cons, sm_nil] at h7
    have h8 : sm r.dropLast = sm a + sm b := by rw [q, sm_app]
    have h9 := dl_r (r.getLast hne)
    omega
end K75
end
section
set_option Elab.async false
set_option linter.all false
set_option autoImplicit false
set_option maxRecDepth 100000
set_option maxHeartbeats 0
namespace K75
open PySem PySem.Spec PyProof.Rows L2 Tg
local macro_rules | `(tactic| walk_at "es") => `(tactic| try simp only [st0, st1, st2, st3, st4, evS, ev, evO, dSeqS, dSkip, dExpr, dRet, dRetN, dIfS, dAsg, dC, dNil, dCons, consV, dTup, dLst, dB1, dB2, dChain, dIte, dAnd, dOr, dNot, dCall,
  dCutL, dCutH, dCutB, dM1, dIx, dSeq, dSrc, dLc, dFor, dPar2, oCons, oNil, wipeE, opF, cmF, u1F, u2F, m1F, isiN, rngF, Tgt.put, List.set, List.headD_cons, List.tail_cons,
  bnd_ok, bnd_bad, bnd_exc, okv_s, onBl_b, onI_i, onS_s, onT_s, tst_b, tstS_b, okE_s, outF_rt, outF_nx, outF_exc, seqK_nx, seqK_rt, okL_s, asL_l, okN0, okN1, okN2, okN3, okN4, okN5, v0, v1, v2, v3, v4, v5, v6, v7, v8, v9, v10, v11,
  isi1, isi2, isi3, isi4, isi5, iss1, iss2, iss3, iss4, iss5, ist1, ist2, ist3, ist4, ist5, isn1, isn2, isn3, isb5, len_t, len_l, lt_i, le_i, gt_i, ge_i, eq_i, ne_i, eq_s, ne_s, lt_s, add_i, sub_i, neg_i, is_non, is_t, is_s, is_i, isn_non, isn_t, isn_s, isn_i,
  at_t0, at_t1, at_t2, at_t3, at_t4, ixt, ixl, ixs, sq_t, sq_l, sq_s, tup_l, in_c, nin_c, and_bl, or_bl, ite_ok, ret_ok, guard_ok, ib_and, ib_or, ib_f, nc0, nc1, nc2, nc3, nc4, nc5, nc6, Int.reduceLE, Int.reduceLT, Int.reduceEq, decide_true, decide_false, Int.le_refl, Int.lt_irrefl,
  List.length_cons, List.length_nil, List.replicate, List.cons_append, List.nil_append, Nat.add_zero, Nat.zero_add, Nat.reduceAdd, Nat.reduceSub, Option.getD_some, Option.getD_none, Bool.not_false, Bool.not_true, Bool.true_or, Bool.false_or, Bool.true_and, Bool.false_and, Bool.and_true, Bool.or_true, Bool.or_false, if_true, if_false, Bool.false_eq_true, ite_true, ite_false])
theorem aug1 {f : PV → PV → Option PV} {d : Den} {a : Sl} {v w u : PV} {r : Tg.Env} {S : Store} (h : d (a :: .val v :: r) S = .ok u S) (hf : f v u = some w) : dAug 1 f d (a :: .val v :: r) S = .ok (.nx (a :: .val w :: r)) S := by
  unfold dAug
  rw [show isSet (look (a :: .val v :: r) 1) = true from rfl, if_pos rfl, h, bnd_ok, show look (a :: .val v :: r) 1 = .val v from rfl]
  simp only
  rw [hf]
  rfl
theorem aug2 {f : PV → PV → Option PV} {d : Den} {a b : Sl} {v w u : PV} {r : Tg.Env} {S : Store} (h : d (a :: b :: .val v :: r) S = .ok u S) (hf : f v u = some w) : dAug 2 f d (a :: b :: .val v :: r) S = .ok (.nx (a :: b :: .val w :: r)) S := by
  unfold dAug
  rw [show isSet (look (a :: b :: .val v :: r) 2) = true from rfl, if_pos rfl, h, bnd_ok, show look (a :: b :: .val v :: r) 2 = .val v from rfl]
  simp only
  rw [hf]
  rfl
theorem aug3 {f : PV → PV → Option PV} {d : Den} {a b c : Sl} {v w u : PV} {r : Tg.Env} {S : Store} (h : d (a :: b :: c :: .val v :: r) S = .ok u S) (hf : f v u = some w) : dAug 3 f d (a :: b :: c :: .val v :: r) S = .ok (.nx (a :: b :: c :: .val w :: r)) S := by
  unfold dAug
  rw [show isSet (look (a :: b :: c :: .val v :: r) 3) = true from rfl, if_pos rfl, h, bnd_ok, show look (a :: b :: c :: .val v :: r) 3 = .val v from rfl]
  simp only
  rw [hf]
  rfl
theorem int_b {b : Bool} : uInt (.bl b) = some (.int (if b = true then 1 else 0)) := rfl
theorem dl_b (c : Nat) : (if decide ([c] = [91]) = true then (1 : Int) else 0) - (if decide ([c] = [93]) = true then 1 else 0) = dl c := by
  unfold dl
  simp
def nest : Int → List Nat → Bool
  | lv, [] => decide (lv = 0)
  | lv, c :: r => (decide (0 ≤ lv + dl c) && decide (lv + dl c ≤ 40)) && nest (lv + dl c) r
theorem s_is_nested (n : Nat) (S : Store) (s : List Nat) : C (n + 1) i_is_nested [.str s] S = .ok (.bl (nest 0 s)) S := by
  rw [cc rfl n _ S rfl]
  walk_at "es"
  have key : ∀ (l : List Nat) (lv : Int) (g : Sl), outF ((forGo (.name 2) (evS (Pn n) (.seq (.aug 1 0 (.bin 1 (.u1 9 (.cmp 4 (.var 2) (.c (.str [91])))) (.u1 9 (.cmp 4 (.var 2) (.c (.str [93])))))) (.seq (.iff (.not (.chain 1 1 (.c (.int 0)) (.var 1) (.g 12))) (.seq (.ret (.c (.bl false))) (.skip)) (.skip)) (.skip)))) (Tg.signs l) [.val (.str s), .val (.int lv), g] S).bnd (seqK (evS (Pn n) (.seq (.ret (.cmp 4 (.var 1) (.c (.int 0)))) (.skip))))) = .ok (.bl (nest lv l)) S := by
    intro l
    induction l with
    | nil =>
      intro lv g
      unfold Tg.signs
      rw [List.map_nil]
      unfold forGo
      walk_at "es"
      try rfl
    | cons c r ih =>
      intro lv g
      unfold Tg.signs at ih ⊢
      rw [List.map_cons]
      unfold forGo
      simp only [Tgt.put, List.set]
      have hb : evS (Pn n) (.seq (.aug 1 0 (.bin 1 (.u1 9 (.cmp 4 (.var 2) (.c (.str [91])))) (.u1 9 (.cmp 4 (.var 2) (.c (.str [93])))))) (.seq (.iff (.not (.chain 1 1 (.c (.int 0)) (.var 1) (.g 12))) (.seq (.ret (.c (.bl false))) (.skip)) (.skip)) (.skip))) [.val (.str s), .val (.int lv), .val (.str [c])] S = if (decide (0 ≤ lv + dl c) && decide (lv + dl c ≤ 40)) = true then .ok (.nx [.val (.str s), .val (.int (lv + dl c)), .val (.str [c])]) S else .ok (.rt (.bl false)) S := by
        walk_at "es"
        rw [aug1 (w := .int (lv + dl c)) (u := .int (dl c)) (by
          walk_at "es"
          rw [int_b, int_b]
          walk_at "es"
          rw [dl_b]) rfl]
        walk_at "es"
        rw [g12]
        walk_at "es"
        cases (decide (0 ≤ lv + dl c) && decide (lv + dl c ≤ 40)) <;> rfl
      rw [hb]
      unfold nest
      cases (decide (0 ≤ lv + dl c) && decide (lv + dl c ≤ 40)) with
      | false => rfl
      | true =>
        simp only [if_true, bnd_ok, whK, Bool.true_and]
        exact ih _ _
  have := key s 0 .no
  simp only [evS, ev, opF, cmF, u1F] at this
  exact this
theorem nest_ok : ∀ (s : List Nat) (lv : Int), nest lv s = true → lv + sm s = 0 ∧ ∀ a b, s = a ++ b → a ≠ [] → 0 ≤ lv + sm a ∧ lv + sm a ≤ 40
  | [], lv, h => by
    unfold nest at h
    refine ⟨by rw [sm_nil]; simpa using h, fun a b e hne => ?_⟩
    have : a = [] := by
      cases a with
      | nil => rfl
      | cons => simp at e
    exact (hne this).elim
  | c :: r, lv, h => by
    unfold nest at h
    simp only [Bool.and_eq_true, decide_eq_true_eq] at h
    obtain ⟨h1, h2⟩ := nest_ok r (lv + dl c) h.2
    refine ⟨by rw [sm_cons]; omega, fun a b e hne => ?_⟩
    cases a with
    | nil => exact (hne rfl).elim
    | cons d a =>
      rw [List.cons_append] at e
      have e3 := (List.cons.inj e).2
      have hc := (List.cons.inj e).1
      subst hc
      clear e
      have e := e3
      rw [sm_cons]
      by_cases ha : a = []
      · subst ha; rw [sm_nil]; omega
      · have := h2 a b e ha; omega
theorem nest_good {s : List Nat} (hs : tx s) (h : nest 0 s = true) : Good 40 s := by
  obtain ⟨h1, h2⟩ := nest_ok s 0 h
  have hp : ∀ a b, s = a ++ b → 0 ≤ sm a ∧ sm a ≤ 40 := fun a b e => by
    by_cases ha : a = []
    · subst ha; rw [sm_nil]; decide
    · have := h2 a b e ha; omega
  refine ⟨hs, fun _ => ⟨fun a b e => ?_, fun a b e => (hp a b e).2⟩⟩
  have := (hp a b e).1
  rw [e, sm_app] at h1
  omega
/-! ### the end of a part -/
theorem at_sn {s pre r : List Nat} {c : Nat} (hs : s.length ≤ sizeLine) (h : s = pre ++ c :: r) : vIdx (.str s) (.int (pre.length : Int)) = some (.str [c]) := by
  show (if _ then _ else _) = _
  rw [if_pos hs]
  unfold atC
  rw [if_pos (by omega), h, show ((pre.length : Nat) : Int).toNat = pre.length from rfl, List.getElem?_append_right (Nat.le_refl _), Nat.sub_self]
  rfl
theorem cut01 (s : List Nat) : cutP s (some 0) (some (0 + 1)) = s.take 1 := by
  unfold cutP sPl
  simp
  try (rw [List.take_eq_take_iff]; omega)
theorem scanW_c (c : Nat) (r : List Nat) : scanW (c :: r) = if c = 32 ∨ c = 93 then 0 else scanW r + 1 := rfl
theorem wh_scan (n : Nat) (S : Store) {s : List Nat} (hs : s.length ≤ sizeLine) : ∀ (rest pre : List Nat) (fuel : Nat), s = pre ++ rest → rest.length < fuel →
    dWh (ev (Pn n) (.and (.cmp 0 (.var 2) (.u1 0 (.var 0))) (.one (.cmp 7 (.ix (.var 0) (.var 2)) (.c (.str [32, 93])))))) (evS (Pn n) (.seq (.aug 2 0 (.c (.int 1))) (.skip))) fuel [.val (.str s), .val (.int 0), .val (.int (pre.length : Int)), .no] S =
      .ok (.nx [.val (.str s), .val (.int 0), .val (.int ((pre.length + scanW rest : Nat) : Int)), .no]) S
  | rest, pre, 0, _, hf => by omega
  | [], pre, fuel + 1, e, _ => by
    unfold dWh
    walk_at "es"
    rw [len_s hs]
    walk_at "es"
    rw [decide_eq_false (by rw [e]; simp)]
    walk_at "es"
    try rfl
  | c :: r, pre, fuel + 1, e, hf => by
    unfold dWh
    walk_at "es"
    rw [len_s hs]
    walk_at "es"
    rw [decide_eq_true (show (pre.length : Int) < (s.length : Int) by rw [e]; simp; omega)]
    walk_at "es"
    rw [at_sn hs e]
    walk_at "es"
    by_cases hc : c = 32 ∨ c = 93
    · rw [decide_eq_true (show c ∈ [32, 93] by simpa using hc), scanW_c, if_pos hc]
      walk_at "es"
      try rfl
    · rw [decide_eq_false (show ¬ c ∈ [32, 93] by simpa using hc), scanW_c, if_neg hc]
      walk_at "es"
      rw [aug2 (w := .int ((pre.length : Int) + 1)) (u := .int 1) rfl rfl]
      walk_at "es"
      have ih := wh_scan n S hs r (pre ++ [c]) fuel (by rw [e]; simp) (by simp at hf; omega)
      rw [List.length_append, List.length_singleton] at ih
      simp only [whK]
      rw [show ((pre.length : Int) + 1) = ((pre.length + 1 : Nat) : Int) by omega, show pre.length + (scanW r + 1) = pre.length + 1 + scanW r by omega]
      simp only [evS, ev, opF, cmF, u1F, dSeqS, dSkip] at ih
      exact ih
theorem endB_c (lv : Int) (c : Nat) (r : List Nat) : endB lv (c :: r) = if 0 < lv then (endB (lv + dl c) r).map (· + 1) else some 0 := rfl
theorem wh_end (n : Nat) (S : Store) {s : List Nat} (hs : s.length ≤ sizeLine) : ∀ (rest pre : List Nat) (lv : Int) (e fuel : Nat), endB lv rest = some e → s = pre ++ rest → rest.length < fuel →
    ∃ lv' : Int, dWh (ev (Pn n) (.cmp 2 (.var 3) (.c (.int 0)))) (evS (Pn n) (.seq (.aug 3 0 (.bin 1 (.u1 9 (.cmp 4 (.ix (.var 0) (.var 2)) (.c (.str [91])))) (.u1 9 (.cmp 4 (.ix (.var 0) (.var 2)) (.c (.str [93])))))) (.seq (.aug 2 0 (.c (.int 1))) (.skip)))) fuel [.val (.str s), .val (.int 0), .val (.int (pre.length : Int)), .val (.int lv)] S =
      .ok (.nx [.val (.str s), .val (.int 0), .val (.int ((pre.length + e : Nat) : Int)), .val (.int lv')]) S
  | rest, pre, lv, e, 0, _, _, hf => by omega
  | [], pre, lv, e, fuel + 1, he, q, _ => by
    have : ¬ 0 < lv ∧ e = 0 := by
      unfold endB at he
      split at he
      · cases he
      · rename_i h; cases he; exact ⟨h, rfl⟩
    obtain ⟨h, rfl⟩ := this
    refine ⟨lv, ?_⟩
    unfold dWh
    walk_at "es"
    rw [decide_eq_false h]
    walk_at "es"
    try rfl
  | c :: r, pre, lv, e, fuel + 1, he, q, hf => by
    rw [endB_c] at he
    by_cases h : 0 < lv
    · rw [if_pos h] at he
      cases hr : endB (lv + dl c) r with
      | none => rw [hr] at he; cases he
      | some e' =>
        rw [hr] at he
        cases he
        obtain ⟨lv', ih⟩ := wh_end n S hs r (pre ++ [c]) (lv + dl c) e' fuel hr (by rw [q]; simp) (by simp at hf; omega)
        refine ⟨lv', ?_⟩
        unfold dWh
        walk_at "es"
        rw [decide_eq_true h]
        walk_at "es"
        rw [aug3 (w := .int (lv + dl c)) (u := .int (dl c)) (by
          walk_at "es"
          rw [at_sn hs q]
          walk_at "es"
          rw [int_b, int_b]
          walk_at "es"
          rw [dl_b]) rfl]
        walk_at "es"
        rw [aug2 (w := .int ((pre.length : Int) + 1)) (u := .int 1) rfl rfl]
        walk_at "es"
        rw [List.length_append, List.length_singleton] at ih
        simp only [whK]
        rw [show ((pre.length : Int) + 1) = ((pre.length + 1 : Nat) : Int) by omega, show pre.length + (e' + 1) = pre.length + 1 + e' by omega]
        simp only [evS, ev, opF, cmF, u1F, dSeqS, dSkip] at ih
        exact ih
    · rw [if_neg h] at he
      cases he
      refine ⟨lv, ?_⟩
      unfold dWh
      walk_at "es"
      rw [decide_eq_false h]
      walk_at "es"
      try rfl
theorem s_tree_end (n : Nat) (S : Store) {s : List Nat} (hs : tx s) (h : s.take 1 = [91] → Dn s) : C (n + 1) i_tree_end [.str s, .int 0] S = .ok (.int (endT s : Int)) S := by
  rw [cc rfl n _ S rfl]
  walk_at "es"
  rw [cutS hs.le, cut01]
  walk_at "es"
  have hf : s.length < 1000000000 := by have := hs.1; omega
  unfold endT
  by_cases q : s.take 1 = [91]
  · rw [decide_eq_true q, if_pos q]
    obtain ⟨r, rfl⟩ := starts q
    obtain ⟨e, h1, h2, h3, h4⟩ := endB_ok r 1 (by decide) (dn_tail (h q))
    rw [List.tail_cons, h1]
    walk_at "es"
    obtain ⟨lv', hw⟩ := wh_end n S hs.le r [91] 1 e 1000000000 h1 rfl (by simp at hf; omega)
    simp only [evS, ev, opF, cmF, u1F, dSeqS, dSkip] at hw
    rw [show (([91] : List Nat).length : Int) = 1 from rfl] at hw
    rw [show (0 : Int) + 1 = 1 from rfl, hw]
    walk_at "es"
    try rfl
  · rw [decide_eq_false q, if_neg q]
    walk_at "es"
    have hw := wh_scan n S hs.le s [] 1000000000 rfl hf
    simp only [evS, ev, opF, cmF, u1F, dSeqS, dSkip] at hw
    rw [show (([] : List Nat).length : Int) = 0 from rfl] at hw
    rw [hw]
    walk_at "es"
    try rw [List.length_nil, Nat.zero_add]
end K75
end
section
set_option Elab.async false
set_option linter.all false
set_option autoImplicit false
set_option maxRecDepth 100000
set_option maxHeartbeats 0
namespace K75
open PySem PySem.Spec PyProof.Rows L2 Tg
local macro_rules | `(tactic| walk_at "es") => `(tactic| try simp only [st0, st1, st2, st3, st4, evS, ev, evO, dSeqS, dSkip, dExpr, dRet, dRetN, dIfS, dAsg, dC, dNil, dCons, consV, dTup, dLst, dB1, dB2, dChain, dIte, dAnd, dOr, dNot, dCall,
  dCutL, dCutH, dCutB, dM1, dIx, dSeq, dSrc, dLc, dFor, dPar2, oCons, oNil, wipeE, opF, cmF, u1F, u2F, m1F, isiN, rngF, Tgt.put, List.set, List.headD_cons, List.tail_cons,
  bnd_ok, bnd_bad, bnd_exc, okv_s, onBl_b, onI_i, onS_s, onT_s, tst_b, tstS_b, okE_s, outF_rt, outF_nx, outF_exc, seqK_nx, seqK_rt, okL_s, asL_l, okN0, okN1, okN2, okN3, okN4, okN5, v0, v1, v2, v3, v4, v5, v6, v7, v8, v9, v10, v11,
  isi1, isi2, isi3, isi4, isi5, iss1, iss2, iss3, iss4, iss5, ist1, ist2, ist3, ist4, ist5, isn1, isn2, isn3, isb5, len_t, len_l, lt_i, le_i, gt_i, ge_i, eq_i, ne_i, eq_s, ne_s, lt_s, add_i, sub_i, neg_i, is_non, is_t, is_s, is_i, isn_non, isn_t, isn_s, isn_i,
  at_t0, at_t1, at_t2, at_t3, at_t4, ixt, ixl, ixs, sq_t, sq_l, sq_s, tup_l, in_c, nin_c, and_bl, or_bl, ite_ok, ret_ok, guard_ok, ib_and, ib_or, ib_f, nc0, nc1, nc2, nc3, nc4, nc5, nc6, Int.reduceLE, Int.reduceLT, Int.reduceEq, decide_true, decide_false, Int.le_refl, Int.lt_irrefl,
  List.length_cons, List.length_nil, List.replicate, List.cons_append, List.nil_append, Nat.add_zero, Nat.zero_add, Nat.reduceAdd, Nat.reduceSub, Option.getD_some, Option.getD_none, Bool.not_false, Bool.not_true, Bool.true_or, Bool.false_or, Bool.true_and, Bool.false_and, Bool.and_true, Bool.or_true, Bool.or_false, if_true, if_false, Bool.false_eq_true, ite_true, ite_false])
inductive Tree where
  | leaf (g : Sign) (t : List Nat) | node (g : Sign) (a b : Tree)
def eTree : Tree → PV
  | .leaf g t => .tup [eSign g, .str t]
  | .node g a b => .tup [eSign g, eTree a, eTree b]
def leafF (s : List Nat) : Option Tree := match catF (parP [58] s).p with
  | none => none
  | some g => if txB tagS 1 80 (parP [58] s).q = true then some (.leaf g (parP [58] s).q) else none
def mid (s : List Nat) : List Nat := s.tail.dropLast
def treeF : Nat → List Nat → Option Tree
  | 0, s => if s.take 1 = [91] then none else leafF s
  | k + 1, s => if s.take 1 = [91] then (if endT s = s.length then (match catF (parP [32] (mid s)).p with
      | none => none
      | some g => if ((parP [32] (mid s)).q.drop (endT (parP [32] (mid s)).q)).take 1 = [32] then (match treeF k ((parP [32] (mid s)).q.take (endT (parP [32] (mid s)).q)), treeF k ((parP [32] (mid s)).q.drop (endT (parP [32] (mid s)).q + 1)) with
        | some a, some b => some (.node g a b)
        | _, _ => none) else none) else none) else leafF s
theorem is_tr {t : Tree} : vIs (eTree t) .non = some (.bl false) := by cases t <;> rfl
theorem isn_tr {t : Tree} : vIsN (eTree t) .non = some (.bl true) := by cases t <;> rfl
theorem cut_pre (s : List Nat) : cutP s none (some 1) = s.take 1 := by
  unfold cutP sPl
  simp
  try (rw [List.take_eq_take_iff]; omega)
theorem cut_mid (s : List Nat) : cutP s (some 1) (some (-1)) = mid s := by
  unfold cutP sPl mid
  simp only [if_pos (show (-1 : Int) < 0 by decide), if_neg (show ¬ (1 : Int) < 0 by decide)]
  cases s with
  | nil => rfl
  | cons c r =>
    rw [List.tail_cons, List.dropLast_eq_take]
    simp only [List.length_cons]
    rw [show min (1 : Int).toNat (r.length + 1) = 1 by simp; try omega, List.drop_succ_cons, List.drop_zero]
    congr 1
    omega
theorem cut_to (s : List Nat) (k : Nat) (h : k ≤ s.length) : cutP s none (some (k : Int)) = s.take k := by
  unfold cutP sPl
  simp only [if_neg (show ¬ (k : Int) < 0 by omega), List.drop_zero, Nat.sub_zero, Int.toNat_natCast]
  rw [Nat.min_eq_left h]
theorem cut_from (s : List Nat) (k : Nat) : cutP s (some ((k : Int) + 1)) none = s.drop (k + 1) := by
  unfold cutP sPl
  simp only [if_neg (show ¬ ((k : Int) + 1) < 0 by omega)]
  rw [show ((k : Int) + 1).toNat = k + 1 by omega]
  rw [List.take_of_length_le (by rw [List.length_drop]; omega)]
  by_cases h : k + 1 ≤ s.length
  · rw [Nat.min_eq_left h]
  · rw [Nat.min_eq_right (by omega), List.drop_length, List.drop_eq_nil_of_le (by omega)]
theorem cut_one (s : List Nat) (k : Nat) : cutP s (some (k : Int)) (some ((k : Int) + 1)) = (s.drop k).take 1 := by
  unfold cutP sPl
  simp only [if_neg (show ¬ (k : Int) < 0 by omega), if_neg (show ¬ ((k : Int) + 1) < 0 by omega), Int.toNat_natCast]
  rw [show ((k : Int) + 1).toNat = k + 1 by omega]
  by_cases h : k + 1 ≤ s.length
  · rw [Nat.min_eq_left h, Nat.min_eq_left (by omega)]
    congr 1
    omega
  · rw [Nat.min_eq_right (show s.length ≤ k + 1 by omega)]
    by_cases h2 : k ≤ s.length
    · have : k = s.length := by omega
      subst this
      simp
    · rw [Nat.min_eq_right (show s.length ≤ k by omega), List.drop_length, List.drop_eq_nil_of_le (show s.length ≤ k by omega)]
      simp
theorem endT_le {s : List Nat} (h : s.take 1 = [91] → Dn s) : endT s ≤ s.length := by
  unfold endT
  by_cases q : s.take 1 = [91]
  · rw [if_pos q]
    obtain ⟨r, rfl⟩ := starts q
    obtain ⟨e, h1, h2, h3, h4⟩ := endB_ok r 1 (by decide) (dn_tail (h q))
    rw [List.tail_cons, h1]
    simp
    omega
  · rw [if_neg q]; exact scan_le s
theorem parP_suf (z a : List Nat) : ∃ u, a = u ++ (parP z a).q := by
  unfold parP
  cases e : TL.par z [] a with
  | none => exact ⟨a, by simp⟩
  | some x =>
    obtain ⟨u, h1, h2⟩ := par_eq (p := x.1) (q := x.2) e
    exact ⟨u ++ z, by simp only; rw [List.append_assoc]; exact h2⟩
theorem Good.q {k : Nat} {s : List Nat} (h : Ins k s) : Good k (parP [32] s).q := by
  obtain ⟨u, e⟩ := parP_suf [32] s
  exact h.suf e
theorem Good.d {k : Nat} {s : List Nat} (h : Ins k s) (m : Nat) : Good k ((parP [32] s).q.drop m) := by
  obtain ⟨u, e⟩ := parP_suf [32] s
  exact h.suf (a := u ++ (parP [32] s).q.take m) (by rw [List.append_assoc, List.take_append_drop]; exact e)
theorem s_leaf (n : Nat) (S : Store) {s : List Nat} (hs : tx s) (h : ¬ s.take 1 = [91]) : C (n + 5) i_tree_in [.str s] S = .ok (eO eTree (leafF s)) S := by
  rw [cc rfl (n + 4) _ S rfl]
  walk_at "es"
  rw [cutS hs.le, cut_pre]
  walk_at "es"
  rw [decide_eq_false h]
  walk_at "es"
  rw [part_s rfl hs]
  walk_at "es"
  rw [s_category_from n S (hs.sub (parP_p _ _))]
  walk_at "es"
  unfold leafF
  cases catF (parP [58] s).p with
  | none => simp only [eO]; walk_at "es"
  | some g =>
    simp only [eO]
    rw [is_g]
    walk_at "es"
    rw [s_is_tag (n + 2) S (hs.sub (parP_q _ _)).le]
    walk_at "es"
    cases txB tagS 1 80 (parP [58] s).q <;> rfl
theorem s_tree_in : ∀ (k n : Nat) (S : Store) {s : List Nat}, Good k s → C (n + 5 + k) i_tree_in [.str s] S = .ok (eO eTree (treeF k s)) S
  | 0, n, S, s, hg => by
    unfold treeF
    by_cases q : s.take 1 = [91]
    · exfalso
      obtain ⟨r, rfl⟩ := starts q
      have := (hg.2 q).2 [91] r rfl
      rw [sm_cons, sm_nil, d91] at this
      omega
    · rw [if_neg q]
      exact s_leaf n S hg.1 q
  | k + 1, n, S, s, hg => by
    have hs := hg.1
    unfold treeF
    by_cases q : s.take 1 = [91]
    case neg =>
      rw [if_neg q, show n + 5 + (k + 1) = (n + (k + 1)) + 5 by omega]
      exact s_leaf (n + (k + 1)) S hs q
    rw [if_pos q, show n + 5 + (k + 1) = (n + 5 + k) + 1 by omega, cc rfl (n + 5 + k) _ S rfl]
    walk_at "es"
    rw [cutS hs.le, cut_pre]
    walk_at "es"
    rw [decide_eq_true q]
    walk_at "es"
    have hgd : s.take 1 = [91] → Dn s := fun q => (hg.2 q).1
    have te := fun {w : List Nat} (hw : tx w) (h : w.take 1 = [91] → Dn w) => s_tree_end (n + 4 + k) S hw h
    rw [show n + 5 + k = n + 4 + k + 1 by omega]
    rw [te hs hgd]
    walk_at "es"
    rw [len_s hs.le]
    walk_at "es"
    by_cases he : endT s = s.length
    case neg =>
      rw [if_neg he, decide_eq_false (show ¬ ((endT s : Nat) : Int) = (s.length : Int) by omega)]
      walk_at "es"
      rfl
    rw [if_pos he, decide_eq_true (show ((endT s : Nat) : Int) = (s.length : Int) by omega)]
    walk_at "es"
    rw [cutS hs.le, cut_mid]
    walk_at "es"
    have hi : Ins k (mid s) := ins_mid hg q he
    rw [part_s rfl hi.tx]
    walk_at "es"
    have hq := Good.q hi
    rw [show n + 4 + k + 1 = n + k + 1 + 4 by omega, s_category_from (n + k + 1) S (hi.tx.sub (parP_p _ _))]
    walk_at "es"
    rw [show n + k + 1 + 4 = n + 4 + k + 1 by omega, te hq.1 (fun z => (hq.2 z).1)]
    walk_at "es"
    cases catF (parP [32] (mid s)).p with
    | none => simp only [eO]; walk_at "es"; try rfl
    | some g =>
      simp only [eO]
      rw [is_g]
      walk_at "es"
      rw [cutS hq.1.le, cut_one]
      walk_at "es"
      by_cases hb : ((parP [32] (mid s)).q.drop (endT (parP [32] (mid s)).q)).take 1 = [32]
      case neg =>
        rw [if_neg hb, decide_eq_false hb]
        walk_at "es"
        try rfl
      rw [if_pos hb, decide_eq_true hb]
      walk_at "es"
      rw [cutS hq.1.le, cut_to _ _ (endT_le fun z => (hq.2 z).1)]
      walk_at "es"
      have t1 := s_tree_in k n S (good_take hq)
      have t2 := s_tree_in k n S (Good.d hi (endT (parP [32] (mid s)).q + 1))
      rw [show n + 4 + k + 1 = n + 5 + k by omega, t1]
      walk_at "es"
      rw [cutS hq.1.le, cut_from]
      walk_at "es"
      rw [t2]
      walk_at "es"
      cases treeF k ((parP [32] (mid s)).q.take (endT (parP [32] (mid s)).q)) with
      | none => simp only [eO]; walk_at "es"; try rfl
      | some a =>
        simp only [eO]
        rw [is_tr]
        walk_at "es"
        cases treeF k ((parP [32] (mid s)).q.drop (endT (parP [32] (mid s)).q + 1)) with
        | none => walk_at "es"; try rfl
        | some b =>
          dsimp only
          rw [is_tr]
          walk_at "es"
          rfl
/-! ### shown -/
def trT : Tree → List Nat
  | .leaf g t => signT g ++ ([58] ++ (t ++ []))
  | .node g a b => [91] ++ (signT g ++ ([32] ++ (trT a ++ ([32] ++ (trT b ++ ([93] ++ []))))))
theorem leafF_s {s : List Nat} (hs : tx s) {t : Tree} (h : leafF s = some t) : ∃ g tag, t = .leaf g tag ∧ sgS g ∧ tx tag ∧ tag.length ≤ 80 ∧ 1 ≤ s.length := by
  unfold leafF at h
  cases hc : catF (parP [58] s).p with
  | none => rw [hc] at h; cases h
  | some g =>
    rw [hc] at h
    simp only at h
    split at h
    · rename_i q
      cases h
      unfold txB at q
      simp only [Bool.and_eq_true, decide_eq_true_eq] at q
      refine ⟨g, _, rfl, catF_s (hs.sub (parP_p _ _)) hc, hs.sub (parP_q _ _), by omega, ?_⟩
      cases s with
      | nil => exact absurd q.1.1 (by decide)
      | cons => simp
    · cases h
theorem tree_show : ∀ (k : Nat) {s : List Nat} {t : Tree}, tx s → treeF k s = some t → (trT t).length ≤ 120 * s.length ∧ Gd (k + 3) (eTree t) ∧ ∀ (n : Nat) (S : Store), C (n + 2 + k) i_show_tree [eTree t] S = .ok (.str (trT t)) S := by
  have leafC : ∀ (k : Nat) {s : List Nat} {t : Tree}, tx s → leafF s = some t → (trT t).length ≤ 120 * s.length ∧ Gd (k + 3) (eTree t) ∧ ∀ (n : Nat) (S : Store), C (n + 2 + k) i_show_tree [eTree t] S = .ok (.str (trT t)) S := fun k {s} {t} hs h => by
    obtain ⟨g, tag, rfl, hg, ht, hl, h1⟩ := leafF_s hs h
    have hT := signT_le hg
    have hlen : (trT (.leaf g tag)).length ≤ 95 := by
      unfold trT
      simp only [List.length_append, List.length_cons, List.length_nil]
      omega
    refine ⟨by omega, ?_, fun n S => ?_⟩
    · exact (gd_tup (k := 2) (fun x hx => by
        simp at hx
        rcases hx with rfl | rfl
        · exact gd_sign hg
        · exact gd_str ht.g)).mono (by omega)
    · rw [show n + 2 + k = (n + k + 1) + 1 by omega, cc rfl (n + k + 1) _ S rfl]
      walk_at "es"
      simp only [eTree]
      walk_at "es"
      rw [js_ok (t := trT (.leaf g tag)) (by
        unfold jCons jNil dFmt
        walk_at "es"
        rw [s_show_sign (n + k) S hg]
        walk_at "es"
        rw [fm_s (sl_of (by omega))]
        walk_at "es"
        rw [fm_s (sl_of (by omega))]
        walk_at "es"
        rfl) (sl_of (Nat.le_trans hlen (by decide)))]
      walk_at "es"
  intro k
  induction k with
  | zero =>
    intro s t hs h
    unfold treeF at h
    split at h
    · cases h
    · exact leafC 0 hs h
  | succ k ih =>
    intro s t hs h
    unfold treeF at h
    split at h
    case isFalse => exact leafC (k + 1) hs h
    rename_i q
    split at h
    case isFalse => cases h
    split at h
    · cases h
    · rename_i g hc
      split at h
      case isFalse => cases h
      rename_i hb
      split at h
      case h_2 => cases h
      rename_i a b ha hb'
      cases h
      have hm : tx (mid s) := hs.sub ⟨by unfold mid; simp; omega, fun c hc => by unfold mid at hc; exact List.mem_of_mem_tail (List.dropLast_subset _ hc)⟩
      have hq := hm.sub (parP_q [32] (mid s))
      have hg : sgS g := catF_s (hm.sub (parP_p [32] (mid s))) hc
      obtain ⟨a1, a2, a3⟩ := ih (hq.sub (sub_take _ _)) ha
      obtain ⟨b1, b2, b3⟩ := ih (hq.sub (sub_drop _ _)) hb'
      have hT := signT_le hg
      have hlen : endT (parP [32] (mid s)).q < (parP [32] (mid s)).q.length := by
        rcases Nat.lt_or_ge (endT (parP [32] (mid s)).q) (parP [32] (mid s)).q.length with h | h
        · exact h
        · rw [List.drop_eq_nil_of_le h] at hb; cases hb
      rw [List.length_take] at a1
      rw [List.length_drop] at b1
      have hml : (mid s).length ≤ s.length - 1 - 1 := by unfold mid; rw [List.length_dropLast, List.length_tail]; omega
      have hql := (parP_q [32] (mid s)).1
      have hsl := hs.1
      have hnl : (trT (.node g a b)).length ≤ 120 * s.length := by
        unfold trT
        simp only [List.length_append, List.length_cons, List.length_nil]
        omega
      refine ⟨hnl, ?_, fun n S => ?_⟩
      · refine gd_tup (k := k + 3) (fun x hx => ?_)
        simp only [List.mem_cons, List.not_mem_nil, or_false] at hx
        rcases hx with rfl | rfl | rfl
        · exact (gd_sign hg).mono (by omega)
        · exact a2
        · exact b2
      · rw [show n + 2 + (k + 1) = (n + 2 + k) + 1 by omega, cc rfl (n + 2 + k) _ S rfl]
        walk_at "es"
        simp only [eTree]
        walk_at "es"
        rw [js_ok (t := trT (.node g a b)) (by
          unfold jCons jNil dFmt
          walk_at "es"
          rw [show n + 2 + k = n + k + 1 + 1 by omega, s_show_sign (n + k + 1) S hg]
          walk_at "es"
          rw [fm_s (sl_of (by omega))]
          walk_at "es"
          rw [show n + k + 1 + 1 = n + 2 + k by omega, a3 n S]
          walk_at "es"
          rw [fm_s (sl_of (by omega))]
          walk_at "es"
          rw [b3 n S]
          walk_at "es"
          rw [fm_s (sl_of (by omega))]
          walk_at "es"
          rfl) (sl_of (by omega))]
        walk_at "es"
def trR (s : List Nat) : Option Tree := if nest 0 s = true then (match treeF 40 s with
  | none => none
  | some t => if trT t = s then some t else none) else none
theorem s_shown_tree (n : Nat) (S : Store) {s : List Nat} (hs : tx s) : C (n + 47) i_shown_tree [.str s] S = .ok (eO eTree (trR s)) S := by
  rw [cc rfl (n + 46) _ S rfl]
  walk_at "es"
  have h51 : C (n + 46) 51 [.str s] S = .ok (eO eTree (if nest 0 s = true then treeF 40 s else none)) S := by
    rw [cc (i := 51) rfl (n + 45) _ S rfl]
    walk_at "es"
    rw [s_is_nested (n + 44) S s]
    walk_at "es"
    cases hn : nest 0 s with
    | false => rfl
    | true =>
      walk_at "es"
      rw [show n + 45 = n + 5 + 40 by omega, s_tree_in 40 n S (nest_good hs hn)]
      walk_at "es"
  rw [h51]
  walk_at "es"
  unfold trR
  cases hn : nest 0 s with
  | false => walk_at "es"; simp only [eO]; walk_at "es"
  | true =>
    walk_at "es"
    cases ht : treeF 40 s with
    | none => simp only [eO]; walk_at "es"
    | some t =>
      simp only [eO]
      rw [isn_tr]
      walk_at "es"
      rw [show n + 46 = (n + 4) + 2 + 40 by omega, (tree_show 40 hs ht).2.2 (n + 4) S]
      walk_at "es"
      by_cases q : trT t = s
      · rw [decide_eq_true q, if_pos q]; rfl
      · rw [decide_eq_false q, if_neg q]; rfl
end K75
end
section
set_option Elab.async false
set_option linter.all false
set_option autoImplicit false
set_option maxRecDepth 100000
set_option maxHeartbeats 0
namespace K75
open PySem PySem.Spec PyProof.Rows L2 Tg
local macro_rules | `(tactic| walk_at "es") => `(tactic| try simp only [st0, st1, st2, st3, st4, evS, ev, evO, dSeqS, dSkip, dExpr, dRet, dRetN, dIfS, dAsg, dC, dNil, dCons, consV, dTup, dLst, dB1, dB2, dChain, dIte, dAnd, dOr, dNot, dCall,
  dCutL, dCutH, dCutB, dM1, dIx, dSeq, dSrc, dLc, dFor, dPar2, oCons, oNil, wipeE, opF, cmF, u1F, u2F, m1F, isiN, rngF, Tgt.put, List.set, List.headD_cons, List.tail_cons,
  bnd_ok, bnd_bad, bnd_exc, okv_s, onBl_b, onI_i, onS_s, onT_s, tst_b, tstS_b, okE_s, outF_rt, outF_nx, outF_exc, seqK_nx, seqK_rt, okL_s, asL_l, okN0, okN1, okN2, okN3, okN4, okN5, v0, v1, v2, v3, v4, v5, v6, v7, v8, v9, v10, v11,
  isi1, isi2, isi3, isi4, isi5, iss1, iss2, iss3, iss4, iss5, ist1, ist2, ist3, ist4, ist5, isn1, isn2, isn3, isb5, len_t, len_l, lt_i, le_i, gt_i, ge_i, eq_i, ne_i, eq_s, ne_s, lt_s, add_i, sub_i, neg_i, is_non, is_t, is_s, is_i, isn_non, isn_t, isn_s, isn_i,
  at_t0, at_t1, at_t2, at_t3, at_t4, ixt, ixl, ixs, sq_t, sq_l, sq_s, tup_l, in_c, nin_c, and_bl, or_bl, ite_ok, ret_ok, guard_ok, ib_and, ib_or, ib_f, nc0, nc1, nc2, nc3, nc4, nc5, nc6, Int.reduceLE, Int.reduceLT, Int.reduceEq, decide_true, decide_false, Int.le_refl, Int.lt_irrefl,
  List.length_cons, List.length_nil, List.replicate, List.cons_append, List.nil_append, Nat.add_zero, Nat.zero_add, Nat.reduceAdd, Nat.reduceSub, Option.getD_some, Option.getD_none, Bool.not_false, Bool.not_true, Bool.true_or, Bool.false_or, Bool.true_and, Bool.false_and, Bool.and_true, Bool.or_true, Bool.or_false, if_true, if_false, Bool.false_eq_true, ite_true, ite_false])
/-! ### readers -/
theorem s_anew_s (n : Nat) (S : Store) (s : List Nat) : C (n + 1) i_anew [.str s] S = .ok (.str s) S := by
  rw [cc rfl n _ S rfl]
  walk_at "es"
theorem s_anew_n (n : Nat) (S : Store) : C (n + 1) i_anew [.non] S = .ok .non S := by
  rw [cc rfl n _ S rfl]
  walk_at "es"
  rw [show uIsi "list" .non = some (.bl false) from rfl]
  walk_at "es"
theorem s_anew_i (n : Nat) (S : Store) (i : Int) : C (n + 1) i_anew [.int i] S = .ok (.int i) S := by
  rw [cc rfl n _ S rfl]
  walk_at "es"
theorem s_anew_l (n : Nat) (S : Store) (s : List Nat) : C (n + 2) i_anew [.lst [.str s]] S = .ok (.lst [.str s]) S := by
  rw [cc rfl (n + 1) _ S rfl]
  walk_at "es"
  rw [show uIsi "list" (.lst [.str s]) = some (.bl true) from rfl]
  walk_at "es"
  rw [show ([PV.str s] : List PV) = [s].map PV.str from rfl, lc_enc PV.str PV.str (by show 1 ≤ sizeLine; decide) (fun w hw => ⟨_, rfl, by walk_at "es", by walk_at "es"; rw [s_anew_s]⟩)]
  walk_at "es"
theorem s_anew_t (n : Nat) (S : Store) (s : List Nat) : C (n + 2) i_anew [.tup [.str s]] S = .ok (.tup [.str s]) S := by
  rw [cc rfl (n + 1) _ S rfl]
  walk_at "es"
  rw [show ([PV.str s] : List PV) = [s].map PV.str from rfl, lc_enc PV.str PV.str (by show 1 ≤ sizeLine; decide) (fun w hw => ⟨_, rfl, by walk_at "es", by walk_at "es"; rw [s_anew_s]⟩)]
  walk_at "es"
/-- the answer of a reader -/
def ans {α : Type} (e : α → PV) (t : PV) (S : Store) : Option α → Rs PV
  | none => .exc 5 t S
  | some x => .ok (e x) S
theorem s_needed {α : Type} (n : Nat) (S : Store) (e : α → PV) (o : Option α) (t : PV) (hne : ∀ x, vIs (e x) .non = some (.bl false)) (ht : C (n + 2) i_anew [t] S = .ok t S) : C (n + 3) i_needed [eO e o, t] S = ans e t S o := by
  rw [cc rfl (n + 2) _ S rfl]
  cases o with
  | none =>
    simp only [eO]
    walk_at "es"
    unfold dRaise
    walk_at "es"
    rw [ht]
    walk_at "es"
    rfl
  | some x =>
    simp only [eO]
    walk_at "es"
    rw [hne x]
    walk_at "es"
    rfl
theorem ans_ret {α : Type} (e : α → PV) (t : PV) (S : Store) (o : Option α) : outF ((((ans e t S o).bnd fun v S1 => Rs.ok (Fl.rt v) S1)).bnd (seqK dSkip)) = ans e t S o := by cases o <;> rfl
theorem ans_ret' {α : Type} (e : α → PV) (t : PV) (S : Store) (o : Option α) : outF ((((ans e t S o).bnd fun v S1 => Rs.ok (Fl.rt v) S1)).bnd (seqK fun ρ S => Rs.ok (Fl.nx ρ) S)) = ans e t S o := by cases o <;> rfl
theorem s_read_by {α : Type} (n : Nat) (S : Store) {s : List Nat} (j : Nat) (hj : j < 110) (e : α → PV) (o : Option α) (hne : ∀ x, vIs (e x) .non = some (.bl false)) (h : C (n + 3) j [.str s] S = .ok (eO e o) S) : C (n + 4) i_read_by [.fn j, .str s] S = ans e (.str s) S o := by
  rw [cc rfl (n + 3) _ S rfl]
  walk_at "es"
  have hc : dCallL (C (n + 3)) 110 0 (dCons (dVar 1) dNil) [.val (.fn j), .val (.str s)] S = .ok (eO e o) S := by
    unfold dCallL
    rw [show look [Sl.val (.fn j), .val (.str s)] 0 = .val (.fn j) from rfl]
    simp only
    rw [if_pos hj]
    walk_at "es"
    exact h
  rw [hc]
  walk_at "es"
  rw [s_needed n S e o (.str s) hne (s_anew_s (n + 1) S s)]
  exact ans_ret e _ S o
theorem s_read_with {α : Type} (n : Nat) (S : Store) {s : List Nat} (j : Nat) (hj : j < 110) (e : α → PV) (o : Option α) (hne : ∀ x, vIs (e x) .non = some (.bl false)) (h : C (n + 4) j [.int 3, .str s] S = .ok (eO e o) S) : C (n + 5) i_read_with [.fn j, .int 3, .str s] S = ans e (.str s) S o := by
  rw [cc rfl (n + 4) _ S rfl]
  walk_at "es"
  rw [s_need_n n S rfl]
  walk_at "es"
  have hc : dCallL (C (n + 4)) 110 0 (dCons (dVar 1) (dCons (dVar 2) dNil)) [.val (.fn j), .val (.int 3), .val (.str s)] S = .ok (eO e o) S := by
    unfold dCallL
    rw [show look [Sl.val (.fn j), .val (.int 3), .val (.str s)] 0 = .val (.fn j) from rfl]
    simp only
    rw [if_pos hj]
    walk_at "es"
    exact h
  rw [hc]
  walk_at "es"
  rw [s_needed (n + 1) S e o (.str s) hne (s_anew_s (n + 2) S s)]
  exact ans_ret e _ S o
/-- what is no text -/
def noStr (v : PV) : Prop := uIsi "str" v = some (.bl false)
theorem s_read_by_o (n : Nat) (S : Store) {v : PV} (j : Nat) (hv : noStr v) (ha : C (n + 2) i_anew [v] S = .ok v S) : C (n + 4) i_read_by [.fn j, v] S = .exc 5 v S := by
  rw [cc rfl (n + 3) _ S rfl]
  walk_at "es"
  rw [hv]
  walk_at "es"
  rw [show PV.non = eO PV.str none from rfl, s_needed n S PV.str none v (fun _ => rfl) ha]
  rfl
theorem s_read_with_o (n : Nat) (S : Store) {v : PV} (j : Nat) (hv : noStr v) (ha : C (n + 3) i_anew [v] S = .ok v S) : C (n + 5) i_read_with [.fn j, .int 3, v] S = .exc 5 v S := by
  rw [cc rfl (n + 4) _ S rfl]
  walk_at "es"
  rw [s_need_n n S rfl]
  walk_at "es"
  rw [hv]
  walk_at "es"
  rw [show PV.non = eO PV.str none from rfl, s_needed (n + 1) S PV.str none v (fun _ => rfl) ha]
  rfl
theorem g151 : dG G0 151 = dC (.fn 68) := rfl
theorem g106 : dG G0 106 = dC (.fn 71) := rfl
theorem g126 : dG G0 126 = dC (.fn 74) := rfl
theorem g43 : dG G0 43 = dC (.fn 75) := rfl
theorem g97 : dG G0 97 = dC (.fn 78) := rfl
theorem g41 : dG G0 41 = dC (.fn 82) := rfl
theorem g140 : dG G0 140 = dC (.fn 83) := rfl
theorem g48 : dG G0 48 = dC (.fn 87) := rfl
theorem g141 : dG G0 141 = dC (.fn 88) := rfl
theorem g128 : dG G0 128 = dC (.fn 89) := rfl
def rdrI (w : Nat) : Nat := [68, 71, 74, 75, 78, 82, 83, 87, 88, 89].getD w 0
/-- the reader of the texts of the kind w -/
def callR (n : Nat) (w : Nat) (v : PV) (S : Store) : Rs PV := match w with
  | 0 => C n i_read_word [.int 3, v] S
  | 1 => C n i_read_pattern [.int 3, v] S
  | 2 => C n i_read_rule [.int 3, v] S
  | 3 => C n i_read_cascade [v] S
  | 4 => C n i_read_machine [v] S
  | 5 => C n i_read_book [v] S
  | 6 => C n i_read_sign [v] S
  | 7 => C n i_read_grammar [v] S
  | 8 => C n i_read_tree [v] S
  | _ => C n i_read_sentence [v] S
theorem ten {w : Nat} (h : w < 10) : w = 0 ∨ w = 1 ∨ w = 2 ∨ w = 3 ∨ w = 4 ∨ w = 5 ∨ w = 6 ∨ w = 7 ∨ w = 8 ∨ w = 9 := by omega
def nx (r : Rs PV) : Rs PV := match r with
  | .ok v S' => .ok v S'
  | _ => .bad
theorem noX_eq {d : Den} {ρ : Tg.Env} {S : Store} : noX d ρ S = nx (d ρ S) := rfl
theorem nx_ok {v : PV} {S : Store} : nx (.ok v S) = .ok v S := rfl
theorem evB_cb (n : Nat) (w : Nat) (h : w < 10) (v : PV) (S : Store) : evB (Pn n) cb0 [.val (.int (w : Int)), .val v, .val .non, .no, .no] S = callR n w v S := by
  rcases ten h with rfl | rfl | rfl | rfl | rfl | rfl | rfl | rfl | rfl | rfl <;>
    (unfold cb0 callR
     simp only [evB, evL]
     walk_at "es"
     simp only [noX_eq]
     walk_at "es"
     rfl)
/-- the answer to a read, and what it becomes in the law -/
theorem s_law_read (n : Nat) (w : Nat) (h : w < 10) (v : PV) (S : Store) : C (n + 1) i_law_read [.int (w : Int), v] S = rdK 6 5 v (callR n w v S) := by
  show callN G0 R0 F0 (n + 1) i_law_read _ S = _
  unfold callN
  rw [show F0[i_law_read]? = some (.ext x_law_read) from rfl]
  simp only
  unfold x_law_read x5
  simp only
  rw [show (⟨callN G0 R0 F0 n, 110, G0, R0⟩ : Px) = Pn n from rfl, evB_cb n w h v S]
theorem repr_s {s : List Nat} (hs : tx s) : ∃ r, uRepr (.str s) = some (.str r) := by
  unfold uRepr
  rw [show toD (.str s) = some (.str ⟨s.toArray⟩) from rfl]
  simp only
  rw [if_pos]
  · exact ⟨_, rfl⟩
  · unfold showOk
    have hl : PyData.layable0 (.str ⟨s.toArray⟩) = true := by
      unfold PyData.layable0
      simp only [Bool.and_eq_true, decide_eq_true_eq]
      refine ⟨⟨?_, ?_⟩, ?_⟩
      · obtain ⟨d, e, h1, _⟩ := gd_str (k := 0) hs.g
        cases e
        exact h1
      · show 0 ≤ 64; decide
      · show s.toArray.size ≤ 2 ^ 20
        have := hs.1
        simp
        omega
    have := PySem.Flt.repr_room hl
    have e : ((PyData.str ⟨s.toArray⟩).shown).length ≤ sizeLine := by
      show (reprText _).length ≤ sizeLine
      omega
    rw [decide_eq_true e]
    rfl
theorem same_of {v : PV} {r : List Nat} (h : uRepr v = some (.str r)) : sameR v v = some true := by
  unfold sameR
  rw [h]
  simp only
  show some (decide (r = r)) = _
  rw [decide_eq_true rfl]
def none9 : PV := .str [61, 110, 111, 110, 101, 61]
def other9 : PV := .str [61, 111, 116, 104, 101, 114, 61]
theorem rdK_exc {v : PV} {S : Store} {r : List Nat} (h : uRepr v = some (.str r)) : rdK 6 5 v (.exc 5 v S) = .ok none9 S := by
  unfold rdK
  simp only
  rw [if_pos (by decide), same_of h]
  rfl
/-! ### the ten readers -/
def wordR (s : List Nat) : Option (List Nat) := if (isW 3 (textF s) && !decide (s = [])) = true then some (textF s) else none
theorem s_word (n : Nat) (S : Store) {s : List Nat} (hs : tx s) : C (n + 2) i_word_from [.int 3, .str s] S = .ok (eO .str (wordR s)) S := by
  rw [s_word_from n S 3 hs]
  unfold wordR
  cases (isW 3 (textF s) && !decide (s = [])) <;> rfl
/-- the value that a reader answers, if any -/
def rdV (w : Nat) (s : List Nat) : Option PV := match w with
  | 0 => (wordR s).map .str
  | 1 => (patternF 3 s).map ePat
  | 2 => (ruleR 3 s).map eRule
  | 3 => (casR s).map eCas
  | 4 => (macR s).map eMac
  | 5 => (bookR s).map eBook
  | 6 => (sigR s).map eSign
  | 7 => (gramR s).map eGram
  | 8 => (trR s).map eTree
  | _ => (senR s).map eSen
def ansV (t : PV) (S : Store) : Option PV → Rs PV
  | none => .exc 5 t S
  | some x => .ok x S
theorem ans_map {α : Type} (e : α → PV) (t : PV) (S : Store) (o : Option α) : ans e t S o = ansV t S (o.map e) := by cases o <;> rfl
theorem ans1 {α : Type} (e : α → PV) (t : PV) (S : Store) (o : Option α) : outF (((ansV t S (o.map e)).bnd fun v S1 => Rs.ok (Fl.rt v) S1).bnd (seqK dSkip)) = ansV t S (o.map e) := by cases o <;> rfl
theorem ans2 {α : Type} (e : α → PV) (t : PV) (S : Store) (o : Option α) : outF (((ansV t S (o.map e)).bnd fun v S1 => Rs.ok (Fl.rt v) S1).bnd (seqK fun ρ S => Rs.ok (Fl.nx ρ) S)) = ansV t S (o.map e) := by cases o <;> rfl
theorem s_callR (n : Nat) (w : Nat) (h : w < 10) (S : Store) {s : List Nat} (hs : tx s) : callR (n + 60) w (.str s) S = ansV (.str s) S (rdV w s) := by
  rcases ten h with rfl | rfl | rfl | rfl | rfl | rfl | rfl | rfl | rfl | rfl
  · show C (n + 60) i_read_word [.int 3, .str s] S = ansV (.str s) S (rdV 0 s)
    unfold rdV
    rw [cc rfl (n + 59) _ S rfl]
    walk_at "es"
    rw [g151]
    walk_at "es"
    rw [s_read_with (n + 54) S 68 (by decide) PV.str (wordR s) (fun _ => rfl) (s_word (n + 56) S hs), ans_map]
    exact ans1 _ _ _ _
  · show C (n + 60) i_read_pattern [.int 3, .str s] S = ansV (.str s) S (rdV 1 s)
    unfold rdV
    rw [cc rfl (n + 59) _ S rfl]
    walk_at "es"
    rw [g106]
    walk_at "es"
    rw [s_read_with (n + 54) S 71 (by decide) ePat (patternF 3 s) (fun _ => rfl) (s_pattern_from (n + 52) S (k := 3) rfl hs), ans_map]
    exact ans1 _ _ _ _
  · show C (n + 60) i_read_rule [.int 3, .str s] S = ansV (.str s) S (rdV 2 s)
    unfold rdV
    rw [cc rfl (n + 59) _ S rfl]
    walk_at "es"
    rw [g126]
    walk_at "es"
    rw [s_read_with (n + 54) S 74 (by decide) eRule (ruleR 3 s) (fun _ => rfl) (s_rule_from (n + 51) S (k := 3) rfl hs), ans_map]
    exact ans1 _ _ _ _
  · show C (n + 60) i_read_cascade [.str s] S = ansV (.str s) S (rdV 3 s)
    unfold rdV
    rw [cc rfl (n + 59) _ S rfl]
    walk_at "es"
    rw [g43]
    walk_at "es"
    rw [s_read_by (n + 55) S 75 (by decide) eCas (casR s) (fun _ => rfl) (s_cascade_from (n + 51) S hs), ans_map]
    exact ans1 _ _ _ _
  · show C (n + 60) i_read_machine [.str s] S = ansV (.str s) S (rdV 4 s)
    unfold rdV
    rw [cc rfl (n + 59) _ S rfl]
    walk_at "es"
    rw [g97]
    walk_at "es"
    rw [s_read_by (n + 55) S 78 (by decide) eMac (macR s) (fun _ => rfl) (s_machine_from (n + 53) S hs), ans_map]
    exact ans1 _ _ _ _
  · show C (n + 60) i_read_book [.str s] S = ansV (.str s) S (rdV 5 s)
    unfold rdV
    rw [cc rfl (n + 59) _ S rfl]
    walk_at "es"
    rw [g41]
    walk_at "es"
    rw [s_read_by (n + 55) S 82 (by decide) eBook (bookR s) (fun _ => rfl) (s_book_from (n + 52) S hs), ans_map]
    exact ans1 _ _ _ _
  · show C (n + 60) i_read_sign [.str s] S = ansV (.str s) S (rdV 6 s)
    unfold rdV
    rw [cc rfl (n + 59) _ S rfl]
    walk_at "es"
    rw [g140]
    walk_at "es"
    rw [s_read_by (n + 55) S 83 (by decide) eSign (sigR s) (fun _ => rfl) (s_shown_sign (n + 54) S hs), ans_map]
    exact ans1 _ _ _ _
  · show C (n + 60) i_read_grammar [.str s] S = ansV (.str s) S (rdV 7 s)
    unfold rdV
    rw [cc rfl (n + 59) _ S rfl]
    walk_at "es"
    rw [g48]
    walk_at "es"
    rw [s_read_by (n + 55) S 87 (by decide) eGram (gramR s) (fun _ => rfl) (s_grammar_from (n + 51) S hs), ans_map]
    exact ans1 _ _ _ _
  · show C (n + 60) i_read_tree [.str s] S = ansV (.str s) S (rdV 8 s)
    unfold rdV
    rw [cc rfl (n + 59) _ S rfl]
    walk_at "es"
    rw [g141]
    walk_at "es"
    rw [s_read_by (n + 55) S 88 (by decide) eTree (trR s) (fun _ => is_tr) (s_shown_tree (n + 11) S hs), ans_map]
    exact ans1 _ _ _ _
  · show C (n + 60) i_read_sentence [.str s] S = ansV (.str s) S (rdV 9 s)
    unfold rdV
    rw [cc rfl (n + 59) _ S rfl]
    walk_at "es"
    rw [g128]
    walk_at "es"
    rw [s_read_by (n + 55) S 89 (by decide) eSen (senR s) (fun _ => rfl) (s_sentence_from (n + 55) S hs), ans_map]
    exact ans1 _ _ _ _
theorem s_read_text (n : Nat) (w : Nat) (h : w < 10) (S : Store) {s : List Nat} (hs : tx s) : C (n + 61) i_law_read [.int (w : Int), .str s] S = .ok ((rdV w s).getD none9) S := by
  rw [s_law_read (n + 60) w h, s_callR n w h S hs]
  obtain ⟨r, hr⟩ := repr_s hs
  cases rdV w s with
  | none => exact rdK_exc hr
  | some v => rfl
/-- what is no text is refused -/
theorem s_read_odd (n : Nat) (w : Nat) (h : w < 10) (S : Store) {v : PV} {r : List Nat} (hv : noStr v) (ha : ∀ m, C (m + 2) i_anew [v] S = .ok v S) (hr : uRepr v = some (.str r)) : C (n + 7) i_law_read [.int (w : Int), v] S = .ok none9 S := by
  rw [s_law_read (n + 6) w h]
  have key : callR (n + 6) w v S = .exc 5 v S := by
    rcases ten h with rfl | rfl | rfl | rfl | rfl | rfl | rfl | rfl | rfl | rfl
    · show C (n + 6) i_read_word [.int 3, v] S = _; rw [cc rfl (n + 5) _ S rfl]; walk_at "es"; rw [g151]; walk_at "es"; rw [s_read_with_o n S 68 hv (ha (n + 1))]; rfl
    · show C (n + 6) i_read_pattern [.int 3, v] S = _; rw [cc rfl (n + 5) _ S rfl]; walk_at "es"; rw [g106]; walk_at "es"; rw [s_read_with_o n S 71 hv (ha (n + 1))]; rfl
    · show C (n + 6) i_read_rule [.int 3, v] S = _; rw [cc rfl (n + 5) _ S rfl]; walk_at "es"; rw [g126]; walk_at "es"; rw [s_read_with_o n S 74 hv (ha (n + 1))]; rfl
    · show C (n + 6) i_read_cascade [v] S = _; rw [cc rfl (n + 5) _ S rfl]; walk_at "es"; rw [g43]; walk_at "es"; rw [s_read_by_o (n + 1) S 75 hv (ha (n + 1))]; rfl
    · show C (n + 6) i_read_machine [v] S = _; rw [cc rfl (n + 5) _ S rfl]; walk_at "es"; rw [g97]; walk_at "es"; rw [s_read_by_o (n + 1) S 78 hv (ha (n + 1))]; rfl
    · show C (n + 6) i_read_book [v] S = _; rw [cc rfl (n + 5) _ S rfl]; walk_at "es"; rw [g41]; walk_at "es"; rw [s_read_by_o (n + 1) S 82 hv (ha (n + 1))]; rfl
    · show C (n + 6) i_read_sign [v] S = _; rw [cc rfl (n + 5) _ S rfl]; walk_at "es"; rw [g140]; walk_at "es"; rw [s_read_by_o (n + 1) S 83 hv (ha (n + 1))]; rfl
    · show C (n + 6) i_read_grammar [v] S = _; rw [cc rfl (n + 5) _ S rfl]; walk_at "es"; rw [g48]; walk_at "es"; rw [s_read_by_o (n + 1) S 87 hv (ha (n + 1))]; rfl
    · show C (n + 6) i_read_tree [v] S = _; rw [cc rfl (n + 5) _ S rfl]; walk_at "es"; rw [g141]; walk_at "es"; rw [s_read_by_o (n + 1) S 88 hv (ha (n + 1))]; rfl
    · show C (n + 6) i_read_sentence [v] S = _; rw [cc rfl (n + 5) _ S rfl]; walk_at "es"; rw [g128]; walk_at "es"; rw [s_read_by_o (n + 1) S 89 hv (ha (n + 1))]; rfl
  rw [key]
  exact rdK_exc hr
end K75
end
section
set_option Elab.async false
set_option linter.all false
set_option autoImplicit false
set_option maxRecDepth 100000
set_option maxHeartbeats 0
namespace K75
open PySem PySem.Spec PyProof.Rows L2 Tg
local macro_rules | `(tactic| walk_at "es") => `(tactic| try simp only [st0, st1, st2, st3, st4, evS, ev, evO, dSeqS, dSkip, dExpr, dRet, dRetN, dIfS, dAsg, dC, dNil, dCons, consV, dTup, dLst, dB1, dB2, dChain, dIte, dAnd, dOr, dNot, dCall,
  dCutL, dCutH, dCutB, dM1, dIx, dSeq, dSrc, dLc, dFor, dPar2, oCons, oNil, wipeE, opF, cmF, u1F, u2F, m1F, isiN, rngF, Tgt.put, List.set, List.headD_cons, List.tail_cons,
  bnd_ok, bnd_bad, bnd_exc, okv_s, onBl_b, onI_i, onS_s, onT_s, tst_b, tstS_b, okE_s, outF_rt, outF_nx, outF_exc, seqK_nx, seqK_rt, okL_s, asL_l, okN0, okN1, okN2, okN3, okN4, okN5, v0, v1, v2, v3, v4, v5, v6, v7, v8, v9, v10, v11,
  isi1, isi2, isi3, isi4, isi5, iss1, iss2, iss3, iss4, iss5, ist1, ist2, ist3, ist4, ist5, isn1, isn2, isn3, isb5, len_t, len_l, lt_i, le_i, gt_i, ge_i, eq_i, ne_i, eq_s, ne_s, lt_s, add_i, sub_i, neg_i, is_non, is_t, is_s, is_i, isn_non, isn_t, isn_s, isn_i,
  at_t0, at_t1, at_t2, at_t3, at_t4, ixt, ixl, ixs, sq_t, sq_l, sq_s, tup_l, in_c, nin_c, and_bl, or_bl, ite_ok, ret_ok, guard_ok, ib_and, ib_or, ib_f, nc0, nc1, nc2, nc3, nc4, nc5, nc6, Int.reduceLE, Int.reduceLT, Int.reduceEq, decide_true, decide_false, Int.le_refl, Int.lt_irrefl,
  List.length_cons, List.length_nil, List.replicate, List.cons_append, List.nil_append, Nat.add_zero, Nat.zero_add, Nat.reduceAdd, Nat.reduceSub, Option.getD_some, Option.getD_none, Bool.not_false, Bool.not_true, Bool.true_or, Bool.false_or, Bool.true_and, Bool.false_and, Bool.and_true, Bool.or_true, Bool.or_false, if_true, if_false, Bool.false_eq_true, ite_true, ite_false])
theorem shaped_of {d : PyData} (h1 : d.canLay0 = true) (h2 : d.depth ≤ 64) : SeqAt.shaped d = true := by
  show (d.canLay0 && decide (d.depth ≤ 64)) = true
  rw [h1, decide_eq_true h2]
  rfl
theorem toD_tup {xs : List PV} {d : PyData} (h : toD (.tup xs) = some d) : ∃ ds, d = .tuple ds := by
  unfold toD at h
  split at h
  · cases h; exact ⟨_, rfl⟩
  · cases h
theorem eq_tup_str {k : Nat} {xs : List PV} {t : List Nat} (h : Gd k (.tup xs)) (hk : k ≤ 63) (ht : strG t) : eqB (.tup xs) (.str t) = some false := by
  obtain ⟨d, h1, h2, h3⟩ := h
  obtain ⟨e, q1, q2, q3⟩ := gd_str (k := 0) ht
  show vEqD _ _ = _
  unfold vEqD
  rw [h1, q1]
  simp only
  rw [shaped_of h2 (by omega), shaped_of q2 (by omega)]
  obtain ⟨ds, rfl⟩ := toD_tup h1
  cases q1
  rfl
theorem in_two {k : Nat} {xs : List PV} {a b : List Nat} (h : Gd k (.tup xs)) (hk : k ≤ 63) (ha : strG a) (hb : strG b) : vIn (.tup xs) (.tup [.str a, .str b]) = some (.bl false) := by
  obtain ⟨d, h1, h2, h3⟩ := h
  unfold vIn
  have e : inB (.tup xs) (.tup [.str a, .str b]) = inD (.tup xs) [.str a, .str b] := rfl
  rw [e]
  obtain ⟨ds, q1, q2, q3⟩ := gd_list (k := 0) (xs := [.str a, .str b]) (by intro x hx; simp at hx; rcases hx with rfl | rfl; exact gd_str ha; exact gd_str hb)
  unfold inD
  rw [h1, q1]
  simp only
  rw [shaped_of h2 (by omega), shaped_of (d := .list ds) q2 (by show PyData.depthAll ds + 1 ≤ 64; omega)]
  obtain ⟨es, rfl⟩ := toD_tup h1
  cases q1
  rfl
def noneS : List Nat := [61, 110, 111, 110, 101, 61]
def otherS : List Nat := [61, 111, 116, 104, 101, 114, 61]
/-- a value that a reader answered: apart from the two words; shown as s -/
structure Vok (w : Nat) (s : List Nat) (v : PV) : Prop where
  ne : vEq v (.str otherS) = some (.bl false)
  nn : ∃ b, vNe v (.str noneS) = some (.bl b)
  ni : vIn v (.tup [.str noneS, .str otherS]) = some (.bl false)
  sh : ∀ (n : Nat) (S : Store), C (n + 60) i_law_shown [.int (w : Int), v] S = .ok (.str s) S
theorem vok_tup {w k : Nat} {s : List Nat} {xs : List PV} (h : Gd k (.tup xs)) (hk : k ≤ 63) (sh : ∀ (n : Nat) (S : Store), C (n + 60) i_law_shown [.int (w : Int), .tup xs] S = .ok (.str s) S) : Vok w s (.tup xs) where
  ne := by unfold vEq; rw [eq_tup_str h hk (by constructor <;> decide)]; rfl
  nn := ⟨true, by unfold vNe; rw [eq_tup_str h hk (by constructor <;> decide)]; rfl⟩
  ni := in_two h hk (by constructor <;> decide) (by constructor <;> decide)
  sh := sh
theorem gd_pat {p : List (List Item)} (hp : patOk p) : Gd 3 (ePat p) := gd_tup (k := 2) (fun x hx => by
  obtain ⟨w, hw, rfl⟩ := List.mem_map.mp hx
  exact gd_tup (k := 1) (gd_row (hp.2 w hw)))
theorem gd_map {α : Type} {k : Nat} {e : α → PV} {l : List α} (h : ∀ x ∈ l, Gd k (e x)) : Gd (k + 1) (.tup (l.map e)) := gd_tup (fun x hx => by
  obtain ⟨w, hw, rfl⟩ := List.mem_map.mp hx
  exact h w hw)
theorem gd_o {α : Type} {k : Nat} {e : α → PV} {o : Option α} (h : ∀ x, o = some x → Gd k (e x)) : Gd k (eO e o) := by
  cases o with
  | none => exact gd_non
  | some x => exact h x rfl
theorem vok_word {s z : List Nat} (h : wordR s = some z) : Vok 0 s (.str z) := by
  unfold wordR at h
  split at h
  case isFalse => cases h
  rename_i q
  cases h
  simp only [Bool.and_eq_true, Bool.not_eq_true', decide_eq_false_iff_not] at q
  have hw : ∀ c ∈ textF s, c ∈ lets 3 := fun c hc => by
    have := q.1
    unfold isW at this
    rw [List.all_eq_true] at this
    simpa using this c hc
  have n61 : 61 ∉ textF s := fun hm => by
    have := hw 61 hm
    exact absurd this (by decide)
  have ho : ¬ textF s = otherS := fun e => n61 (by rw [e]; decide)
  have hn : ¬ textF s = noneS := fun e => n61 (by rw [e]; decide)
  refine ⟨by rw [eq_s, decide_eq_false ho], ⟨_, ne_s⟩, ?_, fun n S => ?_⟩
  · rw [in_t (flatS _ rfl)]
    show some (PV.bl (decide (noneS = textF s) || (decide (otherS = textF s) || false))) = _
    rw [decide_eq_false (fun e => hn e.symm), decide_eq_false (fun e => ho e.symm)]
    rfl
  · show C (n + 60) 106 [.int 0, .str (textF s)] S = _
    rw [cc rfl (n + 59) _ S rfl]
    walk_at "es"
    rw [s_show_word]
    walk_at "es"
    have : wordT (textF s) = s := by
      unfold wordT textF
      by_cases h : s = [46]
      · rw [if_pos h, if_pos rfl, h]
      · rw [if_neg h, if_neg q.2]
    rw [this]
theorem vok_pat {s : List Nat} (hs : tx s) {p : List (List Item)} (h : patternF 3 s = some p) : Vok 1 s (ePat p) := by
  unfold patternF at h
  split at h
  case isFalse => cases h
  rename_i q
  split at h
  case isFalse => cases h
  rename_i e
  cases h
  have hp : patS (patF s) := by
    rw [Bool.or_eq_true] at q
    rcases q with q | q
    · exact patF_s hs q
    · exact patF_s hs q
  refine vok_tup (gd_pat (patF_ok hs)) (by decide) fun n S => ?_
  show C (n + 60) 106 [.int 1, ePat (patF s)] S = _
  rw [cc rfl (n + 59) _ S rfl]
  walk_at "es"
  rw [s_show_pattern (n + 56) S hp, e]
  walk_at "es"
theorem vok_rule {s : List Nat} (hs : tx s) {r : Rule} (h : ruleR 3 s = some r) : Vok 2 s (eRule r) := by
  unfold ruleR at h
  cases hf : ruleF s with
  | none => rw [hf] at h; cases h
  | some r' =>
    rw [hf] at h
    simp only at h
    split at h
    case isFalse => cases h
    rename_i q
    split at h
    case isFalse => cases h
    rename_i e
    cases h
    refine vok_tup (gd_rule (ruleF_ok hs hf)) (by decide) fun n S => ?_
    show C (n + 60) 106 [.int 2, eRule r] S = _
    rw [cc rfl (n + 59) _ S rfl]
    walk_at "es"
    rw [s_show_rule (n + 55) S (ruleF_s hs hf q), e]
    walk_at "es"
theorem vok_cas {s : List Nat} (hs : tx s) {c : Nat × List Rule} (h : casR s = some c) : Vok 3 s (eCas c) := by
  unfold casR at h
  cases e : splt [32, 59, 32] s with
  | nil => exact (splt_ne _ _ e).elim
  | cons a rest =>
    rw [e] at h
    simp only at h
    have hm : ∀ w ∈ a :: rest, tx w := fun w hw => hs.sub (splt_sub (z := [32, 59, 32]) (by rw [e]; exact hw))
    split at h
    case h_2 => cases h
    rename_i k l hn hl
    split at h
    case isFalse => cases h
    rename_i q
    split at h
    case isFalse => cases h
    rename_i e2
    cases h
    have hmem := allO_mem hl
    have hr : ∀ r ∈ l, ∃ w ∈ rest, ruleF w = some r := fun r hr => by
      have : some r ∈ rest.map ruleF := by rw [hmem]; exact List.mem_map.mpr ⟨r, hr, rfl⟩
      exact List.mem_map.mp this
    have hb' := q
    unfold casB at hb'
    simp only [Bool.and_eq_true, List.all_eq_true, decide_eq_true_eq] at hb'
    refine vok_tup (k := 6) (gd_tup (k := 5) (fun x hx => by
      simp at hx
      rcases hx with rfl | rfl
      · exact gd_int _
      · exact gd_map (k := 4) fun r hr' => by
          obtain ⟨w, hw, q⟩ := hr r hr'
          exact gd_rule (ruleF_ok (hm w (List.mem_cons_of_mem _ hw)) q))) (by decide) fun n S => ?_
    show C (n + 60) 106 [.int 3, .tup [.int (k : Int), .tup (l.map eRule)]] S = _
    rw [cc rfl (n + 59) _ S rfl]
    walk_at "es"
    rw [s_show_cascade (n + 54) S (intF_lt hn) (fun r hr' => by
      obtain ⟨w, hw, q⟩ := hr r hr'
      exact ruleF_s (hm w (List.mem_cons_of_mem _ hw)) q (hb'.2 r hr')) (by omega), e2]
    walk_at "es"
theorem vok_mac {s : List Nat} (hs : tx s) {c : Nat × List (Bool × List (Nat × Nat))} (h : macR s = some c) : Vok 4 s (eMac c) := by
  unfold macR at h
  cases e : splt [32, 59, 32] s with
  | nil => exact (splt_ne _ _ e).elim
  | cons a rest =>
    rw [e] at h
    simp only at h
    have hm : ∀ w ∈ a :: rest, tx w := fun w hw => hs.sub (splt_sub (z := [32, 59, 32]) (by rw [e]; exact hw))
    have hlen : rest.length ≤ 501 := by have := splt_len [32, 59, 32] s; rw [e] at this; have := hs.1; simp at *; omega
    split at h
    case h_2 => cases h
    rename_i k l hn hl
    split at h
    case isFalse => cases h
    rename_i q
    split at h
    case isFalse => cases h
    rename_i e2
    cases h
    have hmem := allO_mem hl
    have hr : ∀ r ∈ l, plS r := fun r hr => by
      have : some r ∈ rest.map placeF := by rw [hmem]; exact List.mem_map.mpr ⟨r, hr, rfl⟩
      obtain ⟨w, hw, q⟩ := List.mem_map.mp this
      exact placeF_s (hm w (List.mem_cons_of_mem _ hw)) q
    have hll : l.length ≤ 501 := by
      have : l.length = rest.length := by have := congrArg List.length hmem; simpa using this.symm
      omega
    refine vok_tup (k := 5) (gd_tup (k := 4) (fun x hx => by
      simp at hx
      rcases hx with rfl | rfl
      · exact gd_int _
      · exact gd_map (k := 3) fun r hr' => gd_place (hr r hr'))) (by decide) fun n S => ?_
    show C (n + 60) 106 [.int 4, .tup [.int (k : Int), .tup (l.map ePlace)]] S = _
    rw [cc rfl (n + 59) _ S rfl]
    walk_at "es"
    rw [s_show_machine (n + 57) S (intF_lt hn) hr hll, e2]
    walk_at "es"
theorem vok_book {s : List Nat} (hs : tx s) {b : Book} (h : bookR s = some b) : Vok 5 s (eBook b) := by
  unfold bookR at h
  cases hf : bookF s with
  | none => rw [hf] at h; cases h
  | some b' =>
    rw [hf] at h
    simp only at h
    split at h
    case isFalse => cases h
    rename_i q
    split at h
    case isFalse => cases h
    rename_i e
    cases h
    have hok := (bookF_ok hs hf).1
    refine vok_tup (k := 4) (gd_tup (k := 3) (fun x hx => by
      simp only [List.mem_cons, List.not_mem_nil, or_false] at hx
      rcases hx with rfl | rfl | rfl | rfl | rfl
      · exact gd_o fun _ _ => gd_int _
      · exact gd_map (k := 2) fun c hc => gd_map (k := 1) fun x hx => gd_ch ((hok.parts.2 c hc).2 x hx)
      · exact gd_o fun l _ => (gd_map (k := 0) fun x _ => gd_int _).mono (by decide)
      · exact gd_o fun l _ => (gd_map (k := 1) fun x _ => gd_tup (k := 0) (fun y hy => by
          simp at hy
          rcases hy with rfl | rfl <;> exact gd_int _)).mono (by decide)
      · exact gd_o fun l _ => (gd_map (k := 0) fun x _ => gd_int _).mono (by decide))) (by decide) fun n S => ?_
    show C (n + 60) 106 [.int 5, eBook b] S = _
    rw [cc rfl (n + 59) _ S rfl]
    walk_at "es"
    rw [s_show_book' (n + 56) S hs hf q, e]
    walk_at "es"
theorem vok_sign {s : List Nat} (hs : tx s) {g : Sign} (h : sigR s = some g) : Vok 6 s (eSign g) := by
  unfold sigR at h
  cases hf : signF s with
  | none => rw [hf] at h; cases h
  | some g' =>
    rw [hf] at h
    simp only at h
    split at h
    case isTrue => cases h
    split at h
    case isFalse => cases h
    rename_i e
    cases h
    have hg := signF_s hs hf
    refine vok_tup (gd_sign hg) (by decide) fun n S => ?_
    show C (n + 60) 106 [.int 6, eSign g] S = _
    rw [cc rfl (n + 59) _ S rfl]
    walk_at "es"
    rw [s_show_sign (n + 58) S hg, e]
    walk_at "es"
theorem vok_gram {s : List Nat} (hs : tx s) {g : Gram} (h : gramR s = some g) : Vok 7 s (eGram g) := by
  unfold gramR at h
  cases hf : gramF s with
  | none => rw [hf] at h; cases h
  | some g' =>
    rw [hf] at h
    simp only at h
    split at h
    case isFalse => cases h
    rename_i q
    split at h
    case isFalse => cases h
    rename_i e
    cases h
    have hg := gramF_s hs hf
    refine vok_tup (k := 5) (gd_tup (k := 4) (fun x hx => by
      simp only [List.mem_cons, List.not_mem_nil, or_false] at hx
      rcases hx with rfl | rfl | rfl | rfl
      · exact gd_o fun s h => (gd_sign (hg.start s h)).mono (by decide)
      · exact gd_o fun l h => (gd_map (k := 2) fun x hx => gd_sign ((hg.sizes l h).2 x hx)).mono (by decide)
      · exact gd_o fun l h => (gd_map (k := 3) fun x hx => gd_map (k := 2) fun y hy => gd_sign (((hg.rules l h).2 x hx).2 y hy))
      · exact gd_o fun l h => (gd_map (k := 3) fun x hx => gd_tup (k := 2) (fun y hy => by
          simp at hy
          rcases hy with rfl | rfl
          · exact gd_sign ((hg.words l h).2 x hx).1
          · exact gd_str ((hg.words l h).2 x hx).2.g)))) (by decide) fun n S => ?_
    show C (n + 60) 106 [.int 7, eGram g] S = _
    rw [cc rfl (n + 59) _ S rfl]
    walk_at "es"
    rw [s_show_gram (n + 57) S hg q, e]
    walk_at "es"
theorem vok_tree {s : List Nat} (hs : tx s) {t : Tree} (h : trR s = some t) : Vok 8 s (eTree t) := by
  unfold trR at h
  split at h
  case isFalse => cases h
  cases hf : treeF 40 s with
  | none => rw [hf] at h; cases h
  | some t' =>
    rw [hf] at h
    simp only at h
    split at h
    case isFalse => cases h
    rename_i e
    cases h
    obtain ⟨_, h2, h3⟩ := tree_show 40 hs hf
    have sh : ∀ (n : Nat) (S : Store), C (n + 60) i_law_shown [.int ((8 : Nat) : Int), eTree t] S = .ok (.str s) S := fun n S => by
      show C (n + 60) 106 [.int 8, eTree t] S = _
      rw [cc rfl (n + 59) _ S rfl]
      walk_at "es"
      rw [show n + 59 = (n + 17) + 2 + 40 by omega, h3 (n + 17) S, e]
      walk_at "es"
    cases t with
    | leaf g x => exact vok_tup h2 (by decide) sh
    | node g a b => exact vok_tup h2 (by decide) sh
theorem joinL_cons {z a : List Nat} {X : List (List Nat)} (h : X ≠ []) : TL.joinL z (a :: X) = a ++ (z ++ TL.joinL z X) := by
  cases X with
  | nil => exact (h rfl).elim
  | cons q r => rfl
theorem join_splt : ∀ (l acc : List Nat), TL.joinL [32] (TL.spl [32] 0 acc l) = acc ++ l
  | [], acc => by rw [TL.spl_nil]; simp [TL.joinL]
  | c :: r, acc => by
    cases q : TL.pre [32] (c :: r) with
    | true =>
      rw [TL.spl_hit q, joinL_cons (spl_ne _ _ _ _)]
      have := pre_eq q
      simp at this
      rw [show [32].length - 1 = 0 from rfl, join_splt r [], this]
      simp
    | false => rw [TL.spl_miss q, join_splt r (acc ++ [c])]; simp
theorem vok_sen {s : List Nat} (hs : tx s) {l : List (List Nat)} (h : senR s = some l) : Vok 9 s (eSen l) := by
  have hq := h
  unfold senR at h
  split at h
  case isFalse => cases h
  cases h
  refine vok_tup (k := 1) (gd_map (k := 0) fun x hx => gd_str (hs.sub (splt_sub hx)).g) (by decide) fun n S => ?_
  show C (n + 60) 106 [.int 9, eSen (splt [32] s)] S = _
  rw [cc rfl (n + 59) _ S rfl]
  walk_at "es"
  have : C (n + 59) 67 [eSen (splt [32] s)] S = .ok (.str (TL.joinL [32] (splt [32] s))) S := by
    rw [cc (i := 67) rfl (n + 58) _ S rfl]
    walk_at "es"
    unfold eSen
    rw [join_t (B := 500) (K := 501) (fun y hy => (hs.sub (splt_sub hy)).1) (splt_le hs) (by decide)]
    walk_at "es"
  rw [this, show TL.joinL [32] (splt [32] s) = s from join_splt s []]
  walk_at "es"
theorem vok_of (w : Nat) (h : w < 10) {s : List Nat} (hs : tx s) {v : PV} (hv : rdV w s = some v) : Vok w s v := by
  rcases ten h with rfl | rfl | rfl | rfl | rfl | rfl | rfl | rfl | rfl | rfl <;> unfold rdV at hv <;> obtain ⟨x, hx, rfl⟩ := Option.map_eq_some_iff.mp hv
  · exact vok_word hx
  · exact vok_pat hs hx
  · exact vok_rule hs hx
  · exact vok_cas hs hx
  · exact vok_mac hs hx
  · exact vok_book hs hx
  · exact vok_sign hs hx
  · exact vok_gram hs hx
  · exact vok_tree hs hx
  · exact vok_sen hs hx
end K75
end
section
set_option Elab.async false
set_option linter.all false
set_option autoImplicit false
set_option maxRecDepth 100000
set_option maxHeartbeats 0
namespace K75
open PySem PySem.Spec PyProof.Rows L2 Tg
local macro_rules | `(tactic| walk_at "es") => `(tactic| try simp only [st0, st1, st2, st3, st4, evS, ev, evO, dSeqS, dSkip, dExpr, dRet, dRetN, dIfS, dAsg, dC, dNil, dCons, consV, dTup, dLst, dB1, dB2, dChain, dIte, dAnd, dOr, dNot, dCall,
  dCutL, dCutH, dCutB, dM1, dIx, dSeq, dSrc, dLc, dFor, dPar2, oCons, oNil, wipeE, opF, cmF, u1F, u2F, m1F, isiN, rngF, Tgt.put, List.set, List.headD_cons, List.tail_cons,
  bnd_ok, bnd_bad, bnd_exc, okv_s, onBl_b, onI_i, onS_s, onT_s, tst_b, tstS_b, okE_s, outF_rt, outF_nx, outF_exc, seqK_nx, seqK_rt, okL_s, asL_l, okN0, okN1, okN2, okN3, okN4, okN5, v0, v1, v2, v3, v4, v5, v6, v7, v8, v9, v10, v11,
  isi1, isi2, isi3, isi4, isi5, iss1, iss2, iss3, iss4, iss5, ist1, ist2, ist3, ist4, ist5, isn1, isn2, isn3, isb5, len_t, len_l, lt_i, le_i, gt_i, ge_i, eq_i, ne_i, eq_s, ne_s, lt_s, add_i, sub_i, neg_i, is_non, is_t, is_s, is_i, isn_non, isn_t, isn_s, isn_i,
  at_t0, at_t1, at_t2, at_t3, at_t4, ixt, ixl, ixs, sq_t, sq_l, sq_s, tup_l, in_c, nin_c, and_bl, or_bl, ite_ok, ret_ok, guard_ok, ib_and, ib_or, ib_f, nc0, nc1, nc2, nc3, nc4, nc5, nc6, Int.reduceLE, Int.reduceLT, Int.reduceEq, decide_true, decide_false, Int.le_refl, Int.lt_irrefl,
  List.length_cons, List.length_nil, List.replicate, List.cons_append, List.nil_append, Nat.add_zero, Nat.zero_add, Nat.reduceAdd, Nat.reduceSub, Option.getD_some, Option.getD_none, Bool.not_false, Bool.not_true, Bool.true_or, Bool.false_or, Bool.true_and, Bool.false_and, Bool.and_true, Bool.or_true, Bool.or_false, if_true, if_false, Bool.false_eq_true, ite_true, ite_false])
/-! ### draws -/
def Wat (S : Store) (c : Nat) (m : Nat) : Prop := ∃ a b st : Int, S[c]? = some [.int a, .int b, .int st] ∧ (0 ≤ b ∧ b < 10 ^ 30) ∧ (0 ≤ st ∧ st ≤ (m : Int))
theorem mul_r {i j : Int} (h : -1000000000000 < j) (h2 : j < 1000000000000) : vMul (.int i) (.int j) = some (.int (i * j)) := by
  show (if mulOk i j = true then _ else _) = _
  rw [if_pos]
  unfold mulOk
  have : small j = true := by
    unfold small
    rw [Bool.and_eq_true, decide_eq_true_eq, decide_eq_true_eq]
    omega
  rw [this]
  simp
theorem log_b {i : Int} (h0 : 0 ≤ i) (h : i < 10 ^ 34) : i.natAbs.log2 < 500 := by
  by_cases hk : i.natAbs = 0
  · rw [hk]; decide
  · rw [Nat.log2_lt hk]
    have : i.natAbs < 10 ^ 34 := by omega
    exact Nat.lt_of_lt_of_le this (Nat.le_trans (show 10 ^ 34 ≤ 2 ^ 120 by decide) (Nat.pow_le_pow_right (by decide) (by decide)))
theorem mul_b {i j : Int} (h0 : 0 ≤ i) (h : i < 10 ^ 34) (h1 : 0 ≤ j) (h2 : j < 10 ^ 34) : vMul (.int i) (.int j) = some (.int (i * j)) := by
  show (if mulOk i j = true then _ else _) = _
  rw [if_pos]
  unfold mulOk
  have := log_b h0 h
  have := log_b h1 h2
  rw [decide_eq_true (show i.natAbs.log2 + j.natAbs.log2 < 1000000 by omega)]
  simp
theorem pow_10 {k : Nat} (h : k ≤ 1000000) : vPow (.int 10) (.int (k : Int)) = some (.int (10 ^ k)) := by
  show (if _ then _ else _) = _
  rw [if_pos]
  · rfl
  · exact ⟨by omega, by omega, by decide⟩
theorem mod_i {i j : Int} (h : 0 < j) : vMod (.int i) (.int j) = some (.int (i % j)) := if_pos h
theorem div_i {i j : Int} (h : 0 < j) (h2 : j < 10 ^ 34) : vDiv (.int i) (.int j) = some (.int (i / j)) := if_pos ⟨h, Nat.lt_trans (log_b (by omega) h2) (by decide)⟩
theorem int_i {i : Int} : uInt (.int i) = some (.int i) := rfl
theorem ix_cell {c : Nat} {i : Int} {S : Store} {l : List PV} (h : S[c]? = some l) : ixS (.cell c) (.int i) S = atP l i := by
  show (match S[c]? with
    | some l => atP l i
    | none => none) = _
  rw [h]
theorem put0 {dv dk : Den} {c : Nat} {r : Tg.Env} {S : Store} {v : PV} {j : Int} {k : Nat} {l : List PV} (h1 : dv (.val (.cell c) :: r) S = .ok v S) (h2 : dk (.val (.cell c) :: r) S = .ok (.int j) S) (h : S[c]? = some l) (hk : ixN l.length j = some k) :
    dPut 0 dv dk (.val (.cell c) :: r) S = .ok (.nx (.val (.cell c) :: r)) (S.set c (l.set k v)) := by
  unfold dPut
  rw [h1, bnd_ok]
  rw [show isSet (look (.val (.cell c) :: r) 0) = true from rfl, if_pos rfl, h2, bnd_ok]
  unfold putK2
  show setP 0 (putV (.val (.cell c)) S (.int j) v) _ = _
  unfold putV
  simp only
  rw [h]
  simp only
  rw [hk]
  rfl
theorem wat_lt {S : Store} {c m : Nat} (h : Wat S c m) : c < S.length := by
  obtain ⟨a, b, st, h, _⟩ := h
  exact (List.getElem?_eq_some_iff.mp h).1
theorem s_draw (n : Nat) {S : Store} {c m : Nat} (h : Wat S c m) (hm : m ≤ 100000) {many : Int} (h1 : 0 < many) (h2 : many < 1000000) :
    ∃ (i : Int) (S' : Store), C (n + 1) i_law_draw [.cell c, .int many] S = .ok (.int i) S' ∧ (0 ≤ i ∧ i < many) ∧ Wat S' c (m + 1) ∧ S'.length = S.length := by
  have hlt := wat_lt h
  obtain ⟨a, b, st, hS, ⟨b0, b1⟩, s0, s1⟩ := h
  by_cases ha : 0 < a
  · refine ⟨a % many, S.set c [.int (a / many), .int b, .int st], ?_, ⟨Int.emod_nonneg _ (by omega), Int.emod_lt_of_pos _ h1⟩, ⟨a / many, b, st, by rw [List.getElem?_set_self hlt], ⟨b0, b1⟩, s0, by omega⟩, by rw [List.length_set]⟩
    rw [cc rfl n _ S rfl]
    walk_at "es"
    rw [ix_cell hS, show atP [.int a, .int b, .int st] 0 = some (.int a) from rfl]
    walk_at "es"
    rw [decide_eq_true ha]
    walk_at "es"
    rw [ix_cell hS, show atP [.int a, .int b, .int st] 0 = some (.int a) from rfl]
    walk_at "es"
    rw [int_i]
    walk_at "es"
    rw [mod_i h1]
    walk_at "es"
    rw [put0 (v := .int (a / many)) (j := 0) (k := 0) (l := [.int a, .int b, .int st]) (by
      walk_at "es"
      rw [ix_cell hS, show atP [.int a, .int b, .int st] 0 = some (.int a) from rfl]
      walk_at "es"
      rw [div_i h1 (by omega)]
      walk_at "es") (by walk_at "es") hS rfl]
    walk_at "es"
  · have hS' : (S.set c [.int a, .int b, .int (st + 1)])[c]? = some [.int a, .int b, .int (st + 1)] := by rw [List.getElem?_set_self hlt]
    have M : ∀ (x k : Int), 0 < k → k ≤ 10 ^ 34 → 0 ≤ x % k ∧ x % k < 10 ^ 34 := fun x k hk h2 => by
      have e := Int.emod_lt_of_pos x hk
      have e0 := Int.emod_nonneg x (show k ≠ 0 by omega)
      exact ⟨e0, by omega⟩
    suffices key : ∃ i : Int, C (n + 1) i_law_draw [.cell c, .int many] S = .ok (.int i) (S.set c [.int a, .int b, .int (st + 1)]) ∧ (0 ≤ i ∧ i < many) by
      obtain ⟨i, k1, k2⟩ := key
      exact ⟨i, _, k1, k2, ⟨a, b, st + 1, hS', ⟨b0, b1⟩, by omega, by omega⟩, by rw [List.length_set]⟩
    rw [cc rfl n _ S rfl]
    walk_at "es"
    rw [ix_cell hS, show atP [.int a, .int b, .int st] 0 = some (.int a) from rfl]
    walk_at "es"
    rw [decide_eq_false ha]
    walk_at "es"
    rw [put0 (v := .int (st + 1)) (j := 2) (k := 2) (l := [.int a, .int b, .int st]) (by
      walk_at "es"
      rw [ix_cell hS, show atP [.int a, .int b, .int st] 2 = some (.int st) from rfl]
      walk_at "es") (by walk_at "es") hS rfl]
    walk_at "es"
    rw [ix_cell hS', show atP [.int a, .int b, .int (st + 1)] 2 = some (.int (st + 1)) from rfl]
    walk_at "es"
    rw [ix_cell hS', show atP [.int a, .int b, .int (st + 1)] 1 = some (.int b) from rfl]
    walk_at "es"
    rw [mul_r (i := b + 31) (by omega) (by omega)]
    walk_at "es"
    rw [mul_r (by decide) (by decide)]
    walk_at "es"
    rw [mul_r (i := st + 1) (j := st + 1) (by omega) (by omega)]
    walk_at "es"
    rw [mul_r (j := st + 1) (by omega) (by omega)]
    walk_at "es"
    rw [mul_r (by decide) (by decide)]
    walk_at "es"
    rw [int_i]
    walk_at "es"
    rw [show vPow (.int 10) (.int 29) = some (.int (10 ^ 29)) from pow_10 (k := 29) (by decide)]
    walk_at "es"
    rw [mod_i (by decide)]
    walk_at "es"
    generalize ((b + 31) * (st + 1 + 5) * 998244353 + (st + 1) * (st + 1) * (st + 1) * 424242427 + 77) = X
    have hx := M X (10 ^ 29 + 319) (by decide) (by decide)
    generalize X % (10 ^ 29 + 319) = Y at hx
    rw [mul_b hx.1 hx.2 hx.1 hx.2]
    walk_at "es"
    rw [ix_cell hS', show atP [.int a, .int b, .int (st + 1)] 1 = some (.int b) from rfl]
    walk_at "es"
    rw [mul_r (i := b) (by decide) (by decide)]
    walk_at "es"
    rw [int_i]
    walk_at "es"
    rw [show vPow (.int 10) (.int 31) = some (.int (10 ^ 31)) from pow_10 (k := 31) (by decide)]
    walk_at "es"
    rw [mod_i (by decide)]
    walk_at "es"
    generalize (Y * Y + b * 7 + (st + 1)) = Z
    have hz := M Z (10 ^ 31 + 33) (by decide) (by decide)
    generalize Z % (10 ^ 31 + 33) = U at hz
    rw [mul_b hz.1 hz.2 hz.1 hz.2]
    walk_at "es"
    rw [mul_r (by decide) (by decide)]
    walk_at "es"
    rw [mul_r (by decide) (by decide)]
    walk_at "es"
    rw [int_i]
    walk_at "es"
    rw [show vPow (.int 10) (.int 33) = some (.int (10 ^ 33)) from pow_10 (k := 33) (by decide)]
    walk_at "es"
    rw [mod_i (by decide)]
    walk_at "es"
    rw [div_i (by decide) (by decide)]
    walk_at "es"
    rw [int_i]
    walk_at "es"
    rw [mod_i h1]
    walk_at "es"
    exact ⟨_, rfl, Int.emod_nonneg _ (by omega), Int.emod_lt_of_pos _ h1⟩
end K75
end
section
set_option Elab.async false
set_option linter.all false
set_option autoImplicit false
set_option maxRecDepth 100000
set_option maxHeartbeats 0
namespace K75
open PySem PySem.Spec PyProof.Rows L2 Tg
local macro_rules | `(tactic| walk_at "es") => `(tactic| try simp only [st0, st1, st2, st3, st4, evS, ev, evO, dSeqS, dSkip, dExpr, dRet, dRetN, dIfS, dAsg, dC, dNil, dCons, consV, dTup, dLst, dB1, dB2, dChain, dIte, dAnd, dOr, dNot, dCall,
  dCutL, dCutH, dCutB, dM1, dIx, dSeq, dSrc, dLc, dFor, dPar2, oCons, oNil, wipeE, opF, cmF, u1F, u2F, m1F, isiN, rngF, Tgt.put, List.set, List.headD_cons, List.tail_cons,
  bnd_ok, bnd_bad, bnd_exc, okv_s, onBl_b, onI_i, onS_s, onT_s, tst_b, tstS_b, okE_s, outF_rt, outF_nx, outF_exc, seqK_nx, seqK_rt, okL_s, asL_l, okN0, okN1, okN2, okN3, okN4, okN5, v0, v1, v2, v3, v4, v5, v6, v7, v8, v9, v10, v11,
  isi1, isi2, isi3, isi4, isi5, iss1, iss2, iss3, iss4, iss5, ist1, ist2, ist3, ist4, ist5, isn1, isn2, isn3, isb5, len_t, len_l, lt_i, le_i, gt_i, ge_i, eq_i, ne_i, eq_s, ne_s, lt_s, add_i, sub_i, neg_i, is_non, is_t, is_s, is_i, isn_non, isn_t, isn_s, isn_i,
  at_t0, at_t1, at_t2, at_t3, at_t4, ixt, ixl, ixs, sq_t, sq_l, sq_s, tup_l, in_c, nin_c, and_bl, or_bl, ite_ok, ret_ok, guard_ok, ib_and, ib_or, ib_f, nc0, nc1, nc2, nc3, nc4, nc5, nc6, Int.reduceLE, Int.reduceLT, Int.reduceEq, decide_true, decide_false, Int.le_refl, Int.lt_irrefl,
  List.length_cons, List.length_nil, List.replicate, List.cons_append, List.nil_append, Nat.add_zero, Nat.zero_add, Nat.reduceAdd, Nat.reduceSub, Option.getD_some, Option.getD_none, Bool.not_false, Bool.not_true, Bool.true_or, Bool.false_or, Bool.true_and, Bool.false_and, Bool.and_true, Bool.or_true, Bool.or_false, if_true, if_false, Bool.false_eq_true, ite_true, ite_false])
theorem mul_l {i j : Int} (h : -1000000000000 < i) (h2 : i < 1000000000000) : vMul (.int i) (.int j) = some (.int (i * j)) := by
  show (if mulOk i j = true then _ else _) = _
  rw [if_pos]
  unfold mulOk
  have : small i = true := by
    unfold small
    rw [Bool.and_eq_true, decide_eq_true_eq, decide_eq_true_eq]
    omega
  rw [this]
  rfl
theorem abs_i {i : Int} : uAbs (.int i) = some (.int (if i < 0 then -i else i)) := rfl
theorem max_i {i j : Int} : vMax (.int i) (.int j) = some (.int (if j > i then j else i)) := rfl
theorem min_i {i j : Int} : vMin (.int i) (.int j) = some (.int (if j < i then j else i)) := rfl
theorem s_well (n : Nat) (S : Store) (ns : List Int) (hl : ns.length ≤ 1000) (k : Nat) (hk : k ≤ 1000) : ∃ a b : Int, C (n + 1) i_law_well [.lst (ns.map PV.int), .int (k : Int)] S = .ok (.cell S.length) (S ++ [[.int a, .int b, .int 0]]) ∧ (0 ≤ b ∧ b < 10 ^ 30) := by
  rw [cc rfl n _ S rfl]
  walk_at "es"
  rw [List.length_map]
  -- the first value
  have hc : ∃ cell : Int, (if decide ((k : Int) < (ns.length : Int)) = true then
      ((okv (vIdx (.lst (ns.map PV.int)) (.int (k : Int))) S).bnd fun v S1 => okv (uInt v) S1)
      else ((okv (vMul (.int 71) (.int (k : Int))) S).bnd fun v S1 => okv (vAdd v (.int 37)) S1)) = .ok (.int cell) S := by
    by_cases h : (k : Int) < (ns.length : Int)
    · have hk : k < ns.length := by omega
      refine ⟨ns[k], ?_⟩
      rw [decide_eq_true h]
      walk_at "es"
      rw [show vIdx (.lst (ns.map PV.int)) (.int (k : Int)) = (ns.map PV.int)[k]? from at_nat, List.getElem?_map, List.getElem?_eq_getElem hk]
      simp only [Option.map_some]
      walk_at "es"
      rw [int_i]
      walk_at "es"
    · refine ⟨71 * (k : Int) + 37, ?_⟩
      rw [decide_eq_false h]
      walk_at "es"
      rw [mul_l (by decide) (by decide)]
      walk_at "es"
  obtain ⟨cell, hc⟩ := hc
  rw [hc]
  walk_at "es"
  -- the loop
  obtain ⟨g', hg⟩ := for_st (t := .name 4) (S := S) (db := evS (Pn n) (.seq (.asg (.name 3) (.bin 4 (.u1 9 (.bin 0 (.bin 2 (.var 3) (.c (.int 5323))) (.bin 4 (.u1 9 (.var 4)) (.bin 0 (.bin 5 (.c (.int 10)) (.c (.int 19))) (.c (.int 51)))))) (.bin 0 (.bin 5 (.c (.int 10)) (.c (.int 25))) (.c (.int 13))))) (.skip))) PV.int (fun w p => (w * 5323 + p % (10 ^ 19 + 51)) % (10 ^ 25 + 13))
    (fun (w : Int) (g : Sl) => [.val (.lst (ns.map PV.int)), .val (.int (k : Int)), .val (.int cell), .val (.int w), g, .no]) (fun _ _ => True) (fun x xs w g _ => ⟨trivial, _, .val (.int x), rfl, by
      walk_at "es"
      rw [mul_r (by decide) (by decide)]
      walk_at "es"
      rw [int_i]
      walk_at "es"
      rw [show vPow (.int 10) (.int 19) = some (.int (10 ^ 19)) from pow_10 (k := 19) (by decide)]
      walk_at "es"
      rw [mod_i (by decide)]
      walk_at "es"
      rw [int_i]
      walk_at "es"
      rw [show vPow (.int 10) (.int 25) = some (.int (10 ^ 25)) from pow_10 (k := 25) (by decide)]
      walk_at "es"
      rw [mod_i (by decide)]
      walk_at "es"⟩) ns (29 + (ns.length : Int)) .no trivial
  simp only [evS, ev, opF, cmF, u1F] at hg
  rw [List.length_map, hg]
  walk_at "es"
  generalize ns.foldl (fun (w : Int) p => (w * 5323 + p % (10 ^ 19 + 51)) % (10 ^ 25 + 13)) (29 + (ns.length : Int)) = W
  rw [abs_i]
  walk_at "es"
  rw [mul_r (by decide) (by decide)]
  walk_at "es"
  rw [mul_r (by decide) (by decide)]
  walk_at "es"
  rw [int_b]
  walk_at "es"
  rw [mul_l (by decide) (by decide)]
  walk_at "es"
  rw [mul_l (by decide) (by decide)]
  walk_at "es"
  rw [int_i]
  walk_at "es"
  rw [show vPow (.int 10) (.int 28) = some (.int (10 ^ 28)) from pow_10 (k := 28) (by decide)]
  walk_at "es"
  rw [mod_i (by decide)]
  walk_at "es"
  unfold dLstC
  walk_at "es"
  rw [abs_i]
  walk_at "es"
  rw [show vPow (.int 10) (.int 18) = some (.int (10 ^ 18)) from pow_10 (k := 18) (by decide)]
  walk_at "es"
  rw [max_i]
  walk_at "es"
  generalize ((if cell < 0 then -cell else cell) * 7129 + W * 41 + 3 * (if decide (cell < 0) = true then 1 else 0) + 61 * (k : Int)) = X
  have e := Int.emod_lt_of_pos X (show (0 : Int) < 10 ^ 28 + 331 by decide)
  have e0 := Int.emod_nonneg X (show (10 : Int) ^ 28 + 331 ≠ 0 by decide)
  refine ⟨_, _, rfl, e0, ?_⟩
  omega
/-! ### the texts -/
def bookS0 : List Nat := [50, 32, 124, 32, 97, 98, 58, 67, 65, 84, 32, 98, 58, 68, 79, 71, 32, 59, 32, 46, 58, 79, 78, 69, 32, 97, 58, 77, 65, 78, 89, 32, 124, 32, 48, 32, 124, 32, 48, 62, 49, 32, 124, 32, 49]
def texts : List (List Nat) := match C 1 i_law_texts [] [] with
  | .ok (.lst l) _ => (asStrs l).getD []
  | _ => []
theorem s_texts (n : Nat) (S : Store) : C (n + 1) i_law_texts [] S = .ok (.lst (texts.map .str)) S := by
  rw [cc rfl n _ S rfl]
  rfl
end K75
end
section
set_option Elab.async false
set_option linter.all false
set_option autoImplicit false
set_option maxRecDepth 100000
set_option maxHeartbeats 0
namespace K75
open PySem PySem.Spec PyProof.Rows L2 Tg
local macro_rules | `(tactic| walk_at "es") => `(tactic| try simp only [st0, st1, st2, st3, st4, evS, ev, evO, dSeqS, dSkip, dExpr, dRet, dRetN, dIfS, dAsg, dC, dNil, dCons, consV, dTup, dLst, dB1, dB2, dChain, dIte, dAnd, dOr, dNot, dCall,
  dCutL, dCutH, dCutB, dM1, dIx, dSeq, dSrc, dLc, dFor, dPar2, oCons, oNil, wipeE, opF, cmF, u1F, u2F, m1F, isiN, rngF, Tgt.put, List.set, List.headD_cons, List.tail_cons,
  bnd_ok, bnd_bad, bnd_exc, okv_s, onBl_b, onI_i, onS_s, onT_s, tst_b, tstS_b, okE_s, outF_rt, outF_nx, outF_exc, seqK_nx, seqK_rt, okL_s, asL_l, okN0, okN1, okN2, okN3, okN4, okN5, v0, v1, v2, v3, v4, v5, v6, v7, v8, v9, v10, v11,
  isi1, isi2, isi3, isi4, isi5, iss1, iss2, iss3, iss4, iss5, ist1, ist2, ist3, ist4, ist5, isn1, isn2, isn3, isb5, len_t, len_l, lt_i, le_i, gt_i, ge_i, eq_i, ne_i, eq_s, ne_s, lt_s, add_i, sub_i, neg_i, is_non, is_t, is_s, is_i, isn_non, isn_t, isn_s, isn_i,
  at_t0, at_t1, at_t2, at_t3, at_t4, ixt, ixl, ixs, sq_t, sq_l, sq_s, tup_l, in_c, nin_c, and_bl, or_bl, ite_ok, ret_ok, guard_ok, ib_and, ib_or, ib_f, nc0, nc1, nc2, nc3, nc4, nc5, nc6, Int.reduceLE, Int.reduceLT, Int.reduceEq, decide_true, decide_false, Int.le_refl, Int.lt_irrefl,
  List.length_cons, List.length_nil, List.replicate, List.cons_append, List.nil_append, Nat.add_zero, Nat.zero_add, Nat.reduceAdd, Nat.reduceSub, Option.getD_some, Option.getD_none, Bool.not_false, Bool.not_true, Bool.true_or, Bool.false_or, Bool.true_and, Bool.false_and, Bool.and_true, Bool.or_true, Bool.or_false, if_true, if_false, Bool.false_eq_true, ite_true, ite_false])
/-! ### bent texts -/
theorem cutTo {α : Type} (s : List α) (k : Nat) (h : k ≤ s.length) : cutP s none (some (k : Int)) = s.take k := by
  unfold cutP sPl
  simp only [if_neg (show ¬ (k : Int) < 0 by omega), List.drop_zero, Nat.sub_zero, Int.toNat_natCast]
  rw [Nat.min_eq_left h]
theorem cutFrom {α : Type} (s : List α) (k : Nat) (h : k ≤ s.length) : cutP s (some (k : Int)) none = s.drop k := by
  unfold cutP sPl
  simp only [if_neg (show ¬ (k : Int) < 0 by omega), Int.toNat_natCast]
  rw [Nat.min_eq_left h, List.take_of_length_le (by rw [List.length_drop]; omega)]
theorem cutFrom1 {α : Type} (s : List α) (k : Nat) : cutP s (some ((k : Int) + 1)) none = s.drop (k + 1) := by
  unfold cutP sPl
  simp only [if_neg (show ¬ ((k : Int) + 1) < 0 by omega)]
  rw [show ((k : Int) + 1).toNat = k + 1 by omega]
  rw [List.take_of_length_le (by rw [List.length_drop]; omega)]
  by_cases h : k + 1 ≤ s.length
  · rw [Nat.min_eq_left h]
  · rw [Nat.min_eq_right (by omega), List.drop_length, List.drop_eq_nil_of_le (by omega)]
def jl : List (List Nat) → Nat
  | [] => 0
  | y :: r => y.length + 1 + jl r
theorem jl_c (y : List Nat) (r : List (List Nat)) : jl (y :: r) = y.length + 1 + jl r := rfl
theorem jl_app : ∀ a b : List (List Nat), jl (a ++ b) = jl a + jl b
  | [], b => by simp [jl]
  | y :: a, b => by rw [List.cons_append, jl_c, jl_c, jl_app a b]; omega
theorem jl_eq : ∀ l : List (List Nat), jl l = (l.map (·.length)).sum + l.length
  | [] => rfl
  | y :: r => by rw [jl_c, jl_eq r, List.map_cons, List.sum_cons, List.length_cons]; omega
theorem jl_spl (z : List Nat) : ∀ (l : List Nat) (k : Nat) (acc : List Nat), jl (TL.spl z k acc l) ≤ acc.length + l.length + 1
  | [], k, acc => by rw [TL.spl_nil]; simp [jl]
  | c :: r, 0, acc => by
    cases q : TL.pre z (c :: r) with
    | true => rw [TL.spl_hit q]; have := jl_spl z r (z.length - 1) []; rw [jl_c]; simp at this ⊢; omega
    | false => rw [TL.spl_miss q]; have := jl_spl z r 0 (acc ++ [c]); simp at this ⊢; omega
  | c :: r, k + 1, acc => by have := jl_spl z r k acc; show jl (TL.spl z k acc r) ≤ _; simp; omega
theorem jl_take (l : List (List Nat)) (k : Nat) : jl (l.take k) + jl (l.drop k) = jl l := by
  have := jl_app (l.take k) (l.drop k)
  rw [List.take_append_drop] at this
  omega
theorem join_j {ws : List (List Nat)} (h : jl ws ≤ 1000000) : mJoin (.str [32]) (.lst (ws.map .str)) = some (.str (TL.joinL [32] ws)) ∧ (TL.joinL [32] ws).length ≤ jl ws := by
  have e := jl_eq ws
  have hj := join_len [32] ws
  simp only [List.length_singleton, Nat.mul_one] at hj
  refine ⟨?_, by omega⟩
  unfold mJoin
  simp only [show asStrs (ws.map PV.str) = some (ws.map id) from asStrs_map id ws, List.map_id]
  rw [if_pos (by simp only [List.length_singleton, Nat.mul_one]; omega)]
theorem join_ch {ws : List (List Nat)} (h : ∀ w ∈ ws, ∀ c ∈ w, c < 128) : ∀ c ∈ TL.joinL [32] ws, c < 128 := by
  induction ws with
  | nil => intro c hc; cases hc
  | cons a r ih =>
    by_cases hr : r = []
    · subst hr
      intro c hc
      exact h a (List.mem_cons_self ..) c hc
    · rw [joinL_cons hr]
      intro c hc
      rcases List.mem_append.mp hc with hc | hc
      · exact h a (List.mem_cons_self ..) c hc
      · rcases List.mem_append.mp hc with hc | hc
        · simp at hc; omega
        · exact ih (fun w hw => h w (List.mem_cons_of_mem _ hw)) c hc
def sgn : List Nat := [32, 97, 98, 99, 46, 35, 124, 95, 47, 62, 63, 42, 59, 58, 40, 41, 91, 93, 61, 43, 44, 45, 48, 49, 57, 120, 121, 122, 115, 65, 90]
theorem at_sgn {i : Nat} (h : i < 31) {S : Store} : ∃ c, vIdx (.str sgn) (.int (i : Int)) = some (.str [c]) ∧ c < 128 := by
  have hl : i < sgn.length := h
  refine ⟨sgn[i], ?_, ?_⟩
  · show (if sgn.length ≤ sizeLine then (atC sgn (i : Int)).map (fun c => PV.str [c]) else none) = _
    rw [if_pos (show sgn.length ≤ sizeLine by decide)]
    unfold atC
    rw [if_pos (by omega), show ((i : Nat) : Int).toNat = i from rfl, List.getElem?_eq_getElem hl]
    rfl
  · have k : ∀ c ∈ sgn, c < 128 := by decide
    exact k _ (List.getElem_mem hl)
def bnd (L : Nat) (s : List Nat) : Prop := s.length ≤ L ∧ ∀ c ∈ s, c < 128
theorem s_bent (n : Nat) {S : Store} {c m : Nat} (h : Wat S c m) (hm : m ≤ 10000) {t : List Nat} {L : Nat} (ht : bnd L t) (hL : L ≤ 249) :
    ∃ (b : List Nat) (S' : Store), C (n + 2) i_law_bent [.cell c, .str t] S = .ok (.str b) S' ∧ bnd (2 * L + 2) b ∧ Wat S' c (m + 5) ∧ S'.length = S.length := by
  have htx : tx t := ⟨by have := ht.1; omega, ht.2⟩
  have W1 : ∀ {S : Store} {c m k : Nat}, Wat S c m → m ≤ k → Wat S c k := fun {S c m k} h hk => by
    obtain ⟨a, b, st, h1, h2, h3, h4⟩ := h
    exact ⟨a, b, st, h1, h2, h3, by omega⟩
  obtain ⟨way, S1, e1, r1, w1, l1⟩ := s_draw n h (by omega) (many := 8) (by decide) (by decide)
  obtain ⟨at', S2, e2, r2, w2, l2⟩ := s_draw n w1 (by omega) (many := (t.length : Int) + 1) (by omega) (by have := ht.1; omega)
  obtain ⟨si, S3, e3, r3, w3, l3⟩ := s_draw n w2 (by omega) (many := 31) (by decide) (by decide)
  obtain ⟨a, rfl⟩ : ∃ a : Nat, at' = (a : Int) := ⟨at'.toNat, by omega⟩
  obtain ⟨i, rfl⟩ : ∃ i : Nat, si = (i : Int) := ⟨si.toNat, by omega⟩
  obtain ⟨g, hg, hg2⟩ := at_sgn (i := i) (S := S3) (by omega)
  have ha : a ≤ t.length := by omega
  have htl := ht.1
  rw [cc rfl (n + 1) _ S rfl]
  walk_at "es"
  rw [e1]
  walk_at "es"
  rw [len_s htx.le]
  walk_at "es"
  rw [e2]
  walk_at "es"
  rw [e3]
  walk_at "es"
  rw [show PV.str [32, 97, 98, 99, 46, 35, 124, 95, 47, 62, 63, 42, 59, 58, 40, 41, 91, 93, 61, 43, 44, 45, 48, 49, 57, 120, 121, 122, 115, 65, 90] = .str sgn from rfl, hg]
  walk_at "es"
  by_cases h2 : way < 2
  · rw [decide_eq_true h2]
    walk_at "es"
    rw [cutS htx.le, cutTo _ _ ha]
    walk_at "es"
    rw [add_s (by simp; omega)]
    walk_at "es"
    rw [cutS htx.le, cutFrom _ _ ha]
    walk_at "es"
    rw [add_s (by simp; omega)]
    walk_at "es"
    refine ⟨_, _, rfl, ⟨by simp; omega, fun x hx => ?_⟩, W1 w3 (by omega), by omega⟩
    simp only [List.mem_append, List.mem_singleton] at hx
    rcases hx with (hx | rfl) | hx
    · exact ht.2 x (List.take_subset _ _ hx)
    · exact hg2
    · exact ht.2 x (List.drop_subset _ _ hx)
  · rw [decide_eq_false h2]
    walk_at "es"
    by_cases h4 : way < 4
    · rw [decide_eq_true h4]
      walk_at "es"
      rw [cutS htx.le, cutTo _ _ ha]
      walk_at "es"
      rw [cutS htx.le, cutFrom1]
      walk_at "es"
      rw [add_s (by simp; omega)]
      walk_at "es"
      refine ⟨_, _, rfl, ⟨by simp; omega, fun x hx => ?_⟩, W1 w3 (by omega), by omega⟩
      simp only [List.mem_append] at hx
      rcases hx with hx | hx
      · exact ht.2 x (List.take_subset _ _ hx)
      · exact ht.2 x (List.drop_subset _ _ hx)
    · rw [decide_eq_false h4]
      walk_at "es"
      by_cases h6 : way < 6
      · rw [decide_eq_true h6]
        walk_at "es"
        rw [cutS htx.le, cutTo _ _ ha]
        walk_at "es"
        rw [add_s (by simp; omega)]
        walk_at "es"
        rw [cutS htx.le, cutFrom1]
        walk_at "es"
        rw [add_s (by simp; omega)]
        walk_at "es"
        refine ⟨_, _, rfl, ⟨by simp; omega, fun x hx => ?_⟩, W1 w3 (by omega), by omega⟩
        simp only [List.mem_append, List.mem_singleton] at hx
        rcases hx with (hx | rfl) | hx
        · exact ht.2 x (List.take_subset _ _ hx)
        · exact hg2
        · exact ht.2 x (List.drop_subset _ _ hx)
      · rw [decide_eq_false h6]
        walk_at "es"
        rw [split_s rfl htx]
        walk_at "es"
        have hne : 0 < (splt [32] t).length := List.length_pos_iff.mpr (splt_ne _ _)
        have hsl := splt_len [32] t
        have hjl : jl (splt [32] t) ≤ t.length + 1 := by have := jl_spl [32] t 0 []; simpa [splt] using this
        have hch : ∀ w ∈ splt [32] t, w.length ≤ t.length ∧ ∀ c ∈ w, c < 128 := fun w hw => ⟨(splt_sub hw).1, fun c hc => ht.2 c ((splt_sub hw).2 c hc)⟩
        generalize splt [32] t = ws at hne hsl hjl hch
        rw [List.length_map]
        obtain ⟨pl, S4, e4, r4, w4, l4⟩ := s_draw n w3 (by omega) (many := (ws.length : Int)) (by omega) (by omega)
        obtain ⟨ot, S5, e5, r5, w5, l5⟩ := s_draw n w4 (by omega) (many := (ws.length : Int)) (by omega) (by omega)
        obtain ⟨p, rfl⟩ : ∃ i : Nat, pl = (i : Int) := ⟨pl.toNat, by omega⟩
        obtain ⟨o, rfl⟩ : ∃ i : Nat, ot = (i : Int) := ⟨ot.toNat, by omega⟩
        have hp : p ≤ ws.length := by omega
        have ho : o < ws.length := by omega
        rw [e4]
        walk_at "es"
        rw [e5]
        walk_at "es"
        have hp' : p ≤ (ws.map PV.str).length := by rw [List.length_map]; exact hp
        by_cases h66 : way = 6
        · rw [decide_eq_true h66]
          walk_at "es"
          rw [cutL, cutTo _ _ hp']
          walk_at "es"
          rw [cutL, cutFrom1]
          walk_at "es"
          rw [add_l (by simp; omega)]
          walk_at "es"
          rw [← List.map_take, ← List.map_drop, ← List.map_append]
          have hj : jl (ws.take p ++ ws.drop (p + 1)) ≤ 2 * L + 2 := by
            rw [jl_app]
            have q1 := jl_take ws p
            have q2 := jl_take (ws.drop p) 1
            rw [List.drop_drop] at q2
            omega
          obtain ⟨j1, j2⟩ := join_j (ws := ws.take p ++ ws.drop (p + 1)) (by omega)
          rw [j1]
          walk_at "es"
          refine ⟨_, _, rfl, ⟨by omega, join_ch fun w hw => ?_⟩, W1 w5 (by omega), by omega⟩
          rcases List.mem_append.mp hw with hw | hw
          · exact (hch w (List.take_subset _ _ hw)).2
          · exact (hch w (List.drop_subset _ _ hw)).2
        · rw [decide_eq_false h66]
          walk_at "es"
          rw [cutL, cutTo _ _ hp']
          walk_at "es"
          rw [show vIdx (.lst (ws.map PV.str)) (.int (o : Int)) = (ws.map PV.str)[o]? from at_nat, List.getElem?_map, List.getElem?_eq_getElem ho]
          simp only [Option.map_some]
          walk_at "es"
          rw [add_l (by simp; omega)]
          walk_at "es"
          rw [cutL, cutFrom _ _ hp']
          walk_at "es"
          rw [add_l (by simp; omega)]
          walk_at "es"
          rw [← List.map_take, ← List.map_drop, show [PV.str ws[o]] = [ws[o]].map PV.str from rfl, ← List.map_append, ← List.map_append]
          have hwo := hch ws[o] (List.getElem_mem ho)
          have hj : jl ((ws.take p ++ [ws[o]]) ++ ws.drop p) ≤ 2 * L + 2 := by
            rw [jl_app, jl_app]
            have q1 := jl_take ws p
            have : jl [ws[o]] = ws[o].length + 1 := by simp [jl]
            omega
          obtain ⟨j1, j2⟩ := join_j (ws := (ws.take p ++ [ws[o]]) ++ ws.drop p) (by omega)
          rw [j1]
          walk_at "es"
          refine ⟨_, _, rfl, ⟨by omega, join_ch fun w hw => ?_⟩, W1 w5 (by omega), by omega⟩
          simp only [List.mem_append, List.mem_singleton] at hw
          rcases hw with (hw | rfl) | hw
          · exact (hch w (List.take_subset _ _ hw)).2
          · exact hwo.2
          · exact (hch w (List.drop_subset _ _ hw)).2
end K75
end
section
set_option Elab.async false
set_option linter.all false
set_option autoImplicit false
set_option maxRecDepth 100000
set_option maxHeartbeats 0
namespace K75
open PySem PySem.Spec PyProof.Rows L2 Tg
local macro_rules | `(tactic| walk_at "es") => `(tactic| try simp only [st0, st1, st2, st3, st4, evS, ev, evO, dSeqS, dSkip, dExpr, dRet, dRetN, dIfS, dAsg, dC, dNil, dCons, consV, dTup, dLst, dB1, dB2, dChain, dIte, dAnd, dOr, dNot, dCall,
  dCutL, dCutH, dCutB, dM1, dIx, dSeq, dSrc, dLc, dFor, dPar2, oCons, oNil, wipeE, opF, cmF, u1F, u2F, m1F, isiN, rngF, Tgt.put, List.set, List.headD_cons, List.tail_cons,
  bnd_ok, bnd_bad, bnd_exc, okv_s, onBl_b, onI_i, onS_s, onT_s, tst_b, tstS_b, okE_s, outF_rt, outF_nx, outF_exc, seqK_nx, seqK_rt, okL_s, asL_l, okN0, okN1, okN2, okN3, okN4, okN5, v0, v1, v2, v3, v4, v5, v6, v7, v8, v9, v10, v11,
  isi1, isi2, isi3, isi4, isi5, iss1, iss2, iss3, iss4, iss5, ist1, ist2, ist3, ist4, ist5, isn1, isn2, isn3, isb5, len_t, len_l, lt_i, le_i, gt_i, ge_i, eq_i, ne_i, eq_s, ne_s, lt_s, add_i, sub_i, neg_i, is_non, is_t, is_s, is_i, isn_non, isn_t, isn_s, isn_i,
  at_t0, at_t1, at_t2, at_t3, at_t4, ixt, ixl, ixs, sq_t, sq_l, sq_s, tup_l, in_c, nin_c, and_bl, or_bl, ite_ok, ret_ok, guard_ok, ib_and, ib_or, ib_f, nc0, nc1, nc2, nc3, nc4, nc5, nc6, Int.reduceLE, Int.reduceLT, Int.reduceEq, decide_true, decide_false, Int.le_refl, Int.lt_irrefl,
  List.length_cons, List.length_nil, List.replicate, List.cons_append, List.nil_append, Nat.add_zero, Nat.zero_add, Nat.reduceAdd, Nat.reduceSub, Option.getD_some, Option.getD_none, Bool.not_false, Bool.not_true, Bool.true_or, Bool.false_or, Bool.true_and, Bool.false_and, Bool.and_true, Bool.or_true, Bool.or_false, if_true, if_false, Bool.false_eq_true, ite_true, ite_false])
def tw (w : Nat) : List Nat := texts.getD w []
def noneT : List (List Nat) := [[122], [97, 32, 98], [97, 62, 98], [51, 32, 59, 32, 97], [48, 32, 59, 32, 49], [50, 32, 124, 32, 124, 32, 48, 32, 124, 32, 45, 32, 124, 32, 48], [110, 111, 117, 110, 40, 41], [115, 32, 124, 32, 115, 32, 124, 32, 115], [91, 97, 32, 97, 58, 65, 93], [97, 32, 66]]
def nw (w : Nat) : List Nat := noneT.getD w []
/-! ### the given texts -/
def okB (L : Nat) (s : List Nat) : Bool := decide (s.length ≤ L) && s.all fun c => decide (c < 128)
theorem okB_b {L : Nat} {s : List Nat} (h : okB L s = true) : bnd L s := by
  unfold okB at h
  rw [Bool.and_eq_true, decide_eq_true_eq, List.all_eq_true] at h
  exact ⟨h.1, fun c hc => by simpa using h.2 c hc⟩
theorem tlen : texts.length = 10 := by decide +kernel
theorem fact1 : ∀ w < 10, (okB 120 (tw w) && (rdV w (tw w)).isSome) = true := by decide +kernel
theorem fact2 : ∀ w < 10, (okB 120 (nw w) && (w == 1 || (rdV w (nw w)).isNone)) = true := by decide +kernel
theorem fact3 : ∀ w < 10, ((rdV w (tw w ++ [32])).isNone && ((rdV w ([32] ++ tw w)).isNone && (rdV w []).isNone)) = true := by decide +kernel
theorem fact4 : ∀ w < 10, (showOk (.list [.str ⟨(tw w).toArray⟩]) && showOk (.tuple [.str ⟨(tw w).toArray⟩])) = true := by decide +kernel
end K75
end
section
set_option Elab.async false
set_option linter.all false
set_option autoImplicit false
set_option maxRecDepth 100000
set_option maxHeartbeats 0
namespace K75
open PySem PySem.Spec PyProof.Rows L2 Tg
local macro_rules | `(tactic| walk_at "es") => `(tactic| try simp only [st0, st1, st2, st3, st4, evS, ev, evO, dSeqS, dSkip, dExpr, dRet, dRetN, dIfS, dAsg, dC, dNil, dCons, consV, dTup, dLst, dB1, dB2, dChain, dIte, dAnd, dOr, dNot, dCall,
  dCutL, dCutH, dCutB, dM1, dIx, dSeq, dSrc, dLc, dFor, dPar2, oCons, oNil, wipeE, opF, cmF, u1F, u2F, m1F, isiN, rngF, Tgt.put, List.set, List.headD_cons, List.tail_cons,
  bnd_ok, bnd_bad, bnd_exc, okv_s, onBl_b, onI_i, onS_s, onT_s, tst_b, tstS_b, okE_s, outF_rt, outF_nx, outF_exc, seqK_nx, seqK_rt, okL_s, asL_l, okN0, okN1, okN2, okN3, okN4, okN5, v0, v1, v2, v3, v4, v5, v6, v7, v8, v9, v10, v11,
  isi1, isi2, isi3, isi4, isi5, iss1, iss2, iss3, iss4, iss5, ist1, ist2, ist3, ist4, ist5, isn1, isn2, isn3, isb5, len_t, len_l, lt_i, le_i, gt_i, ge_i, eq_i, ne_i, eq_s, ne_s, lt_s, add_i, sub_i, neg_i, is_non, is_t, is_s, is_i, isn_non, isn_t, isn_s, isn_i,
  at_t0, at_t1, at_t2, at_t3, at_t4, ixt, ixl, ixs, sq_t, sq_l, sq_s, tup_l, in_c, nin_c, and_bl, or_bl, ite_ok, ret_ok, guard_ok, ib_and, ib_or, ib_f, nc0, nc1, nc2, nc3, nc4, nc5, nc6, Int.reduceLE, Int.reduceLT, Int.reduceEq, decide_true, decide_false, Int.le_refl, Int.lt_irrefl,
  List.length_cons, List.length_nil, List.replicate, List.cons_append, List.nil_append, Nat.add_zero, Nat.zero_add, Nat.reduceAdd, Nat.reduceSub, Option.getD_some, Option.getD_none, Bool.not_false, Bool.not_true, Bool.true_or, Bool.false_or, Bool.true_and, Bool.false_and, Bool.and_true, Bool.or_true, Bool.or_false, if_true, if_false, Bool.false_eq_true, ite_true, ite_false])
theorem tw_b {w : Nat} (h : w < 10) : bnd 120 (tw w) := by
  have := fact1 w h
  rw [Bool.and_eq_true] at this
  exact okB_b this.1
theorem bnd.tx {L : Nat} {s : List Nat} (h : bnd L s) (hL : L ≤ 500) : tx s := ⟨Nat.le_trans h.1 hL, h.2⟩
theorem ix_tw {w : Nat} (h : w < 10) : vIdx (.lst (texts.map .str)) (.int (w : Int)) = some (.str (tw w)) := by
  rw [show vIdx (.lst (texts.map .str)) (.int (w : Int)) = (texts.map PV.str)[w]? from at_nat, List.getElem?_map]
  unfold tw
  rw [List.getD_eq_getElem?_getD, List.getElem?_eq_getElem (by rw [tlen]; exact h)]
  rfl
theorem tw_v {w : Nat} (h : w < 10) : ∃ v, rdV w (tw w) = some v := by
  have := fact1 w h
  rw [Bool.and_eq_true] at this
  exact Option.isSome_iff_exists.mp this.2
theorem wat_mono {S : Store} {c m k : Nat} (h : Wat S c m) (hk : m ≤ k) : Wat S c k := by
  obtain ⟨a, b, st, h1, h2, h3, h4⟩ := h
  exact ⟨a, b, st, h1, h2, h3, by omega⟩
def cs7 : CS := .seq (.asg (.name 10) (.call 108 (.cons (.var 4) (.cons (.ix (.var 5) (.var 3)) (.nil))))) (.seq (.asg (.name 10) (.ite (.and (.cmp 4 (.call 104 (.cons (.var 4) (.cons (.c (.int 3)) (.nil)))) (.c (.int 0))) (.one (.cmp 5 (.var 10) (.c (.str []))))) (.call 108 (.cons (.var 4) (.cons (.var 10) (.nil)))) (.var 10))) (.seq (.asg (.name 11) (.call 105 (.cons (.var 3) (.cons (.var 10) (.nil))))) (.seq (.iff (.or (.cmp 4 (.var 11) (.c (.str [61, 111, 116, 104, 101, 114, 61]))) (.one (.and (.cmp 5 (.var 11) (.c (.str [61, 110, 111, 110, 101, 61]))) (.one (.cmp 5 (.call 106 (.cons (.var 3) (.cons (.var 11) (.nil)))) (.var 10)))))) (.seq (.ret (.c (.bl false))) (.skip)) (.skip)) (.skip))))
/-- what is told of a text is right -/
theorem told_ok (n w : Nat) (hw : w < 10) (S : Store) {b : List Nat} (hb : tx b) {a0 a1 a2 a4 a5 a6 a7 a8 a9 : Sl} :
    ∃ v, C (n + 61) i_law_read [.int (w : Int), .str b] S = .ok v S ∧ evS (Pn (n + 61)) (.seq (.iff (.or (.cmp 4 (.var 11) (.c (.str [61, 111, 116, 104, 101, 114, 61]))) (.one (.and (.cmp 5 (.var 11) (.c (.str [61, 110, 111, 110, 101, 61]))) (.one (.cmp 5 (.call 106 (.cons (.var 3) (.cons (.var 11) (.nil)))) (.var 10)))))) (.seq (.ret (.c (.bl false))) (.skip)) (.skip)) (.skip))
      [a0, a1, a2, .val (.int (w : Int)), a4, a5, a6, a7, a8, a9, .val (.str b), .val v] S = .ok (.nx [a0, a1, a2, .val (.int (w : Int)), a4, a5, a6, a7, a8, a9, .val (.str b), .val v]) S := by
  refine ⟨_, s_read_text n w hw S hb, ?_⟩
  cases hv : rdV w b with
  | none =>
    simp only [Option.getD_none, none9]
    walk_at "es"
    rfl
  | some v =>
    have k := vok_of w hw hb hv
    simp only [Option.getD_some]
    walk_at "es"
    rw [show PV.str [61, 111, 116, 104, 101, 114, 61] = .str otherS from rfl, k.ne]
    walk_at "es"
    obtain ⟨q, hq⟩ := k.nn
    rw [show PV.str [61, 110, 111, 110, 101, 61] = .str noneS from rfl, hq]
    walk_at "es"
    rw [show n + 61 = n + 1 + 60 by omega, k.sh (n + 1) S]
    walk_at "es"
    cases q <;> rfl
theorem b7 (n w : Nat) (hw : w < 10) {S : Store} {c m : Nat} (h : Wat S c m) (hm : m ≤ 5000) {a0 a1 a2 a6 a7 a8 a9 a10 a11 : Sl} :
    ∃ (b : List Nat) (v : PV) (S' : Store), evS (Pn (n + 61)) cs7 [a0, a1, a2, .val (.int (w : Int)), .val (.cell c), .val (.lst (texts.map .str)), a6, a7, a8, a9, a10, a11] S =
      .ok (.nx [a0, a1, a2, .val (.int (w : Int)), .val (.cell c), .val (.lst (texts.map .str)), a6, a7, a8, a9, .val (.str b), .val v]) S' ∧ Wat S' c (m + 11) ∧ S'.length = S.length := by
  obtain ⟨b1, S1, e1, t1, w1, l1⟩ := s_bent (n + 59) h (by omega) (tw_b hw) (by decide)
  obtain ⟨i, S2, e2, _, w2, l2⟩ := s_draw (n + 60) w1 (by omega) (many := 3) (by decide) (by decide)
  have main : ∃ (b : List Nat) (S' : Store), bnd 500 b ∧ Wat S' c (m + 11) ∧ S'.length = S.length ∧ evS (Pn (n + 61)) cs7 [a0, a1, a2, .val (.int (w : Int)), .val (.cell c), .val (.lst (texts.map .str)), a6, a7, a8, a9, a10, a11] S =
      ((C (n + 61) i_law_read [.int (w : Int), .str b] S').bnd fun v S1 => .ok (.nx [a0, a1, a2, .val (.int (w : Int)), .val (.cell c), .val (.lst (texts.map .str)), a6, a7, a8, a9, .val (.str b), .val v]) S1).bnd (seqK (evS (Pn (n + 61)) (.seq (.iff (.or (.cmp 4 (.var 11) (.c (.str [61, 111, 116, 104, 101, 114, 61]))) (.one (.and (.cmp 5 (.var 11) (.c (.str [61, 110, 111, 110, 101, 61]))) (.one (.cmp 5 (.call 106 (.cons (.var 3) (.cons (.var 11) (.nil)))) (.var 10)))))) (.seq (.ret (.c (.bl false))) (.skip)) (.skip)) (.skip)))) := by
    by_cases hq : (decide (i = 0) && !decide (b1 = [])) = true
    · obtain ⟨b2, S3, e3, t3, w3, l3⟩ := s_bent (n + 59) w2 (by omega) t1 (by decide)
      refine ⟨b2, S3, ⟨Nat.le_trans t3.1 (by decide), t3.2⟩, wat_mono w3 (by omega), by omega, ?_⟩
      unfold cs7
      walk_at "es"
      rw [ix_tw hw]
      walk_at "es"
      rw [e1]
      walk_at "es"
      rw [e2]
      walk_at "es"
      rw [hq]
      walk_at "es"
      rw [e3]
      walk_at "es"
    · refine ⟨b1, S2, ⟨Nat.le_trans t1.1 (by decide), t1.2⟩, wat_mono w2 (by omega), by omega, ?_⟩
      unfold cs7
      walk_at "es"
      rw [ix_tw hw]
      walk_at "es"
      rw [e1]
      walk_at "es"
      rw [e2]
      walk_at "es"
      rw [Bool.eq_false_iff.mpr hq]
      walk_at "es"
  obtain ⟨b, S', hb, hw', hl', he⟩ := main
  obtain ⟨v, hr, hk⟩ := told_ok n w hw S' (hb.tx (by decide)) (a0 := a0) (a1 := a1) (a2 := a2) (a4 := .val (.cell c)) (a5 := .val (.lst (texts.map .str))) (a6 := a6) (a7 := a7) (a8 := a8) (a9 := a9)
  refine ⟨b, v, S', ?_, hw', hl'⟩
  rw [he, hr, bnd_ok, bnd_ok]
  exact hk
end K75
end
section
set_option Elab.async false
set_option linter.all false
set_option autoImplicit false
set_option maxRecDepth 100000
set_option maxHeartbeats 0
namespace K75
open PySem PySem.Spec PyProof.Rows L2 Tg
local macro_rules | `(tactic| walk_at "es") => `(tactic| try simp only [st0, st1, st2, st3, st4, evS, ev, evO, dSeqS, dSkip, dExpr, dRet, dRetN, dIfS, dAsg, dC, dNil, dCons, consV, dTup, dLst, dB1, dB2, dChain, dIte, dAnd, dOr, dNot, dCall,
  dCutL, dCutH, dCutB, dM1, dIx, dSeq, dSrc, dLc, dFor, dPar2, oCons, oNil, wipeE, opF, cmF, u1F, u2F, m1F, isiN, rngF, Tgt.put, List.set, List.headD_cons, List.tail_cons,
  bnd_ok, bnd_bad, bnd_exc, okv_s, onBl_b, onI_i, onS_s, onT_s, tst_b, tstS_b, okE_s, outF_rt, outF_nx, outF_exc, seqK_nx, seqK_rt, okL_s, asL_l, okN0, okN1, okN2, okN3, okN4, okN5, v0, v1, v2, v3, v4, v5, v6, v7, v8, v9, v10, v11,
  isi1, isi2, isi3, isi4, isi5, iss1, iss2, iss3, iss4, iss5, ist1, ist2, ist3, ist4, ist5, isn1, isn2, isn3, isb5, len_t, len_l, lt_i, le_i, gt_i, ge_i, eq_i, ne_i, eq_s, ne_s, lt_s, add_i, sub_i, neg_i, is_non, is_t, is_s, is_i, isn_non, isn_t, isn_s, isn_i,
  at_t0, at_t1, at_t2, at_t3, at_t4, ixt, ixl, ixs, sq_t, sq_l, sq_s, tup_l, in_c, nin_c, and_bl, or_bl, ite_ok, ret_ok, guard_ok, ib_and, ib_or, ib_f, nc0, nc1, nc2, nc3, nc4, nc5, nc6, Int.reduceLE, Int.reduceLT, Int.reduceEq, decide_true, decide_false, Int.le_refl, Int.lt_irrefl,
  List.length_cons, List.length_nil, List.replicate, List.cons_append, List.nil_append, Nat.add_zero, Nat.zero_add, Nat.reduceAdd, Nat.reduceSub, Option.getD_some, Option.getD_none, Bool.not_false, Bool.not_true, Bool.true_or, Bool.false_or, Bool.true_and, Bool.false_and, Bool.and_true, Bool.or_true, Bool.or_false, if_true, if_false, Bool.false_eq_true, ite_true, ite_false])
theorem for_x {α γ : Type} {t : Tgt} {db : DenS} (e : α → PV) (ρ : γ → Tg.Env) (I : List α → Store → Prop) (h : ∀ x xs g S, I (x :: xs) S → ∃ ρ1 g' S', t.put (e x) (ρ g) = some ρ1 ∧ db ρ1 S = .ok (.nx (ρ g')) S' ∧ I xs S') :
    ∀ xs g S, I xs S → ∃ g' S', forGo t db (xs.map e) (ρ g) S = .ok (.nx (ρ g')) S' ∧ I [] S'
  | [], g, S, hI => ⟨g, S, rfl, hI⟩
  | x :: xs, g, S, hI => by
    obtain ⟨ρ1, g', S', h1, h2, h3⟩ := h x xs g S hI
    obtain ⟨g2, S2, q1, q2⟩ := for_x e ρ I h xs g' S' h3
    refine ⟨g2, S2, ?_, q2⟩
    rw [List.map_cons]
    unfold forGo
    rw [h1]
    simp only
    rw [h2, bnd_ok]
    exact q1
theorem rngL0 (n : Nat) : rngL 0 n = (List.range n).map fun k : Nat => PV.int (k : Int) := by
  unfold rngL
  apply List.map_congr_left
  intro k _
  rw [Int.zero_add]
theorem rng_n (n : Nat) (h : n ≤ 1000000) : rng1 [.int (n : Int)] = some ((List.range n).map fun k : Nat => PV.int (k : Int)) := by
  rw [rng1_ok (by omega) (by omega), ← rngL0]
  rfl
theorem nw_b {w : Nat} (h : w < 10) : bnd 120 (nw w) := by
  have := fact2 w h
  rw [Bool.and_eq_true] at this
  exact okB_b this.1
theorem ix_nw {w : Nat} (h : w < 10) : vIdx (.lst (noneT.map .str)) (.int (w : Int)) = some (.str (nw w)) := by
  rw [show vIdx (.lst (noneT.map .str)) (.int (w : Int)) = (noneT.map PV.str)[w]? from at_nat, List.getElem?_map]
  unfold nw
  rw [List.getD_eq_getElem?_getD, List.getElem?_eq_getElem (show w < noneT.length from h)]
  rfl
theorem nw_v {w : Nat} (h : w < 10) (h1 : w ≠ 1) : rdV w (nw w) = none := by
  have := fact2 w h
  rw [Bool.and_eq_true, Bool.or_eq_true] at this
  rcases this.2 with q | q
  · exact (h1 (by simpa using q)).elim
  · exact Option.isNone_iff_eq_none.mp q
theorem repr_c {v : PV} {d : PyData} (h : toD v = some d) (hs : showOk d = true) : ∃ r, uRepr v = some (.str r) := by
  unfold uRepr
  rw [h]
  simp only
  rw [if_pos hs]
  exact ⟨_, rfl⟩
def oddL (t : List Nat) : List PV := [.non, .int 5, .lst [.str t], .tup [.str t], .str (t ++ [32]), .str ([32] ++ t), .str []]
/-- an odd object is refused -/
theorem odd_ok (n w : Nat) (hw : w < 10) (S : Store) {i : Nat} (hi : i < 7) : ∃ v, vIdx (.lst (oddL (tw w))) (.int (i : Int)) = some v ∧ C (n + 61) i_law_read [.int (w : Int), v] S = .ok none9 S := by
  have ht := tw_b hw
  have f4 := fact4 w hw
  have f3 := fact3 w hw
  simp only [Bool.and_eq_true] at f4 f3
  have hl := ht.1
  have txt : ∀ s : List Nat, s.length ≤ 500 → (∀ c ∈ s, c < 128) → rdV w s = none → C (n + 61) i_law_read [.int (w : Int), .str s] S = .ok none9 S := fun s h1 h2 h3 => by
    rw [s_read_text n w hw S ⟨h1, h2⟩, h3]
    rfl
  have : i = 0 ∨ i = 1 ∨ i = 2 ∨ i = 3 ∨ i = 4 ∨ i = 5 ∨ i = 6 := by omega
  rcases this with rfl | rfl | rfl | rfl | rfl | rfl | rfl
  · refine ⟨_, rfl, ?_⟩
    obtain ⟨r, hr⟩ := repr_c (v := .non) rfl (by decide +kernel)
    exact s_read_odd (n + 54) w hw S rfl (fun m => s_anew_n (m + 1) S) hr
  · refine ⟨_, rfl, ?_⟩
    obtain ⟨r, hr⟩ := repr_c (v := .int 5) rfl (by decide +kernel)
    exact s_read_odd (n + 54) w hw S rfl (fun m => s_anew_i (m + 1) S 5) hr
  · refine ⟨_, rfl, ?_⟩
    obtain ⟨r, hr⟩ := repr_c (v := .lst [.str (tw w)]) rfl f4.1
    exact s_read_odd (n + 54) w hw S rfl (fun m => s_anew_l m S _) hr
  · refine ⟨_, rfl, ?_⟩
    obtain ⟨r, hr⟩ := repr_c (v := .tup [.str (tw w)]) rfl f4.2
    exact s_read_odd (n + 54) w hw S rfl (fun m => s_anew_t m S _) hr
  · refine ⟨_, rfl, txt _ (by simp; omega) (fun c hc => ?_) (Option.isNone_iff_eq_none.mp f3.1)⟩
    simp at hc
    rcases hc with hc | rfl
    · exact ht.2 c hc
    · decide
  · refine ⟨_, rfl, txt _ (by simp; omega) (fun c hc => ?_) (Option.isNone_iff_eq_none.mp f3.2.1)⟩
    simp at hc
    rcases hc with rfl | hc
    · decide
    · exact ht.2 c hc
  · exact ⟨_, rfl, txt _ (by simp) (fun c hc => by cases hc) (Option.isNone_iff_eq_none.mp f3.2.2)⟩
def cs3a : CS := .seq (.iff (.and (.cmp 5 (.var 3) (.c (.int 1))) (.one (.cmp 5 (.call 105 (.cons (.var 3) (.cons (.ix (.var 1) (.var 3)) (.nil)))) (.c (.str [61, 110, 111, 110, 101, 61]))))) (.seq (.ret (.c (.bl false))) (.skip)) (.skip)) (.seq (.asg (.name 8) (.ix (.var 5) (.var 3))) (.seq (.asg (.name 9) (.lst (.cons (.c (.non)) (.cons (.c (.int 5)) (.cons (.lst (.cons (.var 8) (.nil))) (.cons (.tup (.cons (.var 8) (.nil))) (.cons (.bin 0 (.var 8) (.c (.str [32]))) (.cons (.bin 0 (.c (.str [32])) (.var 8)) (.cons (.c (.str [])) (.nil)))))))))) (.seq (.iff (.cmp 5 (.call 105 (.cons (.var 3) (.cons (.ix (.var 9) (.call 104 (.cons (.var 4) (.cons (.c (.int 7)) (.nil))))) (.nil)))) (.c (.str [61, 110, 111, 110, 101, 61]))) (.seq (.ret (.c (.bl false))) (.skip)) (.skip)) (.skip))))
theorem okN7 {a b c d e f g v : PV} {S : Store} : okN [a, b, c, d, e, f, g] v S = .ok v S := if_pos (show 7 ≤ sizeLine by decide)
theorem b3a (n w : Nat) (hw : w < 10) {S : Store} {c m : Nat} (h : Wat S c m) (hm : m ≤ 5000) {a0 a2 a6 a7 a8 a9 a10 a11 : Sl} :
    ∃ (s8 s9 : Sl) (S' : Store), evS (Pn (n + 61)) cs3a [a0, .val (.lst (noneT.map .str)), a2, .val (.int (w : Int)), .val (.cell c), .val (.lst (texts.map .str)), a6, a7, a8, a9, a10, a11] S =
      .ok (.nx [a0, .val (.lst (noneT.map .str)), a2, .val (.int (w : Int)), .val (.cell c), .val (.lst (texts.map .str)), a6, a7, s8, s9, a10, a11]) S' ∧ Wat S' c (m + 1) ∧ S'.length = S.length := by
  obtain ⟨i, S2, e2, r2, w2, l2⟩ := s_draw (n + 60) h (by omega) (many := 7) (by decide) (by decide)
  obtain ⟨k, rfl⟩ : ∃ a : Nat, i = (a : Int) := ⟨i.toNat, by omega⟩
  obtain ⟨v, hv, hr⟩ := odd_ok n w hw S2 (i := k) (by omega)
  have ht := (tw_b hw).1
  refine ⟨.val (.str (tw w)), .val (.lst (oddL (tw w))), S2, ?_, w2, l2⟩
  unfold cs3a
  walk_at "es"
  rw [ix_nw hw]
  walk_at "es"
  have rest : evS (Pn (n + 61)) (.seq (.asg (.name 8) (.ix (.var 5) (.var 3))) (.seq (.asg (.name 9) (.lst (.cons (.c (.non)) (.cons (.c (.int 5)) (.cons (.lst (.cons (.var 8) (.nil))) (.cons (.tup (.cons (.var 8) (.nil))) (.cons (.bin 0 (.var 8) (.c (.str [32]))) (.cons (.bin 0 (.c (.str [32])) (.var 8)) (.cons (.c (.str [])) (.nil)))))))))) (.seq (.iff (.cmp 5 (.call 105 (.cons (.var 3) (.cons (.ix (.var 9) (.call 104 (.cons (.var 4) (.cons (.c (.int 7)) (.nil))))) (.nil)))) (.c (.str [61, 110, 111, 110, 101, 61]))) (.seq (.ret (.c (.bl false))) (.skip)) (.skip)) (.skip)))) [a0, .val (.lst (noneT.map .str)), a2, .val (.int (w : Int)), .val (.cell c), .val (.lst (texts.map .str)), a6, a7, a8, a9, a10, a11] S =
      .ok (.nx [a0, .val (.lst (noneT.map .str)), a2, .val (.int (w : Int)), .val (.cell c), .val (.lst (texts.map .str)), a6, a7, .val (.str (tw w)), .val (.lst (oddL (tw w))), a10, a11]) S2 := by
    walk_at "es"
    rw [ix_tw hw]
    walk_at "es"
    rw [add_s (by simp; omega)]
    walk_at "es"
    rw [add_s (by simp; omega)]
    walk_at "es"
    rw [okN7]
    walk_at "es"
    rw [e2]
    walk_at "es"
    rw [show ([PV.non, .int 5, .lst [.str (tw w)], .tup [.str (tw w)], .str (tw w ++ [32]), .str (32 :: tw w), .str []] : List PV) = oddL (tw w) from rfl, hv]
    walk_at "es"
    rw [hr]
    walk_at "es"
    unfold none9
    walk_at "es"
  by_cases h1 : w = 1
  · subst h1
    rw [show decide (((1 : Nat) : Int) = 1) = true from rfl]
    walk_at "es"
    simp only [evS, ev, opF, cmF, u1F, dSeqS] at rest
    exact rest
  · rw [decide_eq_false (show ¬ (w : Int) = 1 by omega)]
    walk_at "es"
    rw [s_read_text n w hw S ((nw_b hw).tx (by decide)), nw_v hw h1]
    simp only [Option.getD_none, none9]
    walk_at "es"
    simp only [evS, ev, opF, cmF, u1F, dSeqS] at rest
    exact rest
end K75
end
section
set_option Elab.async false
set_option linter.all false
set_option autoImplicit false
set_option maxRecDepth 100000
set_option maxHeartbeats 0
namespace K75
open PySem PySem.Spec PyProof.Rows L2 Tg
local macro_rules | `(tactic| walk_at "es") => `(tactic| try simp only [st0, st1, st2, st3, st4, evS, ev, evO, dSeqS, dSkip, dExpr, dRet, dRetN, dIfS, dAsg, dC, dNil, dCons, consV, dTup, dLst, dB1, dB2, dChain, dIte, dAnd, dOr, dNot, dCall,
  dCutL, dCutH, dCutB, dM1, dIx, dSeq, dSrc, dLc, dFor, dPar2, oCons, oNil, wipeE, opF, cmF, u1F, u2F, m1F, isiN, rngF, Tgt.put, List.set, List.headD_cons, List.tail_cons,
  bnd_ok, bnd_bad, bnd_exc, okv_s, onBl_b, onI_i, onS_s, onT_s, tst_b, tstS_b, okE_s, outF_rt, outF_nx, outF_exc, seqK_nx, seqK_rt, okL_s, asL_l, okN0, okN1, okN2, okN3, okN4, okN5, v0, v1, v2, v3, v4, v5, v6, v7, v8, v9, v10, v11,
  isi1, isi2, isi3, isi4, isi5, iss1, iss2, iss3, iss4, iss5, ist1, ist2, ist3, ist4, ist5, isn1, isn2, isn3, isb5, len_t, len_l, lt_i, le_i, gt_i, ge_i, eq_i, ne_i, eq_s, ne_s, lt_s, add_i, sub_i, neg_i, is_non, is_t, is_s, is_i, isn_non, isn_t, isn_s, isn_i,
  at_t0, at_t1, at_t2, at_t3, at_t4, ixt, ixl, ixs, sq_t, sq_l, sq_s, tup_l, in_c, nin_c, and_bl, or_bl, ite_ok, ret_ok, guard_ok, ib_and, ib_or, ib_f, nc0, nc1, nc2, nc3, nc4, nc5, nc6, Int.reduceLE, Int.reduceLT, Int.reduceEq, decide_true, decide_false, Int.le_refl, Int.lt_irrefl,
  List.length_cons, List.length_nil, List.replicate, List.cons_append, List.nil_append, Nat.add_zero, Nat.zero_add, Nat.reduceAdd, Nat.reduceSub, Option.getD_some, Option.getD_none, Bool.not_false, Bool.not_true, Bool.true_or, Bool.false_or, Bool.true_and, Bool.false_and, Bool.and_true, Bool.or_true, Bool.or_false, if_true, if_false, Bool.false_eq_true, ite_true, ite_false])
def cs3 : CS := .seq (.asg (.name 6) (.call 105 (.cons (.var 3) (.cons (.ix (.var 5) (.var 3)) (.nil))))) (.seq (.iff (.or (.cmp 6 (.var 6) (.tup (.cons (.c (.str [61, 110, 111, 110, 101, 61])) (.cons (.c (.str [61, 111, 116, 104, 101, 114, 61])) (.nil))))) (.one (.cmp 5 (.call 106 (.cons (.var 3) (.cons (.var 6) (.nil)))) (.ix (.var 5) (.var 3))))) (.seq (.ret (.c (.bl false))) (.skip)) (.skip)) (.seq (.for (.name 7) (.rng 1 (.cons (.c (.int 4)) (.nil))) cs7) cs3a))
theorem b3 (n w : Nat) (hw : w < 10) {S : Store} {c m : Nat} (h : Wat S c m) (hm : m ≤ 4000) {a0 a2 a6 a7 a8 a9 a10 a11 : Sl} :
    ∃ (g : Sl × Sl × Sl × Sl × Sl × Sl) (S' : Store), evS (Pn (n + 61)) cs3 [a0, .val (.lst (noneT.map .str)), a2, .val (.int (w : Int)), .val (.cell c), .val (.lst (texts.map .str)), a6, a7, a8, a9, a10, a11] S =
      .ok (.nx [a0, .val (.lst (noneT.map .str)), a2, .val (.int (w : Int)), .val (.cell c), .val (.lst (texts.map .str)), g.1, g.2.1, g.2.2.1, g.2.2.2.1, g.2.2.2.2.1, g.2.2.2.2.2]) S' ∧ Wat S' c (m + 50) ∧ S'.length = S.length := by
  obtain ⟨v, hv⟩ := tw_v hw
  have tt := (tw_b hw).tx (by decide)
  have k := vok_of w hw tt hv
  obtain ⟨⟨g7, g10, g11⟩, S1, q1, ⟨⟨m1, w1, hm1⟩, l1⟩⟩ := for_x (t := .name 7) (db := evS (Pn (n + 61)) cs7) (fun k : Nat => PV.int (k : Int)) (fun g : Sl × Sl × Sl => [a0, .val (.lst (noneT.map .str)), a2, .val (.int (w : Int)), .val (.cell c), .val (.lst (texts.map .str)), .val v, g.1, a8, a9, g.2.1, g.2.2])
    (fun xs S' => (∃ m', Wat S' c m' ∧ m' + 11 * xs.length ≤ m + 44) ∧ S'.length = S.length) (fun x xs g S' hI => by
      obtain ⟨⟨m', hw', hm'⟩, hl'⟩ := hI
      rw [List.length_cons] at hm'
      obtain ⟨b, v', S2, r1, r2, r3⟩ := b7 (n := n) w hw hw' (by omega) (a0 := a0) (a1 := .val (.lst (noneT.map .str))) (a2 := a2) (a6 := .val v) (a7 := .val (.int (x : Int))) (a8 := a8) (a9 := a9) (a10 := g.2.1) (a11 := g.2.2)
      exact ⟨_, (.val (.int (x : Int)), .val (.str b), .val v'), S2, rfl, r1, ⟨m' + 11, r2, by omega⟩, by omega⟩) (List.range 4) (a7, a10, a11) S ⟨⟨m, h, by simp⟩, rfl⟩
  obtain ⟨s8, s9, S2, q2, w2, l2⟩ := b3a n w hw w1 (by simp at hm1; omega) (a0 := a0) (a2 := a2) (a6 := .val v) (a7 := g7) (a8 := a8) (a9 := a9) (a10 := g10) (a11 := g11)
  refine ⟨(.val v, g7, s8, s9, g10, g11), S2, ?_, wat_mono w2 (by simp at hm1; omega), by omega⟩
  unfold cs3
  walk_at "es"
  rw [ix_tw hw]
  walk_at "es"
  rw [s_read_text n w hw S tt, hv]
  simp only [Option.getD_some]
  walk_at "es"
  rw [show ([PV.str [61, 110, 111, 110, 101, 61], .str [61, 111, 116, 104, 101, 114, 61]] : List PV) = [.str noneS, .str otherS] from rfl, k.ni]
  walk_at "es"
  rw [show n + 61 = n + 1 + 60 by omega, k.sh (n + 1) S]
  walk_at "es"
  rw [ix_tw hw]
  walk_at "es"
  rw [show (PV.int 4) = .int ((4 : Nat) : Int) from rfl, rng_n 4 (by decide)]
  walk_at "es"
  rw [show n + 1 + 60 = n + 61 by omega, q1]
  walk_at "es"
  try rw [decide_eq_true (show tw w = tw w from rfl)]
  try walk_at "es"
  exact q2
def cs2 : CS := .seq (.par2 4 5 [false, false] (.cons (.call 103 (.cons (.var 0) (.cons (.var 2) (.nil)))) (.cons (.call 107 (.nil)) (.nil)))) (.seq (.for (.name 3) (.rng 1 (.cons (.c (.int 10)) (.nil))) cs3) (.skip))
theorem b2 (n : Nat) (ns : List Int) (hl : ns.length ≤ 63) (k : Nat) (hk : k ≤ 100) (S : Store) {a3 a4 a5 a6 a7 a8 a9 a10 a11 : Sl} :
    ∃ (g : Sl × Sl × Sl × Sl × Sl × Sl × Sl × Sl × Sl) (S' : Store), evS (Pn (n + 61)) cs2 [.val (.lst (ns.map .int)), .val (.lst (noneT.map .str)), .val (.int (k : Int)), a3, a4, a5, a6, a7, a8, a9, a10, a11] S =
      .ok (.nx [.val (.lst (ns.map .int)), .val (.lst (noneT.map .str)), .val (.int (k : Int)), g.1, g.2.1, g.2.2.1, g.2.2.2.1, g.2.2.2.2.1, g.2.2.2.2.2.1, g.2.2.2.2.2.2.1, g.2.2.2.2.2.2.2.1, g.2.2.2.2.2.2.2.2]) S' := by
  obtain ⟨a, b, e1, hb⟩ := s_well (n + 60) S ns (by omega) k (by omega)
  have hW : Wat (S ++ [[.int a, .int b, .int 0]]) S.length 0 := ⟨a, b, 0, by rw [List.getElem?_append_right (Nat.le_refl _), Nat.sub_self]; rfl, hb, by decide, by decide⟩
  obtain ⟨⟨g3, g6, g7, g8, g9, g10, g11⟩, S1, q1, _⟩ := for_x (t := .name 3) (db := evS (Pn (n + 61)) cs3) (fun k : Nat => PV.int (k : Int)) (fun g : Sl × Sl × Sl × Sl × Sl × Sl × Sl => [.val (.lst (ns.map .int)), .val (.lst (noneT.map .str)), .val (.int (k : Int)), g.1, .val (.cell S.length), .val (.lst (texts.map .str)), g.2.1, g.2.2.1, g.2.2.2.1, g.2.2.2.2.1, g.2.2.2.2.2.1, g.2.2.2.2.2.2])
    (fun xs S' => (∃ m', Wat S' S.length m' ∧ m' + 50 * xs.length ≤ 500) ∧ ∀ x ∈ xs, x < 10) (fun x xs g S' hI => by
      obtain ⟨⟨m', hw', hm'⟩, hx⟩ := hI
      rw [List.length_cons] at hm'
      obtain ⟨g', S2, r1, r2, r3⟩ := b3 n x (hx x (List.mem_cons_self ..)) hw' (by omega) (a0 := .val (.lst (ns.map .int))) (a2 := .val (.int (k : Int))) (a6 := g.2.1) (a7 := g.2.2.1) (a8 := g.2.2.2.1) (a9 := g.2.2.2.2.1) (a10 := g.2.2.2.2.2.1) (a11 := g.2.2.2.2.2.2)
      exact ⟨_, (.val (.int (x : Int)), g'.1, g'.2.1, g'.2.2.1, g'.2.2.2.1, g'.2.2.2.2.1, g'.2.2.2.2.2), S2, rfl, r1, ⟨m' + 50, r2, by omega⟩, fun y hy => hx y (List.mem_cons_of_mem _ hy)⟩) (List.range 10) (a3, a6, a7, a8, a9, a10, a11) _ ⟨⟨0, hW, by simp⟩, fun x hx => List.mem_range.mp hx⟩
  refine ⟨(g3, .val (.cell S.length), .val (.lst (texts.map .str)), g6, g7, g8, g9, g10, g11), S1, ?_⟩
  unfold cs2
  walk_at "es"
  rw [show n + 61 = n + 60 + 1 by omega, e1]
  walk_at "es"
  rw [s_texts (n + 60)]
  walk_at "es"
  rw [show (PV.int 10) = .int ((10 : Nat) : Int) from rfl, rng_n 10 (by decide)]
  walk_at "es"
  rw [show n + 60 + 1 = n + 61 by omega, q1]
  walk_at "es"
theorem okN10 {a b c d e f g h i j v : PV} {S : Store} : okN [a, b, c, d, e, f, g, h, i, j] v S = .ok v S := if_pos (show 10 ≤ sizeLine by decide)
theorem plain (ns : List Int) (h : ns.length ≤ 63) : ∃ S, callN G0 R0 F0 80 i_law [.lst (ns.map PV.int)] [] = .ok (.bl true) S := by
  have hk : ∃ r : Nat, r ≤ 63 ∧ (if (if (ns.length : Int) < 6 then (ns.length : Int) else 6) > 1 then (if (ns.length : Int) < 6 then (ns.length : Int) else 6) else 1) = (r : Int) := by
    refine ⟨if (if ns.length < 6 then ns.length else 6) > 1 then (if ns.length < 6 then ns.length else 6) else 1, ?_, ?_⟩
    · split <;> split <;> omega
    · split <;> split <;> split <;> split <;> omega
  obtain ⟨r, hr, er⟩ := hk
  obtain ⟨⟨g2, g3, g4, g5, g6, g7, g8, g9, g10, g11⟩, S1, q1, _⟩ := for_x (t := .name 2) (db := evS (Pn (18 + 61)) cs2) (fun k : Nat => PV.int (k : Int)) (fun g : Sl × Sl × Sl × Sl × Sl × Sl × Sl × Sl × Sl × Sl => [.val (.lst (ns.map .int)), .val (.lst (noneT.map .str)), g.1, g.2.1, g.2.2.1, g.2.2.2.1, g.2.2.2.2.1, g.2.2.2.2.2.1, g.2.2.2.2.2.2.1, g.2.2.2.2.2.2.2.1, g.2.2.2.2.2.2.2.2.1, g.2.2.2.2.2.2.2.2.2])
    (fun xs S' => ∀ x ∈ xs, x < 63) (fun x xs g S' hI => by
      obtain ⟨g', S2, r1⟩ := b2 18 ns h x (by have := hI x (List.mem_cons_self ..); omega) S' (a3 := g.2.1) (a4 := g.2.2.1) (a5 := g.2.2.2.1) (a6 := g.2.2.2.2.1) (a7 := g.2.2.2.2.2.1) (a8 := g.2.2.2.2.2.2.1) (a9 := g.2.2.2.2.2.2.2.1) (a10 := g.2.2.2.2.2.2.2.2.1) (a11 := g.2.2.2.2.2.2.2.2.2)
      exact ⟨_, (.val (.int (x : Int)), g'), S2, rfl, r1, fun y hy => hI y (List.mem_cons_of_mem _ hy)⟩) (List.range r) (.no, .no, .no, .no, .no, .no, .no, .no, .no, .no) [] (fun x hx => by have := List.mem_range.mp hx; omega)
  refine ⟨S1, ?_⟩
  show C (79 + 1) 109 _ _ = _
  rw [cc (b := .seq (.asg (.name 1) (.lst (.cons (.c (.str [122])) (.cons (.c (.str [97, 32, 98])) (.cons (.c (.str [97, 62, 98])) (.cons (.c (.str [51, 32, 59, 32, 97])) (.cons (.c (.str [48, 32, 59, 32, 49])) (.cons (.c (.str [50, 32, 124, 32, 124, 32, 48, 32, 124, 32, 45, 32, 124, 32, 48])) (.cons (.c (.str [110, 111, 117, 110, 40, 41])) (.cons (.c (.str [115, 32, 124, 32, 115, 32, 124, 32, 115])) (.cons (.c (.str [91, 97, 32, 97, 58, 65, 93])) (.cons (.c (.str [97, 32, 66])) (.nil))))))))))))) (.seq (.for (.name 2) (.rng 1 (.cons (.u2 0 (.c (.int 1)) (.u2 1 (.c (.int 6)) (.u1 0 (.var 0)))) (.nil))) cs2) (.seq (.ret (.c (.bl true))) (.skip)))) rfl 79 _ [] rfl]
  walk_at "es"
  rw [okN10]
  walk_at "es"
  rw [List.length_map, min_i]
  walk_at "es"
  rw [max_i]
  walk_at "es"
  rw [er, rng_n r (by omega)]
  walk_at "es"
  rw [show ([PV.str [122], .str [97, 32, 98], .str [97, 62, 98], .str [51, 32, 59, 32, 97], .str [48, 32, 59, 32, 49], .str [50, 32, 124, 32, 124, 32, 48, 32, 124, 32, 45, 32, 124, 32, 48], .str [110, 111, 117, 110, 40, 41], .str [115, 32, 124, 32, 115, 32, 124, 32, 115], .str [91, 97, 32, 97, 58, 65, 93], .str [97, 32, 66]] : List PV) = noneT.map .str from rfl, show (79 : Nat) = 18 + 61 from rfl, q1]
  walk_at "es"
end K75
end
section
set_option Elab.async false
set_option maxRecDepth 100000
set_option maxHeartbeats 0

open PySem PySem.W PySem.Calls PyProof.Rows
set_option maxRecDepth 100000 in
set_option maxHeartbeats 0 in
theorem PySem.Challenge.cw_tonguerules_k75_texts_that_are_none_holds : PySem.Challenge.rw_tonguerules_k75_texts_that_are_none.Holds := by
  w_on; o_law
  refine HandSHeadRun.head_any (r := K75.RW) (q := view K75.RW.prog [K75.lawAt]) (H := K75.hk) (ob := K75.ob) (M := 40000) (loose := K75.loose) (d := HandSHeadRun.topDef K75.RW.prog K75.lawAt) (kwd := []) K75.ob_eq
    (by kernel_rfl) (fun s => by kernel_rfl) K75.run (by kernel_rfl) (by kernel_rfl) (by kernel_rfl) (by rfl) (by first | assumption | decide +kernel) (by decide +kernel) ⟨rfl, rfl, rfl, rfl, rfl, by decide +kernel⟩ ?hw ?hc
  case hw => w_witness2
  case hc =>
    exact Tg.walkL (l := PySem.Challenge.rw_tonguerules_k75_texts_that_are_none) (L := K75.L0) (F := K75.F0) (Ns := K75.N0) (n := 63) (m := 80) (i := K75.i_law) rfl (by decide) (by kernel_rfl) ⟨rfl, by decide, by decide⟩ rfl rfl K75.lits
      (fun w mg base K j f hj c hK hG => K75.ext_fact hj c hK hG) (by
        have e : (HandSHeadRun.topDef K75.RW.prog K75.lawAt).name = ("law" : PySem.Str) := by kernel_rfl
        rw [e]
        exact List.mem_of_getElem? (i := K75.lawG) (by kernel_rfl)) K75.plain
end
