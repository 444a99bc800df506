import PyProof.Rows.All
import Wide.All
import OpenK.AllK
import Wide.FinOn
import HandS.ForMost
import HandS.ForExc
import HandS.Lambda
import HandS.TupAny
import HandS.Style
import HandS.TupMul
import HandS.Strs
import HandS.TupSets
import HandS.SortInts
import HandS.Zip
import HandS.Wide
import HandS.IsInst
import HandS.Deep
import HandS.Dict
import HandS.Conv
import KE.KRevSl
import HandS.Flow
import KE.KUnpack
import HandS.HeadHook2
import HandS.ExcIs
import KE.KDflt
import HandS.Nested
import HandS.HeadHook4
import KE.KStateDown
import HandS.Ends
import HandS.More
import HandS.Words
import HandS.WordsExc
import HandS.Defaults
import HandS.Head0
import HandS.Head1
import HandS.Head2
import HandS.HeadEnd
import HandS.HeadHook1
import HandS.EndTab
import HandS.HeadWalk
import PySem.Challenge.RW_carrycurve_k07_whole_times_and_copies
set_option Elab.async false
set_option linter.all false
set_option maxRecDepth 100000
set_option maxHeartbeats 4000000
section
/-! Ev1: plain data, the store of changing things, the combinators: a big-step reading of the part of Python that the text uses. No model here. -/
namespace EV
open PySem

/-- plain data: never changed once made -/
inductive P where
  | non | bl (b : Bool) | int (i : Int) | str (s : Str) | tup (ps : List P) | lst (ps : List P) | ed | fn (f : Nat)
  deriving Inhabited
/-- a value: plain data, a changing thing by its number, a caught error -/
inductive D where
  | p (x : P) | loc (l : Nat) | exc (c : Nat) (a : Option P)
  deriving Inhabited
/-- a key of a dict -/
abbrev Ky := Sum Int Str
/-- a changing thing -/
inductive MO where
  | dead | lst (xs : List P) | dct (kvs : List (Ky × P))
  deriving Inhabited
abbrev Sto := List MO
abbrev Sg := List (Option D)
inductive Res (α : Type) where
  | ok (a : α) (s : Sto) | exn (c : Nat) (a : Option P) (s : Sto) | stk
abbrev Mo (α : Type) := Sto → Res α
def Mo.pure {α : Type} (a : α) : Mo α := fun s => .ok a s
def Res.bind {α β : Type} (r : Res α) (f : α → Mo β) : Res β := match r with
  | .ok a s1 => f a s1
  | .exn c a s1 => .exn c a s1
  | .stk => .stk
def Mo.bind {α β : Type} (m : Mo α) (f : α → Mo β) : Mo β := fun s => (m s).bind f
def Mo.stk {α : Type} : Mo α := fun _ => .stk
def Mo.opt {α : Type} : Option α → Mo α
  | some a => Mo.pure a
  | none => Mo.stk
abbrev Call := Nat → List D → Mo D
/-- what is around: the defs, the defs some levels lower (for a lambda's body), what a handed in lambda does -/
structure Cl where
  C : Call
  lo : Call
  act : Mo D
  lam : Nat → Mo D → Mo D
abbrev ME := Cl → Sg → Mo D
abbrev MT := Cl → Sg → Mo Bool
abbrev MA := Cl → Sg → Mo (List D)
/-- a target -/
abbrev MG := Cl → D → Sg → Mo Sg
/-- how a statement ends -/
inductive Fl where
  | nx (σ : Sg) | rt (d : D) | bk (σ : Sg) | ct (σ : Sg)
inductive SR where
  | ok (f : Fl) (s : Sto) | exn (c : Nat) (a : Option P) (σ : Sg) (s : Sto) | stk
abbrev MS := Cl → Sg → Sto → SR

/-! ### plain operations -/
def L : Nat := 16777216
mutual
def P.same : P → P → Bool
  | .non, .non => true
  | .bl a, .bl b => a == b
  | .int a, .int b => a == b
  | .str a, .str b => decide (a = b)
  | .tup a, .tup b => P.sameL a b
  | .lst a, .lst b => P.sameL a b
  | .ed, .ed => true
  | .fn a, .fn b => a == b
  | _, _ => false
def P.sameL : List P → List P → Bool
  | [], [] => true
  | x :: xs, y :: ys => P.same x y && P.sameL xs ys
  | _, _ => false
end
mutual
theorem P.same_eq : ∀ (a b : P), P.same a b = true → a = b
  | a, b, h => by
    cases a <;> cases b <;> first
      | rfl
      | (simp [P.same] at h; done)
      | (simp [P.same] at h; subst h; rfl)
      | (simp only [P.same] at h; rw [P.sameL_eq _ _ h])
theorem P.sameL_eq : ∀ (a b : List P), P.sameL a b = true → a = b
  | [], [], _ => rfl
  | x :: xs, y :: ys, h => by
    simp only [P.sameL, Bool.and_eq_true] at h
    rw [P.same_eq _ _ h.1, P.sameL_eq _ _ h.2]
  | [], y :: ys, h => by simp [P.sameL] at h
  | x :: xs, [], h => by simp [P.sameL] at h
end
mutual
theorem P.same_refl : ∀ (a : P), P.same a a = true
  | .non | .ed => by simp [P.same]
  | .bl _ | .int _ | .str _ | .fn _ => by simp [P.same]
  | .tup ps | .lst ps => by simp only [P.same]; exact P.sameL_refl ps
theorem P.sameL_refl : ∀ (a : List P), P.sameL a a = true
  | [] => by simp [P.sameL]
  | x :: xs => by simp only [P.sameL, Bool.and_eq_true]; exact ⟨P.same_refl x, P.sameL_refl xs⟩
end
/-- what is read of a value -/
def rd (s : Sto) : D → Option P
  | .p x => some x
  | .loc l => match s[l]? with
    | some (.lst xs) => some (.lst xs)
    | _ => none
  | .exc _ _ => none
/-- laid into a tuple or a list: from now on never changed -/
def frz (s : Sto) : D → Option (P × Sto)
  | .p x => some (x, s)
  | .loc l => match s[l]? with
    | some (.lst xs) => some (.lst xs, s.set l .dead)
    | some (.dct []) => some (.ed, s.set l .dead)
    | _ => none
  | .exc _ _ => none
def frzL (s : Sto) : List D → Option (List P × Sto)
  | [] => some ([], s)
  | d :: ds => match frz s d with
    | some (x, s1) => match frzL s1 ds with
      | some (xs, s2) => some (x :: xs, s2)
      | none => none
    | none => none
/-! data that == is known of -/
mutual
def P.py : P → Option PyData
  | .non => some .none
  | .bl b => some (.bool b)
  | .int i => some (.int i)
  | .str s => if PyData.canLay0 (.str s) then some (.str s) else none
  | .tup ps => (P.pyL ps).map .tuple
  | .lst ps => (P.pyL ps).map .list
  | .ed => none
  | .fn _ => none
def P.pyL : List P → Option (List PyData)
  | [] => some []
  | x :: xs => match P.py x, P.pyL xs with
    | some d, some ds => some (d :: ds)
    | _, _ => none
end
def eqQ (a b : P) : Option Bool := match P.py a, P.py b with
  | some x, some y => if x.depth ≤ 64 ∧ y.depth ≤ 64 then some (PyData.eqv x y) else none
  | _, _ => none
def eqP (a b : P) : Option Bool := match a, b with
  | .str x, .str y => some (decide (x = y))
  | a, b => eqQ a b
/-- a value's truth -/
def truP : P → Option Bool
  | .non => some false
  | .bl b => some b
  | .int i => some (i != 0)
  | .str y => if y.length ≤ L then some ((y.length : Int) != 0) else none
  | .tup xs => some (!xs.isEmpty)
  | .lst xs => some (!xs.isEmpty)
  | _ => none
def bits (i : Int) : Nat := i.natAbs.log2
def addP : P → P → Option P
  | .int i, .int j => some (.int (i + j))
  | .str a, .str b => if a.length + b.length ≤ L then some (.str (a ++ b)) else none
  | .tup a, .tup b => if a.length + b.length ≤ L then some (.tup (a ++ b)) else none
  | .lst a, .lst b => if a.length + b.length ≤ L then some (.lst (a ++ b)) else none
  | _, _ => none
def subP : P → P → Option P
  | .int i, .int j => some (.int (i - j))
  | _, _ => none
def mulP : P → P → Option P
  | .int i, .int j => if bits i + bits j < 100000000 then some (.int (i * j)) else none
  | .lst a, .int k => if a.length * k.toNat ≤ L ∧ -(2 ^ 63) ≤ k ∧ k < 2 ^ 63 then some (.lst (List.replicate k.toNat a).flatten) else none
  | .tup a, .int k => if a.length ≤ 1000 ∧ 1 ≤ k ∧ k ≤ 1000 then some (.tup (List.replicate k.toNat a).flatten) else none
  | _, _ => none
def divP : P → P → Option P
  | .int i, .int j => if 0 < j ∧ bits j < 9000 then some (.int (i / j)) else none
  | _, _ => none
def modP : P → P → Option P
  | .int i, .int j => if 0 < j then some (.int (i % j)) else none
  | _, _ => none
def powP : P → P → Option P
  | .int i, .int j => if 0 ≤ j ∧ j ≤ 1000000 ∧ i.natAbs < 2 ^ 64 then some (.int (i ^ j.toNat)) else none
  | _, _ => none
def ltP : P → P → Option Bool
  | .int i, .int j => some (decide (i < j))
  | _, _ => none
def leP : P → P → Option Bool
  | .int i, .int j => some (decide (i ≤ j))
  | _, _ => none
def gtP : P → P → Option Bool
  | .int i, .int j => some (decide (j < i))
  | _, _ => none
def geP : P → P → Option Bool
  | .int i, .int j => some (decide (j ≤ i))
  | _, _ => none
def neP (a b : P) : Option Bool := (eqP a b).map (!·)
/-- x in xs -/
def inP (a : P) : P → Option Bool
  | .tup xs => (match P.py a, P.pyL xs with
    | some d, some ds => if d.depth ≤ 64 ∧ PyData.depthAll ds < 64 then some (ds.any fun z => PyData.eqv z d) else none
    | _, _ => none)
  | .lst xs => (match P.py a, P.pyL xs with
    | some d, some ds => if d.depth ≤ 64 ∧ PyData.depthAll ds < 64 then some (ds.any fun z => PyData.eqv z d) else none
    | _, _ => none)
  | .str j => (match a with
    | .str i => some (!(Builtin.Str.occurrences j i 0 j.length 1).isEmpty)
    | _ => none)
  | _ => none
def P.isNon : P → Bool
  | .non => true
  | _ => false
def ixP : P → P → Option P
  | .tup xs, .int i => match L2.ixN xs.length i with
    | some j => xs[j]?
    | none => none
  | .lst xs, .int i => match L2.ixN xs.length i with
    | some j => xs[j]?
    | none => none
  | .str z, .int i => if z.length ≤ L then (match L2.ixN z.cps.toList.length i with
    | some j => (z.cps.toList[j]?).map fun c => P.str ⟨#[c]⟩
    | none => none) else none
  | _, _ => none
def cut {α : Type} (xs : List α) (lo hi : Option Int) : List α := (xs.drop (HT.sIx xs.length 0 lo)).take (HT.sIx xs.length xs.length hi - HT.sIx xs.length 0 lo)
def slP : P → Option Int → Option Int → Option P
  | .tup xs, lo, hi => some (.tup (cut xs lo hi))
  | .lst xs, lo, hi => some (.lst (cut xs lo hi))
  | .str z, lo, hi => if z.length ≤ L then some (.str ⟨(cut z.cps.toList lo hi).toArray⟩) else none
  | _, _, _ => none
inductive Ty where
  | int | bool | str | tuple | list | dict
def P.ts : P → String
  | .non => "NoneType" | .bl _ => "bool" | .int _ => "int" | .str _ => "str" | .tup _ => "tuple" | .lst _ => "list" | .ed => "dict" | .fn _ => ""
def isiP : P → Ty → Option Bool
  | .non, _ => some false
  | .bl _, .bool => some true
  | .bl _, .int => some true
  | .bl _, _ => some false
  | .int _, .int => some true
  | .int _, _ => some false
  | .str _, .str => some true
  | .str _, _ => some false
  | .tup _, .tuple => some true
  | .tup _, _ => some false
  | .lst _, .list => some true
  | .lst _, _ => some false
  | .ed, .dict => some true
  | .ed, _ => some false
  | .fn _, _ => none
def lenP : P → Option P
  | .str z => if z.length ≤ L then some (.int z.length) else none
  | .tup xs => some (.int xs.length)
  | .lst xs => some (.int xs.length)
  | _ => none
def intsP : List P → Option (List Int)
  | [] => some []
  | .int i :: r => (intsP r).map (i :: ·)
  | _ => none
def blsP : List P → Option (List Bool)
  | [] => some []
  | .bl i :: r => (blsP r).map (i :: ·)
  | _ => none
/-- intsP put in order -/
def insI (x : Int) : List Int → List Int
  | [] => [x]
  | y :: r => if x ≤ y then x :: y :: r else y :: insI x r
def isort : List Int → List Int
  | [] => []
  | x :: r => insI x (isort r)
/-- laid into ascending numbers, once -/
def insU (x : Int) : List Int → List Int
  | [] => [x]
  | y :: r => if x < y then x :: y :: r else if x = y then y :: r else y :: insU x r
def usort (l : List Int) : List Int := l.foldl (fun acc x => insU x acc) []
/-- sorted(set(xs)) -/
def srtP : P → Option P
  | .lst xs => (intsP xs).bind fun ns => if (usort ns).length < 1000 then some (.lst ((usort ns).map .int)) else none
  | _ => none
def minL : List Int → Option Int
  | [] => none
  | [x] => some x
  | x :: r => (minL r).map fun m => if x ≤ m then x else m
def maxL : List Int → Option Int
  | [] => none
  | [x] => some x
  | x :: r => (maxL r).map fun m => if m ≤ x then x else m
/-- the built-ins of one plain thing -/
inductive B1 where
  | len | abs | sum | any | all | min | max | sorted | tuple | list | int | str | repr
/-- repr(xs) -/
def repP (x : P) : Option P := match P.py x with
  | some d => if d.showable = true ∧ d.depth ≤ 60 ∧ d.shown.length ≤ L then some (.str d.shown) else none
  | none => none
def b1P : B1 → P → Option P
  | .len, x => lenP x
  | .abs, .int i => some (.int (if i < 0 then -i else i))
  | .sum, .lst xs => (intsP xs).map fun ns => .int ns.sum
  | .any, .lst xs => (blsP xs).map fun ns => .bl (ns.any id)
  | .all, .lst xs => (blsP xs).map fun ns => .bl (ns.all id)
  | .min, .lst xs => ((intsP xs).bind minL).map .int
  | .max, .lst xs => ((intsP xs).bind maxL).map .int
  | .sorted, .lst xs => (intsP xs).map fun ns => .lst ((isort ns).map .int)
  | .tuple, .lst xs => some (.tup xs)
  | .tuple, .tup xs => some (.tup xs)
  | .list, .lst xs => some (.lst xs)
  | .list, .tup xs => some (.lst xs)
  | .int, .int i => some (.int i)
  | .int, .bl b => some (.int (if b then 1 else 0))
  | .repr, .tup xs => repP (.tup xs)
  | .repr, .lst xs => repP (.lst xs)
  | .str, .int i => if bits i < 1920 then some (.str (toString i : String)) else none
  | _, _ => none
inductive B2 where
  | min | max
def b2P : B2 → P → P → Option P
  | .min, .int i, .int j => some (.int (if j < i then j else i))
  | .max, .int i, .int j => some (.int (if j > i then j else i))
  | _, _, _ => none

/-! ### dicts -/
def dget (k : Ky) : List (Ky × P) → Option P
  | [] => none
  | (j, v) :: r => if j = k then some v else dget k r
def dput (k : Ky) (v : P) : List (Ky × P) → List (Ky × P)
  | [] => [(k, v)]
  | (j, x) :: r => if j = k then (j, v) :: r else (j, x) :: dput k v r
def keyP : P → Option Ky
  | .int i => some (.inl i)
  | .str s => some (.inr s)
  | _ => none
def kyP : Ky → P
  | .inl i => .int i
  | .inr s => .str s
end EV
end
section
/-! Ev2: the combinators. -/
namespace EV
open PySem

/-! ### expressions -/
def eC (p : P) : ME := fun _ _ => Mo.pure (.p p)
def eVar (i : Nat) : ME := fun _ σ => match σ[i]? with
  | some (some (.p x)) => Mo.pure (.p x)
  | some (some (.loc l)) => Mo.pure (.loc l)
  | _ => Mo.stk
def aNil : MA := fun _ _ => Mo.pure []
def aCons (e : ME) (r : MA) : MA := fun c σ => (e c σ).bind fun d => (r c σ).bind fun ds => Mo.pure (d :: ds)
/-- an operation on what is read of two values -/
def op2 (f : P → P → Option P) (x y : D) : Mo D := fun s => match rd s x, rd s y with
  | some a, some b => (match f a b with
    | some r => .ok (.p r) s
    | none => .stk)
  | _, _ => .stk
def op1 (f : P → Option P) (x : D) : Mo D := fun s => match rd s x with
  | some a => (match f a with
    | some r => .ok (.p r) s
    | none => .stk)
  | _ => .stk
def eOp (f : P → P → Option P) (a b : ME) : ME := fun c σ => (a c σ).bind fun x => (b c σ).bind fun y => op2 f x y
def negP : P → Option P
  | .int i => some (.int (-i))
  | _ => none
def eNeg (a : ME) : ME := fun c σ => (a c σ).bind fun x => op1 negP x
/-- not a, of a truth value -/
def notP : P → Option P
  | .bl b => some (.bl (!b))
  | _ => none
def eNot (a : ME) : ME := fun c σ => (a c σ).bind fun x => op1 notP x
/-- a thing's truth -/
def truM (x : D) : Mo Bool := fun s => match rd s x with
  | some a => (match truP a with
    | some k => .ok k s
    | none => .stk)
  | none => .stk
/-- a and b, a or b -/
def eAnd (a b : ME) : ME := fun c σ => (a c σ).bind fun x => match x with
  | .p (.bl true) => b c σ
  | .p (.bl false) => Mo.pure (.p (.bl false))
  | x => (truM x).bind fun k => if k then b c σ else Mo.pure x
def eOr (a b : ME) : ME := fun c σ => (a c σ).bind fun x => match x with
  | .p (.bl false) => b c σ
  | .p (.bl true) => Mo.pure (.p (.bl true))
  | x => (truM x).bind fun k => if k then Mo.pure x else b c σ
def eIf (t : MT) (a b : ME) : ME := fun c σ => (t c σ).bind fun k => if k then a c σ else b c σ
/-- comparisons -/
inductive Cop where
  | lt | le | gt | ge | eq | ne | isn | notn | isb | notb | inn | notin
  deriving DecidableEq
def cmpP : Cop → P → P → Option Bool
  | .lt, a, b => ltP a b
  | .le, a, b => leP a b
  | .gt, a, b => gtP a b
  | .ge, a, b => geP a b
  | .eq, a, b => eqP a b
  | .ne, a, b => neP a b
  | .isn, a, .non => some a.isNon
  | .notn, a, .non => some (!a.isNon)
  | .isb, .bl a, .bl b => some (a == b)
  | .notb, .bl a, .bl b => some (!(a == b))
  | .inn, a, b => inP a b
  | .notin, a, b => (inP a b).map (!·)
  | _, _, _ => none
/-- a dict, a key -/
def dctOf (s : Sto) : D → Option (List (Ky × P))
  | .loc l => (match s[l]? with
    | some (.dct kvs) => some kvs
    | _ => none)
  | _ => none
def keyD : D → Option Ky
  | .p x => keyP x
  | _ => none
def Cop.inB : Cop → Option Bool
  | .inn => some true
  | .notin => some false
  | _ => none
def cmpR (o : Cop) (x y : D) : Mo Bool := fun s => match rd s x, rd s y with
  | some a, some b => (match cmpP o a b with
    | some r => .ok r s
    | none => .stk)
  | _, _ => .stk
def cmp2 (o : Cop) (x y : D) : Mo Bool := fun s => match o.inB, dctOf s y with
  | some b, some kvs => (match keyD x with
    | some k => .ok ((dget k kvs).isSome == b) s
    | none => .stk)
  | _, _ => cmpR o x y s
def blD (b : Bool) : D := .p (.bl b)
def eCmp (o : Cop) (a b : ME) : ME := fun c σ => (a c σ).bind fun x => (b c σ).bind fun y => (cmp2 o x y).bind fun k => Mo.pure (blD k)
def eChain (o o' : Cop) (a b d : ME) : ME := fun c σ => (a c σ).bind fun x => (b c σ).bind fun y => (cmp2 o x y).bind fun k =>
  if k then (d c σ).bind fun z => (cmp2 o' y z).bind fun k' => Mo.pure (blD k') else Mo.pure (blD false)
/-- x[y] -/
def ixD (x y : D) : Mo D := fun s => match dctOf s x with
  | some kvs => (match keyD y with
    | some k => (match dget k kvs with
      | some v => .ok (.p v) s
      | none => .stk)
    | none => .stk)
  | none => op2 ixP x y s
def eIx (a b : ME) : ME := fun c σ => (a c σ).bind fun x => (b c σ).bind fun y => ixD x y
/-- a part of a slice -/
abbrev MO' := Cl → Sg → Mo (Option Int)
def oNone : MO' := fun _ _ => Mo.pure none
def oSome (e : ME) : MO' := fun c σ => (e c σ).bind fun d => match d with
  | .p (.int i) => Mo.pure (some i)
  | _ => Mo.stk
def eSl (a : ME) (lo hi : MO') : ME := fun c σ => (a c σ).bind fun x => (lo c σ).bind fun l => (hi c σ).bind fun h => op1 (fun p => slP p l h) x
def revP : P → Option P
  | .lst xs => some (.lst xs.reverse)
  | .tup xs => some (.tup xs.reverse)
  | _ => none
def eRev (a : ME) : ME := fun c σ => (a c σ).bind fun x => op1 revP x
/-- displays -/
def tupD (ds : List D) : Mo D := fun s => if ds.length ≤ L then (match frzL s ds with
  | some (xs, s1) => .ok (.p (.tup xs)) s1
  | none => .stk) else .stk
def lstD (ds : List D) : Mo D := fun s => if ds.length ≤ L then (match frzL s ds with
  | some (xs, s1) => .ok (.p (.lst xs)) s1
  | none => .stk) else .stk
/-- a new changing thing -/
def newO (o : MO) : Mo D := fun s => .ok (.loc s.length) (s ++ [o])
def lstM (ds : List D) : Mo D := fun s => if ds.length ≤ L then (match frzL s ds with
  | some (xs, s1) => newO (.lst xs) s1
  | none => .stk) else .stk
def eTup (a : MA) : ME := fun c σ => (a c σ).bind tupD
def eLst (a : MA) : ME := fun c σ => (a c σ).bind lstD
def eLstM (a : MA) : ME := fun c σ => (a c σ).bind lstM
def eEd : ME := fun _ _ => Mo.pure (.p .ed)
def eDctM : ME := fun _ _ => newO (.dct [])
/-- calls -/
def eCall (f : Nat) (a : MA) : ME := fun c σ => (a c σ).bind fun ds => c.C f ds
/-- a def held by a name -/
def eCallV (i : Nat) (a : MA) : ME := fun c σ => match σ[i]? with
  | some (some (.p (.fn f))) => (a c σ).bind fun ds => c.C f ds
  | _ => Mo.stk
/-- len(x), list(x) of a dict too -/
def b1D (b : B1) (x : D) : Mo D := fun s => match b, dctOf s x with
  | .len, some kvs => .ok (.p (.int kvs.length)) s
  | .list, some kvs => .ok (.p (.lst (kvs.map fun q => kyP q.1))) s
  | _, _ => op1 (b1P b) x s
def eB1 (b : B1) (a : ME) : ME := fun c σ => (a c σ).bind fun x => b1D b x
def eSrt (a : ME) : ME := fun c σ => (a c σ).bind fun x => op1 srtP x
/-- list(x) that is to change -/
def eListM (a : ME) : ME := fun c σ => (a c σ).bind fun x s => match rd s x with
  | some (.lst xs) => newO (.lst xs) s
  | some (.tup xs) => newO (.lst xs) s
  | _ => .stk
def eB2 (b : B2) (a d : ME) : ME := eOp (b2P b) a d
def eIsi (a : ME) (t : Ty) : ME := fun c σ => (a c σ).bind fun x => op1 (fun p => (isiP p t).map .bl) x
/-- a list now, a dict now -/
def lstNow (x : D) : Mo D := fun s => match rd s x with
  | some (.lst _) => .ok x s
  | _ => .stk
def dctNow (x : D) : Mo D := fun s => match dctOf s x with
  | some _ => .ok x s
  | none => .stk
/-- d.get(k, x) -/
def get2D (x y w : D) : Mo D := fun s => match dctOf s x, keyD y, w with
  | some kvs, some j, .p w => .ok (.p ((dget j kvs).getD w)) s
  | _, _, _ => .stk
def eDget2 (a k z : ME) : ME := fun c σ => (a c σ).bind fun x => (dctNow x).bind fun x => (k c σ).bind fun y => (z c σ).bind fun w => get2D x y w
/-- xs.append(e) -/
def appD (x y : D) : Mo D := fun s => match x, frz s y with
  | .loc l, some (v, s1) => (match s1[l]? with
    | some (.lst xs) => if xs.length < L then .ok (.p .non) (s1.set l (.lst (xs ++ [v]))) else .stk
    | _ => .stk)
  | _, _ => .stk
def eApp (a e : ME) : ME := fun c σ => (a c σ).bind fun x => (lstNow x).bind fun x => (e c σ).bind fun y => appD x y
/-- xs.pop(i) -/
def popAtD (x y : D) : Mo D := fun s => match x, y with
  | .loc l, .p (.int i) => (match s[l]? with
    | some (.lst xs) => (match L2.ixN xs.length i with
      | some j => (match xs[j]? with
        | some v => if -(2 ^ 63) ≤ i ∧ i < 2 ^ 63 then .ok (.p v) (s.set l (.lst (xs.eraseIdx j))) else .stk
        | none => .stk)
      | none => .stk)
    | _ => .stk)
  | _, _ => .stk
def ePopAt (a e : ME) : ME := fun c σ => (a c σ).bind fun x => (lstNow x).bind fun x => (e c σ).bind fun y => popAtD x y
/-- xs.pop() -/
def popD (x : D) : Mo D := fun s => match x with
  | .loc l => (match s[l]? with
    | some (.lst xs) => (match xs[xs.length - 1]? with
      | some v => .ok (.p v) (s.set l (.lst xs.dropLast))
      | none => .stk)
    | _ => .stk)
  | _ => .stk
def ePop (a : ME) : ME := fun c σ => (a c σ).bind popD
/-- xs.count(True), xs.index(True) of truth values -/
def cntP : P → P → Option P
  | .lst xs, .bl b => (blsP xs).map fun bs => .int (bs.count b)
  | _, _ => none
def idxB (b : Bool) : Nat → List Bool → Option Nat
  | _, [] => none
  | i, x :: r => if x = b then some i else idxB b (i + 1) r
def ndxP : P → P → Option P
  | .lst xs, .bl b => ((blsP xs).bind (idxB b 0)).map fun i => .int (i : Nat)
  | _, _ => none

def eLm (f : P → P → Option P) (a e : ME) : ME := fun c σ => (a c σ).bind fun x => (lstNow x).bind fun x => (e c σ).bind fun y => op2 f x y

/-! ### what is walked -/
/-- the items, and the list that is walked, if it may change -/
abbrev Src := Cl → Sg → Mo (List P × Option Nat)
def wSeq (a : ME) : Src := fun c σ => (a c σ).bind fun x s => match x with
  | .p (.tup xs) => .ok (xs, none) s
  | .p (.lst xs) => .ok (xs, none) s
  | .loc l => (match s[l]? with
    | some (.lst xs) => .ok (xs, some l) s
    | _ => .stk)
  | _ => .stk
def rngL (lo : Int) : Nat → List P
  | 0 => []
  | n + 1 => .int lo :: rngL (lo + 1) n
def bnd (i : Int) : Bool := decide (-(2 ^ 62) ≤ i) && decide (i < 2 ^ 62)
def wRng1 (a : ME) : Src := fun c σ => (a c σ).bind fun x => match x with
  | .p (.int j) => if bnd j then Mo.pure (rngL 0 j.toNat, none) else Mo.stk
  | _ => Mo.stk
def wRng2 (a b : ME) : Src := fun c σ => (a c σ).bind fun x => (b c σ).bind fun y => match x, y with
  | .p (.int i), .p (.int j) => if bnd i && bnd j then Mo.pure (rngL i (j - i).toNat, none) else Mo.stk
  | _, _ => Mo.stk
/-- lo, lo + c, .. -/
def rngC (lo c : Int) : Nat → List P
  | 0 => []
  | n + 1 => .int lo :: rngC (lo + c) c n
/-- how many there are up to a bound -/
def rngN (i j k : Int) : Nat := if i < j then ((j - i - 1) / k + 1).toNat else 0
def wRng3 (a b d : ME) : Src := fun c σ => (a c σ).bind fun x => (b c σ).bind fun y => (d c σ).bind fun z => match x, y, z with
  | .p (.int i), .p (.int j), .p (.int k) => if bnd i && bnd j && (decide (1 ≤ k) && decide (k < 1000000)) then Mo.pure (rngC i k (rngN i j k), none) else Mo.stk
  | _, _, _ => Mo.stk
/-- list(range(n)) -/
def lrgD (x : D) : Mo D := match x with
  | .p (.int j) => if 0 ≤ j ∧ j ≤ 1000000 then Mo.pure (.p (.lst (rngL 0 j.toNat))) else Mo.stk
  | _ => Mo.stk
def eLrg (a : ME) : ME := fun c σ => (a c σ).bind lrgD
/-- xs.extend(ys) -/
def extD (x y : D) : Mo D := fun s => match x, rd s y with
  | .loc l, some (.lst zs) => (match s[l]? with
    | some (.lst xs) => if xs.length + zs.length ≤ L then .ok (.p .non) (s.set l (.lst (xs ++ zs))) else .stk
    | _ => .stk)
  | _, _ => .stk
def eExt (a e : ME) : ME := fun c σ => (a c σ).bind fun x => (lstNow x).bind fun x => (e c σ).bind fun y => extD x y
def zipT : List P → List P → List P
  | x :: xs, y :: ys => .tup [x, y] :: zipT xs ys
  | _, _ => []
def zipP : P → P → Option (List P)
  | .tup xs, .tup ys => some (zipT xs ys)
  | .lst xs, .lst ys => some (zipT xs ys)
  | .tup xs, .lst ys => some (zipT xs ys)
  | _, _ => none
/-- zip, of things that stand still -/
def wZip (a b : ME) : Src := fun c σ => (a c σ).bind fun x => (b c σ).bind fun y => match x, y with
  | .p p, .p q => (match zipP p q with
    | some zs => Mo.pure (zs, none)
    | _ => Mo.stk)
  | _, _ => Mo.stk
def enumT (i : Int) : List P → List P
  | [] => []
  | x :: xs => .tup [.int i, x] :: enumT (i + 1) xs
def wEnum (a : ME) : Src := fun c σ => (a c σ).bind fun x => match x with
  | .p (.lst xs) => Mo.pure (enumT 0 xs, none)
  | _ => Mo.stk

/-- no error leaves here -/
def noX {α : Type} (m : Mo α) : Mo α := fun s => match m s with
  | .ok a s1 => .ok a s1
  | _ => .stk

/-! ### targets -/
def gN (i : Nat) : MG := fun _ d σ => Mo.pure (σ.set i (some d))
def gAll : List MG → Cl → List P → Sg → Mo Sg
  | [], _, [], σ => Mo.pure σ
  | g :: gs, c, x :: xs, σ => (g c (.p x) σ).bind fun σ1 => gAll gs c xs σ1
  | _, _, _, _ => Mo.stk
def gTup (gs : List MG) : MG := fun c d σ => match d with
  | .p (.tup xs) => if xs.length = gs.length then gAll gs c xs σ else Mo.stk
  | .p (.lst xs) => if xs.length = gs.length then gAll gs c xs σ else Mo.stk
  | _ => Mo.stk
/-- o[i] = v: a list's place, a dict's key -/
def setO (l : Nat) (v : P) (y : D) (σ : Sg) : Mo Sg := fun s => match s[l]? with
  | some (.lst xs) => (match y with
    | .p (.int k) => (match L2.ixN xs.length k with
      | some j => .ok σ (s.set l (.lst (xs.set j v)))
      | none => .stk)
    | _ => .stk)
  | some (.dct kvs) => (match keyD y with
    | some j => if kvs.length < L then .ok σ (s.set l (.dct (dput j v kvs))) else .stk
    | none => .stk)
  | _ => .stk
def setD (d x y : D) (σ : Sg) : Mo Sg := fun s => match frz s d with
  | some (v, s1) => (match x with
    | .loc l => setO l v y σ s1
    | _ => .stk)
  | none => .stk
def gSub (o i : ME) : MG := fun c d σ => (o c σ).bind fun x => (i c σ).bind fun y => setD d x y σ

/-! ### comprehensions -/
def wipeD (σ : Sg) : List Nat → Sg
  | [] => σ
  | v :: vs => (wipeD σ vs).set v none
/-- the walked list is as it was -/
def still (s : Sto) (all : List P) : Option Nat → Bool
  | none => true
  | some l => match s[l]? with
    | some (.lst xs) => P.sameL xs all
    | _ => false
def lcT (c : Cl) (g : MG) (t : MT) (e : ME) (σ : Sg) (all : List P) (lk : Option Nat) : List P → List P → Mo (List P)
  | [], acc => fun s => if still s all lk then .ok acc s else .stk
  | x :: xs, acc => fun s => if still s all lk then ((g c (.p x) σ).bind fun σ1 => (t c σ1).bind fun k =>
      if k then (e c σ1).bind fun d s1 => match frz s1 d with
        | some (v, s2) => if acc.length < L then lcT c g t e σ all lk xs (acc ++ [v]) s2 else .stk
        | none => .stk
      else lcT c g t e σ all lk xs acc) s else .stk
def eLc (w : Src) (vs : List Nat) (g : MG) (t : MT) (e : ME) : ME := fun c σ => (w c σ).bind fun q => (noX (lcT c g t e (wipeD σ vs) q.1 q.2 q.1 [])).bind fun xs => Mo.pure (.p (.lst xs))
def eLcM (w : Src) (vs : List Nat) (g : MG) (t : MT) (e : ME) : ME := fun c σ => (w c σ).bind fun q => (noX (lcT c g t e (wipeD σ vs) q.1 q.2 q.1 [])).bind fun xs => newO (.lst xs)

/-! ### tests -/
def tV (e : ME) : MT := fun c σ => (e c σ).bind truM
def tCmp (o : Cop) (a b : ME) : MT := fun c σ => (a c σ).bind fun x => (b c σ).bind fun y => cmp2 o x y
def tChain (o o' : Cop) (a b d : ME) : MT := fun c σ => (a c σ).bind fun x => (b c σ).bind fun y => (cmp2 o x y).bind fun k =>
  if k then (d c σ).bind fun z => cmp2 o' y z else Mo.pure false
def tNot (a : MT) : MT := fun c σ => (a c σ).bind fun k => Mo.pure (!k)
def tAnd (a b : MT) : MT := fun c σ => (a c σ).bind fun k => if k then b c σ else Mo.pure false
def tOr (a b : MT) : MT := fun c σ => (a c σ).bind fun k => if k then Mo.pure true else b c σ
def tYes : MT := fun _ _ => Mo.pure true

/-! ### statements -/
def Res.st {α : Type} (r : Res α) (σ : Sg) (f : α → Sto → SR) : SR := match r with
  | .ok a s => f a s
  | .exn c a s => .exn c a σ s
  | .stk => .stk
def nxS (σ : Sg) (s : Sto) : SR := .ok (.nx σ) s
def sSkip : MS := fun _ σ s => .ok (.nx σ) s
def sSeq (a b : MS) : MS := fun c σ s => match a c σ s with
  | .ok (.nx σ1) s1 => b c σ1 s1
  | r => r
def sAsg (e : ME) (g : MG) : MS := fun c σ s => (e c σ s).st σ fun d s1 => (noX (g c d σ) s1).st σ nxS
/-- a, b = e, f: none is laid into a tuple that is seen -/
def gSeq : List MG → Cl → List D → Sg → Mo Sg
  | [], _, [], σ => Mo.pure σ
  | g :: gs, c, x :: xs, σ => (g c x σ).bind fun σ1 => gSeq gs c xs σ1
  | _, _, _, _ => Mo.stk
def sPar (a : MA) (gs : List MG) : MS := fun c σ s => (a c σ s).st σ fun ds s1 => (noX (gSeq gs c ds σ) s1).st σ nxS
def sAug (i : Nat) (e : ME) (f : P → P → Option P) : MS := fun c σ s => match σ[i]? with
  | some (some x) => (e c σ s).st σ fun y s1 => (op2 f x y s1).st σ fun z s2 => nxS (σ.set i (some z)) s2
  | _ => .stk
def sExpr (e : ME) : MS := fun c σ s => (e c σ s).st σ fun _ s1 => nxS σ s1
def sRet (e : ME) : MS := fun c σ s => (e c σ s).st σ fun d s1 => .ok (.rt d) s1
def sRetN : MS := fun _ _ s => .ok (.rt (.p .non)) s
def sIf (t : MT) (a b : MS) : MS := fun c σ s => (t c σ s).st σ fun k s1 => if k then a c σ s1 else b c σ s1
def sBrk : MS := fun _ σ s => .ok (.bk σ) s
def sCnt : MS := fun _ σ s => .ok (.ct σ) s
def sRaise (k : Nat) : MS := fun _ σ s => .exn k none σ s
def forT (c : Cl) (g : MG) (b : MS) (all : List P) (lk : Option Nat) : List P → Sg → Sto → SR
  | [], σ, s => if still s all lk then .ok (.nx σ) s else .stk
  | x :: xs, σ, s => if still s all lk then (noX (g c (.p x) σ) s).st σ fun σ1 s1 => match b c σ1 s1 with
      | .ok (.nx σ2) s2 => forT c g b all lk xs σ2 s2
      | .ok (.ct σ2) s2 => forT c g b all lk xs σ2 s2
      | .ok (.bk σ2) s2 => .ok (.nx σ2) s2
      | r => r
    else .stk
def sFor (w : Src) (g : MG) (b : MS) : MS := fun c σ s => (w c σ s).st σ fun q s1 => forT c g b q.1 q.2 q.1 σ s1
def whileT (c : Cl) (t : MT) (b : MS) : Nat → Sg → Sto → SR
  | 0, _, _ => .stk
  | n + 1, σ, s => (t c σ s).st σ fun k s1 => if k then (match b c σ s1 with
      | .ok (.nx σ2) s2 => whileT c t b n σ2 s2
      | .ok (.ct σ2) s2 => whileT c t b n σ2 s2
      | .ok (.bk σ2) s2 => .ok (.nx σ2) s2
      | r => r) else .ok (.nx σ) s1
def sWhile (t : MT) (b : MS) : MS := fun c σ s => whileT c t b L σ s
/-- no caught error -/
def clean : Sg → Bool
  | [] => true
  | some (.exc _ _) :: _ => false
  | _ :: r => clean r
/-- try: body except X as e: suite; cs: the classes that X takes; an error without a field -/
def sTry (b : MS) (cs : List Nat) (i : Nat) (h : MS) : MS := fun c σ s => match b c σ s with
  | .exn k a σ1 s1 => if cs.contains k then (match a with
      | none => if clean σ1 then (match h c (σ1.set i (some (.exc k none))) s1 with
        | .ok (.nx σ2) s2 => if clean (σ2.set i none) then .ok (.nx (σ2.set i none)) s2 else .stk
        | .ok (.rt d) s2 => .ok (.rt d) s2
        | _ => .stk) else .stk
      | some _ => .stk) else .exn k a σ1 s1
  | r => r
/-- isinstance of a caught error -/
def eIsE (i : Nat) (cs : List Nat) : ME := fun _ σ => match σ[i]? with
  | some (some (.exc k _)) => Mo.pure (blD (cs.contains k))
  | _ => Mo.stk

/-- the lambda handed in -/
def lamK : Nat := 1000
def blank : Sg → Bool
  | [] => true
  | none :: r => blank r
  | _ :: _ => false
/-- a() as a statement, a the one parameter, a lambda; nothing else is set -/
def sAct : MS := fun c σ s => match σ with
  | some (.exc k none) :: r => if k = lamK ∧ blank r = true then (match c.act s with
      | .ok _ s1 => .ok (.nx σ) s1
      | .exn k a s1 => .exn k a (none :: r) s1
      | .stk => .stk) else .stk
  | _ => .stk

/-! ### defs -/
structure Fn where
  np : Nat
  nl : Nat
  rl : Bool
  body : MS
/-- what a def hands back: a changing thing of its own is changed no more, unless it is told to -/
def retF (n0 : Nat) (rl : Bool) (d : D) (s : Sto) : Res D := match d with
  | .p x => .ok (.p x) (s.take n0)
  | .loc l => if l < n0 then .ok (.loc l) (s.take n0) else (match s[l]? with
    | some (.lst xs) => if rl then .ok (.loc n0) (s.take n0 ++ [.lst xs]) else .ok (.p (.lst xs)) (s.take n0)
    | some (.dct []) => if rl then .ok (.loc n0) (s.take n0 ++ [.dct []]) else .ok (.p .ed) (s.take n0)
    | some (.dct kvs) => if rl then .ok (.loc n0) (s.take n0 ++ [.dct kvs]) else .stk
    | _ => .stk)
  | .exc _ _ => .stk
def fin (n0 : Nat) (rl : Bool) : SR → Res D
  | .ok (.rt d) s => retF n0 rl d s
  | .ok (.nx _) s => .ok (.p .non) (s.take n0)
  | .exn c a _ s => .exn c a (s.take n0)
  | _ => .stk
def start (nl : Nat) (ds : List D) : Sg := ds.map some ++ List.replicate (nl - ds.length) none
def runFn (fn : Fn) (c : Cl) (ds : List D) : Mo D := fun s => if ds.length = fn.np then fin s.length fn.rl (fn.body c (start fn.nl ds) s) else .stk
def runT (T : Nat → Option Fn) (c : Cl) : Call := fun f ds => match T f with
  | some fn => runFn fn c ds
  | none => Mo.stk
def noC : Call := fun _ _ => Mo.stk
def noL : Nat → Mo D → Mo D := fun _ _ => Mo.stk
/-- f(lambda: body) -/
def lamSg (nl : Nat) : Sg := some (.exc lamK none) :: List.replicate (nl - 1) none
def runL (fn : Fn) (act : Mo D) : Mo D := noX fun s => fin s.length fn.rl (fn.body ⟨noC, noC, act, noL⟩ (lamSg fn.nl) s)
def lamT (T : Nat → Option Fn) : Nat → Mo D → Mo D := fun f act => match T f with
  | some fn => runL fn act
  | none => Mo.stk
def eLam (f : Nat) (b : ME) : ME := fun c σ => c.lam f (b ⟨c.lo, noC, Mo.stk, noL⟩ σ)
def callF (T : Nat → Option Fn) : Nat → Call
  | 0 => noC
  | 1 => runT T ⟨callF T 0, noC, Mo.stk, noL⟩
  | 2 => runT T ⟨callF T 1, noC, Mo.stk, noL⟩
  | 3 => runT T ⟨callF T 2, noC, Mo.stk, noL⟩
  | n + 4 => runT T ⟨callF T (n + 3), callF T n, Mo.stk, lamT T⟩
end EV
end
section
/-! Ev3: plain data in the heap. -/
namespace EV
open PySem PySem.Spec PyProof.Rows L2

/-- what is fixed through a law: the written part, where each def stands, the tables of code objects -/
structure St0 where
  K : PySem.W.Frag
  G : Nat → Option Addr
  C : Nat → Option Addr
  T : List (Addr × Str)
/-- where the changing things stand; which lists are changed no more; what is not touched here -/
structure Wd where
  ρ : List Addr
  F : Addr → Prop
  B : Addr → Prop
def LsOk (F : Addr → Prop) (H : Hp) (a : Addr) (vs : List V) : Prop := F a ∧ Rd H a (.lst vs)
mutual
inductive Br (Z : St0) (F : Addr → Prop) (H : Hp) : P → V → Prop
  | non : Br Z F H .non .non
  | bl (b : Bool) : Br Z F H (.bl b) (.bl b)
  | int (i : Int) : Br Z F H (.int i) (.int i)
  | str (x : Str) : Br Z F H (.str x) (.str x)
  | tup {a : Addr} {vs : List V} {ps : List P} : SqT Z.K H a vs → BrL Z F H ps vs → Br Z F H (.tup ps) (.ref a)
  | lst {a : Addr} {vs : List V} {ps : List P} : LsOk F H a vs → BrL Z F H ps vs → Br Z F H (.lst ps) (.ref a)
  | ed {a : Addr} : F a → H a = some (.dK []) → Br Z F H .ed (.ref a)
  | fn {f : Nat} {a : Addr} : Z.G f = some a → Br Z F H (.fn f) (.ref a)
inductive BrL (Z : St0) (F : Addr → Prop) (H : Hp) : List P → List V → Prop
  | nil : BrL Z F H [] []
  | cons {p : P} {v : V} {ps : List P} {vs : List V} : Br Z F H p v → BrL Z F H ps vs → BrL Z F H (p :: ps) (v :: vs)
end
/-- what grows -/
structure Ext (F : Addr → Prop) (H : Hp) (F' : Addr → Prop) (H' : Hp) : Prop where
  fz : ∀ a, F a → F' a ∧ H' a = H a
  tup : ∀ a xs, H a = some (.tup xs) → H' a = some (.tup xs)
  frz : ∀ a o u, H a = some (.frz o u) → H' a = some (.frz o u)
  ext : ∀ a φ, H a = some (.ext φ) → H' a = some (.ext φ)
theorem Ext.refl {F : Addr → Prop} {H : Hp} : Ext F H F H := ⟨fun _ h => ⟨h, rfl⟩, fun _ _ h => h, fun _ _ _ h => h, fun _ _ h => h⟩
theorem Ext.trans {F F1 F2 : Addr → Prop} {H H1 H2 : Hp} (a : Ext F H F1 H1) (b : Ext F1 H1 F2 H2) : Ext F H F2 H2 :=
  ⟨fun c h => ⟨(b.fz c (a.fz c h).1).1, (b.fz c (a.fz c h).1).2.trans (a.fz c h).2⟩, fun c xs h => b.tup c xs (a.tup c xs h), fun c o u h => b.frz c o u (a.frz c o u h), fun c φ h => b.ext c φ (a.ext c φ h)⟩
section
variable {Z : St0} {F F' : Addr → Prop} {H H' : Hp}
theorem SqT.ext {K : PySem.W.Frag} {a : Addr} {vs : List V} (h : SqT K H a vs) (e : Ext F H F' H') : SqT K H' a vs := by
  rcases h with (h | ⟨o, h⟩) | h
  · exact .inl (.inl (e.tup _ _ h))
  · exact .inl (.inr ⟨o, e.frz _ _ _ h⟩)
  · exact .inr h
theorem LsOk.ext {a : Addr} {vs : List V} (h : LsOk F H a vs) (e : Ext F H F' H') : LsOk F' H' a vs := by
  obtain ⟨f, h⟩ := h
  refine ⟨(e.fz a f).1, ?_⟩
  unfold Rd
  rw [(e.fz a f).2]
  exact h
mutual
theorem Br.ext (e : Ext F H F' H') : ∀ (p : P) (v : V), Br Z F H p v → Br Z F' H' p v
  | .non, _, h => by cases h; exact .non
  | .bl _, _, h => by cases h; exact .bl _
  | .int _, _, h => by cases h; exact .int _
  | .str _, _, h => by cases h; exact .str _
  | .ed, _, h => by
    cases h with
    | ed f h => exact .ed (e.fz _ f).1 ((e.fz _ f).2.trans h)
  | .fn _, _, h => by
    cases h with
    | fn g => exact .fn g
  | .tup ps, _, h => by
    cases h with
    | tup s l => exact .tup (SqT.ext s e) (BrL.ext e ps _ l)
  | .lst ps, _, h => by
    cases h with
    | lst s l => exact .lst (s.ext e) (BrL.ext e ps _ l)
theorem BrL.ext (e : Ext F H F' H') : ∀ (ps : List P) (vs : List V), BrL Z F H ps vs → BrL Z F' H' ps vs
  | [], _, h => by cases h; exact .nil
  | p :: ps, _, h => by
    cases h with
    | cons h1 h2 => exact .cons (Br.ext e p _ h1) (BrL.ext e ps _ h2)
end
theorem BrL.length : ∀ {ps : List P} {vs : List V}, BrL Z F H ps vs → ps.length = vs.length
  | [], _, h => by cases h; rfl
  | p :: ps, _, h => by
    cases h with
    | cons h1 h2 => simp [BrL.length h2]
theorem BrL.get : ∀ {ps : List P} {vs : List V} {i : Nat} {p : P}, BrL Z F H ps vs → ps[i]? = some p → ∃ v, vs[i]? = some v ∧ Br Z F H p v
  | [], _, _, _, h, e => by simp at e
  | q :: ps, _, 0, p, h, e => by
    cases h with
    | cons h1 h2 =>
      simp at e
      subst e
      exact ⟨_, rfl, h1⟩
  | q :: ps, _, i + 1, p, h, e => by
    cases h with
    | cons h1 h2 =>
      obtain ⟨v, e1, e2⟩ := BrL.get (i := i) (p := p) h2 (by simpa using e)
      exact ⟨v, by simpa using e1, e2⟩
theorem BrL.append : ∀ {ps qs : List P} {vs us : List V}, BrL Z F H ps vs → BrL Z F H qs us → BrL Z F H (ps ++ qs) (vs ++ us)
  | [], _, _, _, h, g => by cases h; exact g
  | p :: ps, _, _, _, h, g => by
    cases h with
    | cons h1 h2 => exact .cons h1 (BrL.append h2 g)
theorem BrL.drop : ∀ {ps : List P} {vs : List V} (n : Nat), BrL Z F H ps vs → BrL Z F H (ps.drop n) (vs.drop n)
  | _, _, 0, h => h
  | [], _, _ + 1, h => by cases h; exact .nil
  | _ :: _, _, n + 1, h => by
    cases h with
    | cons h1 h2 => exact BrL.drop n h2
theorem BrL.take : ∀ {ps : List P} {vs : List V} (n : Nat), BrL Z F H ps vs → BrL Z F H (ps.take n) (vs.take n)
  | _, _, 0, _ => .nil
  | [], _, _ + 1, h => by cases h; exact .nil
  | _ :: _, _, n + 1, h => by
    cases h with
    | cons h1 h2 => exact .cons h1 (BrL.take n h2)
theorem BrL.set {q : P} {u : V} (hq : Br Z F H q u) : ∀ {ps : List P} {vs : List V} (n : Nat), BrL Z F H ps vs → BrL Z F H (ps.set n q) (vs.set n u)
  | [], _, _, h => by cases h; exact .nil
  | _ :: _, _, 0, h => by
    cases h with
    | cons h1 h2 => exact .cons hq h2
  | _ :: _, _, n + 1, h => by
    cases h with
    | cons h1 h2 => exact .cons h1 (BrL.set hq n h2)
theorem BrL.erase : ∀ {ps : List P} {vs : List V} (n : Nat), BrL Z F H ps vs → BrL Z F H (ps.eraseIdx n) (vs.eraseIdx n)
  | [], _, _, h => by cases h; exact .nil
  | _ :: _, _, 0, h => by
    cases h with
    | cons h1 h2 => exact h2
  | _ :: _, _, n + 1, h => by
    cases h with
    | cons h1 h2 => exact .cons h1 (BrL.erase n h2)
theorem BrL.rev {ps : List P} {vs : List V} (h : BrL Z F H ps vs) : BrL Z F H ps.reverse vs.reverse := by
  induction ps generalizing vs with
  | nil => cases h; exact .nil
  | cons p ps ih =>
    cases h with
    | cons h1 h2 =>
      rw [List.reverse_cons, List.reverse_cons]
      exact BrL.append (ih h2) (.cons h1 .nil)
theorem BrL.rep {ps : List P} {vs : List V} (h : BrL Z F H ps vs) : ∀ k : Nat, BrL Z F H (List.replicate k ps).flatten (List.replicate k vs).flatten
  | 0 => .nil
  | k + 1 => by
    rw [List.replicate_succ, List.replicate_succ, List.flatten_cons, List.flatten_cons]
    exact BrL.append h (BrL.rep h k)
theorem BrL.dropLast {ps : List P} {vs : List V} (h : BrL Z F H ps vs) : BrL Z F H ps.dropLast vs.dropLast := by
  rw [List.dropLast_eq_take, List.dropLast_eq_take, h.length]
  exact BrL.take _ h
theorem BrL.ints : ∀ {ps : List P} {vs : List V} {ns : List Int}, BrL Z F H ps vs → intsP ps = some ns → vs = ns.map V.int
  | [], _, _, h, e => by cases h; cases e; rfl
  | p :: ps, _, ns, h, e => by
    cases h with
    | cons h1 h2 =>
      cases h1 <;> simp [intsP] at e
      obtain ⟨r, e1, rfl⟩ := e
      rw [BrL.ints h2 e1]
      rfl
theorem BrL.bls : ∀ {ps : List P} {vs : List V} {ns : List Bool}, BrL Z F H ps vs → blsP ps = some ns → vs = ns.map V.bl
  | [], _, _, h, e => by cases h; cases e; rfl
  | p :: ps, _, ns, h, e => by
    cases h with
    | cons h1 h2 =>
      cases h1 <;> simp [blsP] at e
      obtain ⟨r, e1, rfl⟩ := e
      rw [BrL.bls h2 e1]
      rfl
theorem BrL.of_ints : ∀ (ns : List Int), BrL Z F H (ns.map .int) (ns.map .int)
  | [] => .nil
  | n :: ns => .cons (.int n) (BrL.of_ints ns)
/-! ### == -/
mutual
theorem Br.dp : ∀ (p : P) (v : V) (d : PyData), Br Z F H p v → P.py p = some d → Dp Z.K H v d
  | .non, _, _, h, e => by cases h; simp [P.py] at e; subst e; exact .non
  | .bl _, _, _, h, e => by cases h; simp [P.py] at e; subst e; exact .bl _
  | .int _, _, _, h, e => by cases h; simp [P.py] at e; subst e; exact .int _
  | .str _, _, _, h, e => by cases h; simp [P.py] at e; obtain ⟨_, e⟩ := e; subst e; exact .str _
  | .ed, _, _, h, e => by simp [P.py] at e
  | .fn _, _, _, h, e => by simp [P.py] at e
  | .tup ps, _, _, h, e => by
    cases h with
    | tup s l =>
      simp [P.py] at e
      obtain ⟨ds, e1, rfl⟩ := e
      exact .tup s (BrL.dp ps _ ds l e1)
  | .lst ps, _, _, h, e => by
    cases h with
    | lst s l =>
      simp [P.py] at e
      obtain ⟨ds, e1, rfl⟩ := e
      exact .lst (.inl s.2) (BrL.dp ps _ ds l e1)
theorem BrL.dp : ∀ (ps : List P) (vs : List V) (ds : List PyData), BrL Z F H ps vs → P.pyL ps = some ds → DpAll Z.K H vs ds
  | [], _, _, h, e => by cases h; simp [P.pyL] at e; subst e; exact .nil
  | p :: ps, _, ds, h, e => by
    cases h with
    | cons h1 h2 =>
      simp only [P.pyL] at e
      split at e
      · rename_i x xs e1 e2
        cases e
        exact .cons (Br.dp p _ _ h1 e1) (BrL.dp ps _ _ h2 e2)
      · cases e
end
mutual
theorem P.py_lay : ∀ (p : P) (d : PyData), P.py p = some d → d.canLay0 = true
  | .non, _, e => by simp [P.py] at e; subst e; simp [PyData.canLay0]
  | .bl _, _, e => by simp [P.py] at e; subst e; simp [PyData.canLay0]
  | .int _, _, e => by simp [P.py] at e; subst e; simp [PyData.canLay0]
  | .str _, _, e => by simp only [P.py] at e; split at e; (cases e; assumption); (cases e)
  | .ed, _, e => by simp [P.py] at e
  | .fn _, _, e => by simp [P.py] at e
  | .tup ps, _, e => by
    simp [P.py] at e
    obtain ⟨ds, e1, rfl⟩ := e
    simp only [PyData.canLay0]
    exact P.pyL_lay ps ds e1
  | .lst ps, _, e => by
    simp [P.py] at e
    obtain ⟨ds, e1, rfl⟩ := e
    simp only [PyData.canLay0]
    exact P.pyL_lay ps ds e1
theorem P.pyL_lay : ∀ (ps : List P) (ds : List PyData), P.pyL ps = some ds → PyData.canLayAll0 ds = true
  | [], _, e => by simp [P.pyL] at e; subst e; simp [PyData.canLayAll0]
  | p :: ps, ds, e => by
    simp only [P.pyL] at e
    split at e
    · rename_i x xs e1 e2
      cases e
      simp only [PyData.canLayAll0, Bool.and_eq_true]
      exact ⟨P.py_lay p _ e1, P.pyL_lay ps _ e2⟩
    · cases e
end
end

/-! ### the store, the slots -/
def BrK (Z : St0) (F : Addr → Prop) (H : Hp) (kvs : List (Ky × P)) (ks : List (Key × V)) : Prop := kvs.map (·.1) = ks.map (·.1) ∧ BrL Z F H (kvs.map (·.2)) (ks.map (·.2))
def OR (Z : St0) (F : Addr → Prop) (H : Hp) (a : Addr) : MO → Prop
  | .dead => True
  | .lst xs => ∃ vs, H a = some (.lst vs) ∧ BrL Z F H xs vs ∧ ¬ F a
  | .dct kvs => ∃ ks, H a = some (.dK ks) ∧ BrK Z F H kvs ks ∧ ¬ F a
def live (st : Sto) (l : Nat) : Prop := ∃ o, st[l]? = some o ∧ o ≠ .dead
structure RSt (Z : St0) (wd : Wd) (H : Hp) (st : Sto) : Prop where
  len : wd.ρ.length = st.length
  obj : ∀ (l : Nat) (a : Addr) (o : MO), wd.ρ[l]? = some a → st[l]? = some o → OR Z wd.F H a o
  inj : ∀ (l l' : Nat) (a : Addr), wd.ρ[l]? = some a → wd.ρ[l']? = some a → live st l → live st l' → l = l'
  ftr : ∀ a, wd.F a → ∃ o, H a = some o ∧ ∀ ps, o ≠ .tbl ps
  bls : ∀ a, wd.B a → (∃ o, H a = some o ∧ ∀ ps, o ≠ .tbl ps) ∧ ¬ wd.F a ∧ ∀ l, wd.ρ[l]? = some a → ¬ live st l
  tabs : LamX.Tabs Z.T H
def BrD (Z : St0) (wd : Wd) (H : Hp) : D → V → Prop
  | .p x, v => Br Z wd.F H x v
  | .loc l, v => ∃ a, v = .ref a ∧ wd.ρ[l]? = some a
  | .exc _ _, _ => False
inductive BrDL (Z : St0) (wd : Wd) (H : Hp) : List D → List V → Prop
  | nil : BrDL Z wd H [] []
  | cons {d : D} {v : V} {ds : List D} {vs : List V} : BrD Z wd H d v → BrDL Z wd H ds vs → BrDL Z wd H (d :: ds) (v :: vs)
/-- wd', H' lie behind wd, H -/
structure XT (wd : Wd) (H : Hp) (wd' : Wd) (H' : Hp) : Prop where
  pre : ∃ r, wd'.ρ = wd.ρ ++ r
  ext : Ext wd.F H wd'.F H'
  bl : wd'.B = wd.B ∧ ∀ a, wd.B a → H' a = H a
theorem XT.refl {wd : Wd} {H : Hp} : XT wd H wd H := ⟨⟨[], by simp⟩, .refl, rfl, fun _ _ => rfl⟩
theorem XT.trans {wd wd1 wd2 : Wd} {H H1 H2 : Hp} (a : XT wd H wd1 H1) (b : XT wd1 H1 wd2 H2) : XT wd H wd2 H2 := by
  obtain ⟨r, e⟩ := a.pre
  obtain ⟨r', e'⟩ := b.pre
  exact ⟨⟨r ++ r', by rw [e', e, List.append_assoc]⟩, a.ext.trans b.ext, b.bl.1.trans a.bl.1, fun c h => (b.bl.2 c (by rw [a.bl.1]; exact h)).trans (a.bl.2 c h)⟩
theorem XT.get {wd wd' : Wd} {H H' : Hp} (e : XT wd H wd' H') {l : Nat} {a : Addr} (h : wd.ρ[l]? = some a) : wd'.ρ[l]? = some a := by
  obtain ⟨r, q⟩ := e.pre
  rw [q, List.getElem?_append_left (List.getElem?_eq_some_iff.mp h).1]
  exact h
section
variable {Z : St0} {wd wd' : Wd} {H H' : Hp}
theorem BrD.ext (e : XT wd H wd' H') : ∀ {d : D} {v : V}, BrD Z wd H d v → BrD Z wd' H' d v
  | .p x, v, h => Br.ext e.ext x v h
  | .loc l, v, ⟨a, h1, h2⟩ => ⟨a, h1, e.get h2⟩
theorem BrDL.ext (e : XT wd H wd' H') : ∀ {ds : List D} {vs : List V}, BrDL Z wd H ds vs → BrDL Z wd' H' ds vs
  | _, _, .nil => .nil
  | _, _, .cons h t => .cons (h.ext e) (BrDL.ext e t)
theorem BrDL.length : ∀ {ds : List D} {vs : List V}, BrDL Z wd H ds vs → ds.length = vs.length
  | _, _, .nil => rfl
  | _, _, .cons h t => by simp [BrDL.length t]
/-- what a name in an except suite stands for -/
structure EXR where
  r : List Addr → (Addr → Prop) → Hp → Nat → Option P → V → Prop
  mono : ∀ {ρ ρ' : List Addr} {F F' : Addr → Prop} {H H' : Hp} {k : Nat} {a : Option P} {v : V}, (∃ t, ρ' = ρ ++ t) → Ext F H F' H' → r ρ F H k a v → r ρ' F' H' k a v
def BrE (Z : St0) (wd : Wd) (H : Hp) (Ex : EXR) : D → V → Prop
  | .p x, v => BrD Z wd H (.p x) v
  | .loc l, v => BrD Z wd H (.loc l) v
  | .exc c a, v => Ex.r wd.ρ wd.F H c a v
structure RSg (Z : St0) (wd : Wd) (H : Hp) (Ex : EXR) (σd : Sg) (σ : L2.St) : Prop where
  len : σd.length = σ.length
  at_ : ∀ (i : Nat) (d : D), σd[i]? = some (some d) → ∃ v, σ[i]? = some (some v) ∧ BrE Z wd H Ex d v
theorem BrE.ext {Ex : EXR} (e : XT wd H wd' H') : ∀ {d : D} {v : V}, BrE Z wd H Ex d v → BrE Z wd' H' Ex d v
  | .p x, v, h => BrD.ext (Z := Z) (d := .p x) e h
  | .loc l, v, h => BrD.ext (Z := Z) (d := .loc l) e h
  | .exc c a, v, h => Ex.mono e.pre e.ext h
theorem BrE.of {Ex : EXR} : ∀ {d : D} {v : V}, BrD Z wd H d v → BrE Z wd H Ex d v
  | .p x, v, h => h
  | .loc l, v, h => h
theorem RSg.ext {Ex : EXR} {σd : Sg} {σ : L2.St} (r : RSg Z wd H Ex σd σ) (e : XT wd H wd' H') : RSg Z wd' H' Ex σd σ :=
  ⟨r.len, fun i d h => by
    obtain ⟨v, h1, h2⟩ := r.at_ i d h
    exact ⟨v, h1, h2.ext e⟩⟩
theorem RSg.set {Ex : EXR} {σd : Sg} {σ : L2.St} (r : RSg Z wd H Ex σd σ) (i : Nat) {d : D} {v : V} (h : BrE Z wd H Ex d v) : RSg Z wd H Ex (σd.set i (some d)) (σ.set i (some v)) := by
  refine ⟨by simp [r.len], fun j d' hj => ?_⟩
  by_cases e : i = j
  · subst e
    by_cases hi : i < σd.length
    · rw [List.getElem?_set_self hi] at hj
      cases hj
      exact ⟨v, List.getElem?_set_self (by rw [← r.len]; exact hi), h⟩
    · rw [List.getElem?_eq_none (by simpa using hi)] at hj
      cases hj
  · rw [List.getElem?_set_ne e] at hj
    obtain ⟨u, h1, h2⟩ := r.at_ j d' hj
    exact ⟨u, by rw [List.getElem?_set_ne e]; exact h1, h2⟩
theorem RSg.unset {Ex : EXR} {σd : Sg} {σ : L2.St} (r : RSg Z wd H Ex σd σ) (i : Nat) : RSg Z wd H Ex (σd.set i none) (σ.set i none) := by
  refine ⟨by simp [r.len], fun j d' hj => ?_⟩
  by_cases e : i = j
  · subst e
    by_cases hi : i < σd.length
    · rw [List.getElem?_set_self hi] at hj
      cases hj
    · rw [List.getElem?_eq_none (by simpa using hi)] at hj
      cases hj
  · rw [List.getElem?_set_ne e] at hj
    obtain ⟨u, h1, h2⟩ := r.at_ j d' hj
    exact ⟨u, by rw [List.getElem?_set_ne e]; exact h1, h2⟩
theorem RSg.wipe {Ex : EXR} {σd : Sg} {σ : L2.St} (r : RSg Z wd H Ex σd σ) : ∀ vs : List Nat, RSg Z wd H Ex (wipeD σd vs) (L2.wipe σ vs)
  | [] => r
  | v :: vs => (RSg.wipe r vs).unset v

/-! ### new things -/
theorem Ext.new {F : Addr → Prop} {p : Addr} {o : HO} (ft : ∀ a, F a → ∃ o, H a = some o ∧ ∀ ps, o ≠ .tbl ps) (hp : H p = none) {F' : Addr → Prop} (hF : ∀ a, F a → F' a) : Ext F H F' (upd H p o) :=
  ⟨fun a h => ⟨hF a h, by
      obtain ⟨o', e, _⟩ := ft a h
      exact upd_ne (ne_of_none e hp)⟩,
    fun a xs e => by rw [upd_ne (ne_of_none e hp)]; exact e, fun a ob u e => by rw [upd_ne (ne_of_none e hp)]; exact e, fun a φ e => by rw [upd_ne (ne_of_none e hp)]; exact e⟩
theorem OR.ext {F F' : Addr → Prop} {a : Addr} (e : Ext F H F' H') (ha : H' a = H a) (hF : F' a → F a) : ∀ {o : MO}, OR Z F H a o → OR Z F' H' a o
  | .dead, _ => trivial
  | .lst xs, ⟨vs, h1, h2, h3⟩ => ⟨vs, ha.trans h1, BrL.ext e _ _ h2, fun q => h3 (hF q)⟩
  | .dct kvs, ⟨ks, h1, h2, h3⟩ => ⟨ks, ha.trans h1, ⟨h2.1, BrL.ext e _ _ h2.2⟩, fun q => h3 (hF q)⟩
theorem OR.there {F : Addr → Prop} {a : Addr} {o : MO} (h : OR Z F H a o) (hl : o ≠ .dead) : ∃ u, H a = some u := by
  cases o with
  | dead => exact absurd rfl hl
  | lst xs => obtain ⟨vs, h1, _⟩ := h; exact ⟨_, h1⟩
  | dct kvs => obtain ⟨ks, h1, _⟩ := h; exact ⟨_, h1⟩
/-- something new that is not a changing thing; fz: it is a list (a dict) that is changed no more -/
theorem RSt.new {st : Sto} {p : Addr} {o : HO} (r : RSt Z wd H st) (hp : H p = none) (ho : ∀ ps, o ≠ .tbl ps) (fz : Bool) : RSt Z ⟨wd.ρ, fun a => wd.F a ∨ (fz = true ∧ a = p), wd.B⟩ (upd H p o) st ∧ XT wd H ⟨wd.ρ, fun a => wd.F a ∨ (fz = true ∧ a = p), wd.B⟩ (upd H p o) := by
  have e : Ext wd.F H (fun a => wd.F a ∨ (fz = true ∧ a = p)) (upd H p o) := Ext.new r.ftr hp fun a h => .inl h
  refine ⟨⟨r.len, fun l a ob h1 h2 => ?_, r.inj, fun a h => ?_, fun a h => ?_, r.tabs.ext fun b u q => by rw [upd_ne (ne_of_none q hp)]; exact q⟩, ⟨[], by simp⟩, e, rfl, fun a h => ?_⟩
  · have q := r.obj l a ob h1 h2
    by_cases hd : ob = .dead
    · subst hd
      trivial
    · obtain ⟨u, hu⟩ := q.there hd
      have ne : a ≠ p := ne_of_none hu hp
      exact q.ext e (upd_ne ne) fun h => h.elim (fun z => z) fun z => absurd z.2 ne
  · rcases h with h | ⟨_, h⟩
    · obtain ⟨u, h1, h2⟩ := r.ftr a h
      exact ⟨u, by rw [upd_ne (ne_of_none h1 hp)]; exact h1, h2⟩
    · subst h
      exact ⟨o, upd_same, ho⟩
  · obtain ⟨⟨u, hu, ht⟩, h2, h3⟩ := r.bls a h
    have ne : a ≠ p := ne_of_none hu hp
    exact ⟨⟨u, by rw [upd_ne ne]; exact hu, ht⟩, fun z => z.elim h2 fun q => ne q.2, h3⟩
  · obtain ⟨⟨u, hu, _⟩, _⟩ := r.bls a h
    exact upd_ne (ne_of_none hu hp)
/-- a new changing thing -/
theorem RSt.newM {st : Sto} {p : Addr} {o : HO} {m : MO} (r : RSt Z wd H st) (hp : H p = none) (ho : ∀ F', (∀ a, F' a ↔ wd.F a) → OR Z F' (upd H p o) p m) : RSt Z ⟨wd.ρ ++ [p], wd.F, wd.B⟩ (upd H p o) (st ++ [m]) ∧ XT wd H ⟨wd.ρ ++ [p], wd.F, wd.B⟩ (upd H p o) := by
  have e : Ext wd.F H wd.F (upd H p o) := Ext.new r.ftr hp fun a h => h
  have atl : ∀ {l : Nat} {a : Addr}, (wd.ρ ++ [p])[l]? = some a → (l < wd.ρ.length ∧ wd.ρ[l]? = some a) ∨ (l = wd.ρ.length ∧ a = p) := fun {l a} h => by
    by_cases hl : l < wd.ρ.length
    · rw [List.getElem?_append_left hl] at h
      exact .inl ⟨hl, h⟩
    · rw [List.getElem?_append_right (by omega)] at h
      obtain ⟨h1, h2⟩ := List.getElem?_eq_some_iff.mp h
      have : l - wd.ρ.length = 0 := by simp at h1; omega
      simp [this] at h2
      exact .inr ⟨by omega, h2.symm⟩
  have ats : ∀ {l : Nat} {ob : MO}, l < wd.ρ.length → (st ++ [m])[l]? = some ob → st[l]? = some ob := fun {l ob} hl h => by
    rw [List.getElem?_append_left (by rw [← r.len]; exact hl)] at h
    exact h
  have tr : ∀ {l : Nat} {a : Addr}, l < wd.ρ.length → wd.ρ[l]? = some a → live (st ++ [m]) l → a ≠ p := fun {l a} hl h1 ⟨ob, h2, h3⟩ => by
    obtain ⟨u, hu⟩ := (r.obj l a ob h1 (ats hl h2)).there h3
    exact ne_of_none hu hp
  refine ⟨⟨by simp [r.len], fun l a ob h1 h2 => ?_, fun l l' a h1 h2 h3 h4 => ?_, fun a h => ?_, fun a h => ?_, r.tabs.ext fun b u q => by rw [upd_ne (ne_of_none q hp)]; exact q⟩, ⟨[p], rfl⟩, e, rfl, fun a h => ?_⟩
  · rcases atl h1 with ⟨hl, h1⟩ | ⟨hl, rfl⟩
    · have h2 := ats hl h2
      have q := r.obj l a ob h1 h2
      by_cases hd : ob = .dead
      · subst hd
        trivial
      · obtain ⟨u, hu⟩ := q.there hd
        exact q.ext e (upd_ne (ne_of_none hu hp)) fun h => h
    · rw [hl, r.len, List.getElem?_append_right (Nat.le_refl _)] at h2
      simp at h2
      subst h2
      exact ho _ fun _ => Iff.rfl
  · rcases atl h1 with ⟨hl, q1⟩ | ⟨hl, e1⟩ <;> rcases atl h2 with ⟨hl', q2⟩ | ⟨hl', e2⟩
    · refine r.inj l l' a q1 q2 ?_ ?_
      · obtain ⟨ob, z1, z2⟩ := h3
        exact ⟨ob, ats hl z1, z2⟩
      · obtain ⟨ob, z1, z2⟩ := h4
        exact ⟨ob, ats hl' z1, z2⟩
    · exact absurd e2 (tr hl q1 h3)
    · exact absurd e1 (tr hl' q2 h4)
    · omega
  · obtain ⟨u, h1, h2⟩ := r.ftr a h
    exact ⟨u, by rw [upd_ne (ne_of_none h1 hp)]; exact h1, h2⟩
  · obtain ⟨⟨u, hu, ht⟩, h2, h3⟩ := r.bls a h
    have ne : a ≠ p := ne_of_none hu hp
    refine ⟨⟨u, by rw [upd_ne ne]; exact hu, ht⟩, h2, fun l hl ⟨ob, h5, h6⟩ => ?_⟩
    rcases atl hl with ⟨hl', q1⟩ | ⟨_, e1⟩
    · exact h3 l q1 ⟨ob, ats hl' h5, h6⟩
    · exact ne e1
  · obtain ⟨⟨u, hu, _⟩, _⟩ := r.bls a h
    exact upd_ne (ne_of_none hu hp)
/-- a changing thing changes -/
theorem RSt.put {st : Sto} {l : Nat} {a : Addr} {o : HO} {m : MO} (r : RSt Z wd H st) (ha : wd.ρ[l]? = some a) (hl : live st l) (hH : Mut (H a)) (hx : ∀ φ, H a ≠ some (.ext φ)) (hF : ¬ wd.F a) (hm : m ≠ .dead) (ho : Ext wd.F H wd.F (upd H a o) → OR Z wd.F (upd H a o) a m) :
    RSt Z wd (upd H a o) (st.set l m) ∧ XT wd H wd (upd H a o) := by
  have e : Ext wd.F H wd.F (upd H a o) := ⟨fun b h => ⟨h, upd_ne fun z => hF (z ▸ h)⟩, fun b xs h => by
      rw [upd_ne fun z => by subst z; rw [h] at hH; exact hH]
      exact h, fun b ob u h => by
      rw [upd_ne fun z => by subst z; rw [h] at hH; exact hH]
      exact h, fun b φ h => by
      rw [upd_ne fun z => by subst z; exact hx φ h]
      exact h⟩
  have hlen : l < st.length := by
    obtain ⟨ob, h1, _⟩ := hl
    exact (List.getElem?_eq_some_iff.mp h1).1
  have back : ∀ {k : Nat} {ob : MO}, l ≠ k → (st.set l m)[k]? = some ob → st[k]? = some ob := fun {k ob} hk h => by
    rw [List.getElem?_set_ne hk] at h
    exact h
  have lv : ∀ {k : Nat}, live (st.set l m) k → live st k := fun {k} ⟨ob, h1, h2⟩ => by
    by_cases hk : l = k
    · subst hk
      exact hl
    · exact ⟨ob, back hk h1, h2⟩
  have nB : ∀ b, wd.B b → b ≠ a := fun b h z => by
    subst z
    exact (r.bls b h).2.2 l ha hl
  refine ⟨⟨by simp [r.len], fun k b ob h1 h2 => ?_, fun k k' b h1 h2 h3 h4 => r.inj k k' b h1 h2 (lv h3) (lv h4), fun b h => ?_, fun b h => ?_, fun q hq => ?_⟩, ⟨[], by simp⟩, e, rfl, fun b h => upd_ne (nB b h)⟩
  · by_cases hk : l = k
    · subst hk
      rw [List.getElem?_set_self hlen] at h2
      cases h2
      rw [ha] at h1
      cases h1
      exact ho e
    · have h2 := back hk h2
      have q := r.obj k b ob h1 h2
      by_cases hd : ob = .dead
      · subst hd
        trivial
      · have nb : b ≠ a := fun z => by
          subst z
          exact hk (r.inj l k b ha h1 hl ⟨ob, h2, hd⟩)
        exact q.ext e (upd_ne nb) fun h => h
  · obtain ⟨u, h1, h2⟩ := r.ftr b h
    exact ⟨u, by rw [upd_ne fun z => by subst z; exact hF h]; exact h1, h2⟩
  · obtain ⟨⟨u, hu, ht⟩, h2, h3⟩ := r.bls b h
    exact ⟨⟨u, by rw [upd_ne (nB b h)]; exact hu, ht⟩, h2, fun k hk z => h3 k hk (lv z)⟩
  · obtain ⟨ps, h1, h2, h3⟩ := r.tabs q hq
    refine ⟨ps, by rw [upd_ne fun z => by rw [z] at h1; rw [h1] at hH; exact hH]; exact h1, h2, fun pos cv hc => ?_⟩
    obtain ⟨cc, e1, e2⟩ := h3 pos cv hc
    exact ⟨cc, e1, e.ext _ _ e2⟩
/-- a changing thing is changed no more -/
theorem RSt.frz {st s' : Sto} {d : D} {v : V} {x : P} (r : RSt Z wd H st) (b : BrD Z wd H d v) (h : frz st d = some (x, s')) : ∃ wd', RSt Z wd' H s' ∧ XT wd H wd' H ∧ Br Z wd'.F H x v := by
  cases d with
  | p y =>
    simp only [EV.frz, Option.some.injEq, Prod.mk.injEq] at h
    obtain ⟨rfl, rfl⟩ := h
    exact ⟨wd, r, .refl, b⟩
  | exc c a => exact False.elim b
  | loc l =>
    obtain ⟨a, rfl, ha⟩ := b
    have key : ∀ (m : MO), st[l]? = some m → (m ≠ .dead) → (∃ o, H a = some o ∧ ∀ ps, o ≠ .tbl ps) → ¬ wd.F a → RSt Z ⟨wd.ρ, fun b => wd.F b ∨ b = a, wd.B⟩ H (st.set l .dead) ∧ XT wd H ⟨wd.ρ, fun b => wd.F b ∨ b = a, wd.B⟩ H := fun m hm hd ht hF => by
      have e : Ext wd.F H (fun b => wd.F b ∨ b = a) H := ⟨fun b h => ⟨.inl h, rfl⟩, fun _ _ h => h, fun _ _ _ h => h, fun _ _ h => h⟩
      have hlen := (List.getElem?_eq_some_iff.mp hm).1
      have lv : ∀ {k : Nat}, live (st.set l .dead) k → l ≠ k ∧ live st k := fun {k} ⟨ob, h1, h2⟩ => by
        by_cases hk : l = k
        · subst hk
          rw [List.getElem?_set_self hlen] at h1
          cases h1
          exact absurd rfl h2
        · rw [List.getElem?_set_ne hk] at h1
          exact ⟨hk, ob, h1, h2⟩
      refine ⟨⟨by simp [r.len], fun k b ob h1 h2 => ?_, fun k k' b h1 h2 h3 h4 => r.inj k k' b h1 h2 (lv h3).2 (lv h4).2, fun b h => ?_, fun b h => ?_, r.tabs⟩, ⟨[], by simp⟩, e, rfl, fun _ _ => rfl⟩
      · by_cases hob : ob = .dead
        · subst hob
          trivial
        · obtain ⟨hk, z⟩ := lv ⟨ob, h2, hob⟩
          rw [List.getElem?_set_ne hk] at h2
          refine (r.obj k b ob h1 h2).ext e rfl fun h => h.elim (fun q => q) fun q => ?_
          subst q
          exact absurd (r.inj l k b ha h1 ⟨m, hm, hd⟩ z) hk
      · rcases h with h | h
        · exact r.ftr b h
        · rw [h]
          exact ht
      · obtain ⟨h1, h2, h3⟩ := r.bls b h
        refine ⟨h1, fun z => z.elim h2 fun q => ?_, fun k hk z => h3 k hk (lv z).2⟩
        subst q
        exact h3 l ha ⟨m, hm, hd⟩
    simp only [EV.frz] at h
    split at h
    · rename_i xs hxs
      cases h
      obtain ⟨vs, h1, h2, h3⟩ := r.obj l a _ ha hxs
      obtain ⟨r', e'⟩ := key _ hxs (fun z => by cases z) ⟨_, h1, fun ps z => by cases z⟩ h3
      exact ⟨_, r', e', .lst ⟨.inr rfl, .inl h1⟩ (BrL.ext e'.ext _ _ h2)⟩
    · rename_i hxs
      cases h
      obtain ⟨ks, h1, h2, h3⟩ := r.obj l a _ ha hxs
      obtain ⟨r', e'⟩ := key _ hxs (fun z => by cases z) ⟨_, h1, fun ps z => by cases z⟩ h3
      have : ks = [] := by
        have q := h2.1
        simp at q
        exact q
      subst this
      exact ⟨_, r', e', .ed (.inr rfl) h1⟩
    · cases h
theorem RSt.frzL : ∀ {ds : List D} {vs : List V} {st s' : Sto} {xs : List P} {wd : Wd}, RSt Z wd H st → BrDL Z wd H ds vs → frzL st ds = some (xs, s') → ∃ wd', RSt Z wd' H s' ∧ XT wd H wd' H ∧ BrL Z wd'.F H xs vs
  | [], _, st, s', xs, wd, r, b, h => by
    cases b
    simp only [EV.frzL, Option.some.injEq, Prod.mk.injEq] at h
    obtain ⟨rfl, rfl⟩ := h
    exact ⟨wd, r, .refl, .nil⟩
  | d :: ds, _, st, s', xs, wd, r, b, h => by
    cases b with
    | cons b1 b2 =>
      simp only [EV.frzL] at h
      split at h
      · rename_i x s1 hx
        split at h
        · rename_i ys s2 hy
          cases h
          obtain ⟨wd1, r1, e1, q1⟩ := r.frz b1 hx
          obtain ⟨wd2, r2, e2, q2⟩ := RSt.frzL r1 (b2.ext e1) hy
          exact ⟨wd2, r2, e1.trans e2, .cons (Br.ext e2.ext _ _ q1) q2⟩
        · cases h
      · cases h
/-- readable now -/
inductive BrT (Z : St0) (F : Addr → Prop) (H : Hp) : P → V → Prop
  | of {p : P} {v : V} : Br Z F H p v → BrT Z F H p v
  | lst {a : Addr} {vs : List V} {ps : List P} : Rd H a (.lst vs) → BrL Z F H ps vs → BrT Z F H (.lst ps) (.ref a)
theorem RSt.rd {st : Sto} {d : D} {v : V} {x : P} (r : RSt Z wd H st) (b : BrD Z wd H d v) (h : EV.rd st d = some x) : BrT Z wd.F H x v := by
  cases d with
  | p y =>
    simp only [EV.rd, Option.some.injEq] at h
    subst h
    exact .of b
  | exc c a => exact False.elim b
  | loc l =>
    obtain ⟨a, rfl, ha⟩ := b
    simp only [EV.rd] at h
    split at h
    · rename_i xs hxs
      cases h
      obtain ⟨vs, h1, h2, h3⟩ := r.obj l a _ ha hxs
      exact .lst (.inl h1) h2
    · cases h
theorem BrT.lstI {F : Addr → Prop} {ps : List P} {v : V} (h : BrT Z F H (.lst ps) v) : ∃ a vs, v = .ref a ∧ Rd H a (.lst vs) ∧ BrL Z F H ps vs := by
  cases h with
  | of h =>
    cases h with
    | lst s l => exact ⟨_, _, rfl, s.2, l⟩
  | lst s l => exact ⟨_, _, rfl, s, l⟩
theorem BrT.tupI {F : Addr → Prop} {ps : List P} {v : V} (h : BrT Z F H (.tup ps) v) : ∃ a vs, v = .ref a ∧ SqT Z.K H a vs ∧ BrL Z F H ps vs := by
  cases h with
  | of h =>
    cases h with
    | tup s l => exact ⟨_, _, rfl, s, l⟩
theorem BrT.intI {F : Addr → Prop} {i : Int} {v : V} (h : BrT Z F H (.int i) v) : v = .int i := by
  cases h with
  | of h => cases h; rfl
theorem BrT.strI {F : Addr → Prop} {i : Str} {v : V} (h : BrT Z F H (.str i) v) : v = .str i := by
  cases h with
  | of h => cases h; rfl
theorem BrT.blI {F : Addr → Prop} {i : Bool} {v : V} (h : BrT Z F H (.bl i) v) : v = .bl i := by
  cases h with
  | of h => cases h; rfl
theorem BrT.nonI {F : Addr → Prop} {v : V} (h : BrT Z F H .non v) : v = .non := by
  cases h with
  | of h => cases h; rfl
end
end EV
end
section
/-! EvT: the empty tuple times a number. -/
namespace EV
open PySem PySem.Spec PyProof.Rows L2
theorem tuple_mulE (l : Addr) (n : Nat) (dd : Option Addr) (sl : Array (Option Value)) (x : Int) (u : Tok) (c0 : (decide (x < -(2 ^ 63)) || decide (x ≥ 2 ^ 63)) = false) :
    Meets (Builtin.«tuple.__mul__» ⟨[.ref l, .int x u], []⟩) (fun _ R s => s.heap.get? l = some { cls := .type "tuple", dict := dd, data := .seq #[] n, slots := sl } ∧ R (.ok (.ret (Value.ref l))) s) :=
  .of_wp fun prog w A R s h => by
    obtain ⟨hp, g, d, tk, os⟩ := s
    obtain ⟨hl, h⟩ := h
    have f1 := AutoSeq1.idx_int
    wp_walk using wpAny_loadPart' hl
    repeat (first
      | (refine wpAny_ite_false (decide_eq_false (by rw [c0]; exact Bool.false_ne_true)) ?_; wp_walk using wpAny_loadPart' hl))
    exact ⟨_, rfl, h⟩
/-- () * k -/
def rRepE (K : PySem.W.Frag) : R2 := fun x y H Q => ∃ l k, x = .ref l ∧ y = .int k ∧ SqT K H l [] ∧ 0 ≤ k ∧ k ≤ 1000 ∧ Q (.ref l) H
theorem op_repE {X : Cx} : OpR X (binaryOp .Mult) (rRepE X.K) := by
  intro pins s σ H x y v u Q I rx ry h
  obtain ⟨l, k, rfl, rfl, hT, h1, h2, q⟩ := h
  cases rx
  obtain ⟨t, rfl⟩ := ry
  obtain ⟨its, r, ⟨⟨cls, dd, data, sl⟩, ho, hc, n, hd⟩, hs⟩ := I.tuple hT
  simp only at hc hd
  subst hc hd
  have hle : its.length = 0 := r.length.symm
  have hn : its = [] := List.eq_nil_of_length_eq_zero hle
  subst hn
  have c0 : (decide (k < -(2 ^ 63)) || decide (k ≥ 2 ^ 63)) = false := by
    rw [decide_eq_false (by omega), decide_eq_false (by omega)] <;> rfl
  refine wpAny_binaryOp_repeat_ref (T := "tuple") (U := "int") (by decide) ⟨_, ho, rfl⟩ (fun s' => typeIs_int s' k t) noFill_tuple_mul F.fills_int_mul F.slot_int_rmul repeat_tuple F.slot_int_index.lookup
    (call_meets F.slot_int_rmul (typeIs_int s k t) F.entry_int_rmul (F.args_int_rmul_2 _ _) (int_rmul_tuple k t l _ n dd sl)
      ⟨ho, rfl, ⟨_, ho, rfl⟩, call_meets F.slot_tuple_mul ⟨_, ho, rfl⟩ F.entry_tuple_mul (F.args_tuple_mul_2 _ _) (tuple_mulE l n dd sl k t c0) ⟨ho, ?_⟩⟩)
  exact ⟨.ref l, _, I, rfl, q⟩
theorem tuple_mul1 (l : Addr) (items : Array Value) (n : Nat) (dd : Option Addr) (sl : Array (Option Value)) (u : Tok) :
    Meets (Builtin.«tuple.__mul__» ⟨[.ref l, .int 1 u], []⟩) (fun _ R s => s.heap.get? l = some { cls := .type "tuple", dict := dd, data := .seq items n, slots := sl } ∧ R (.ok (.ret (Value.ref l))) s) :=
  .of_wp fun prog w A R s h => by
    obtain ⟨hp, g, d, tk, os⟩ := s
    obtain ⟨hl, h⟩ := h
    have f1 := AutoSeq1.idx_int
    have c1 : (items.isEmpty || (1 : Int) == 1) = true := by simp
    wp_walk using wpAny_loadPart' hl
    repeat (first
      | (refine wpAny_ite_true (decide_eq_true (by rw [c1])) ?_; wp_walk using wpAny_loadPart' hl)
      | (refine wpAny_ite_false (decide_eq_false (by decide)) ?_; wp_walk using wpAny_loadPart' hl))
    exact ⟨_, rfl, h⟩
/-- xs * 1 -/
def rRep1 (K : PySem.W.Frag) : R2 := fun x y H Q => ∃ l xs, x = .ref l ∧ y = .int 1 ∧ SqT K H l xs ∧ Q (.ref l) H
theorem op_rep1 {X : Cx} : OpR X (binaryOp .Mult) (rRep1 X.K) := by
  intro pins s σ H x y v u Q I rx ry h
  obtain ⟨l, xs, rfl, rfl, hT, q⟩ := h
  cases rx
  obtain ⟨t, rfl⟩ := ry
  obtain ⟨its, r, ⟨⟨cls, dd, data, sl⟩, ho, hc, n, hd⟩, hs⟩ := I.tuple hT
  simp only at hc hd
  subst hc hd
  refine wpAny_binaryOp_repeat_ref (T := "tuple") (U := "int") (by decide) ⟨_, ho, rfl⟩ (fun s' => typeIs_int s' 1 t) noFill_tuple_mul F.fills_int_mul F.slot_int_rmul repeat_tuple F.slot_int_index.lookup
    (call_meets F.slot_int_rmul (typeIs_int s 1 t) F.entry_int_rmul (F.args_int_rmul_2 _ _) (int_rmul_tuple 1 t l _ n dd sl)
      ⟨ho, rfl, ⟨_, ho, rfl⟩, call_meets F.slot_tuple_mul ⟨_, ho, rfl⟩ F.entry_tuple_mul (F.args_tuple_mul_2 _ _) (tuple_mul1 l _ n dd sl t) ⟨ho, ?_⟩⟩)
  exact ⟨.ref l, _, I, rfl, q⟩
end EV
end
section
/-! EvS: sorted(set(xs)), xs a list of ints. -/
namespace EV
open PySem PySem.Spec PyProof.Rows L2
theorem usort_snoc (l : List Int) (x : Int) : usort (l ++ [x]) = insU x (usort l) := by simp [usort, List.foldl_append]
theorem mem_insU {x z : Int} : ∀ {l : List Int}, z ∈ insU x l ↔ z = x ∨ z ∈ l
  | [] => by simp [insU]
  | y :: r => by
    unfold insU
    split
    · simp
    · split
      · rename_i e
        subst e
        simp
      · simp only [List.mem_cons, mem_insU (l := r)]
        constructor
        · rintro (h | h | h)
          · exact .inr (.inl h)
          · exact .inl h
          · exact .inr (.inr h)
        · rintro (h | h | h)
          · exact .inr (.inl h)
          · exact .inl h
          · exact .inr (.inr h)
theorem asc_insU {x : Int} : ∀ {l : List Int}, l.Pairwise (· < ·) → (insU x l).Pairwise (· < ·)
  | [], _ => by simp [insU]
  | y :: r, h => by
    obtain ⟨h1, h2⟩ := List.pairwise_cons.mp h
    unfold insU
    split
    · rename_i hx
      refine List.pairwise_cons.mpr ⟨fun z hz => ?_, h⟩
      rcases List.mem_cons.mp hz with rfl | hz
      · exact hx
      · exact Int.lt_trans hx (h1 z hz)
    · split
      · exact h
      · refine List.pairwise_cons.mpr ⟨fun z hz => ?_, asc_insU h2⟩
        rcases mem_insU.mp hz with rfl | hz
        · omega
        · exact h1 z hz
theorem len_insU {x : Int} : ∀ {l : List Int}, l.Pairwise (· < ·) → (insU x l).length = if x ∈ l then l.length else l.length + 1
  | [], _ => by simp [insU]
  | y :: r, h => by
    obtain ⟨h1, h2⟩ := List.pairwise_cons.mp h
    unfold insU
    split
    · rename_i hx
      have : x ∉ y :: r := fun z => by
        rcases List.mem_cons.mp z with rfl | z
        · omega
        · have := h1 x z
          omega
      rw [if_neg this] <;> rfl
    · split
      · rename_i e
        subst e
        simp
      · rename_i e1 e2
        rw [List.length_cons, len_insU h2]
        simp only [List.mem_cons, e2, false_or]
        split <;> simp
theorem usort_aux : ∀ (l acc : List Int), acc.Pairwise (· < ·) → (l.foldl (fun acc x => insU x acc) acc).Pairwise (· < ·) ∧ (∀ z, z ∈ l.foldl (fun acc x => insU x acc) acc ↔ z ∈ l ∨ z ∈ acc) ∧ acc.length ≤ (l.foldl (fun acc x => insU x acc) acc).length
  | [], acc, h => ⟨h, fun z => by simp, Nat.le_refl _⟩
  | x :: l, acc, h => by
    obtain ⟨h1, h2, h3⟩ := usort_aux l (insU x acc) (asc_insU h)
    refine ⟨h1, fun z => ?_, ?_⟩
    · rw [List.foldl_cons, h2 z, mem_insU]
      simp only [List.mem_cons]
      constructor
      · rintro (h | h | h)
        · exact .inl (.inr h)
        · exact .inl (.inl h)
        · exact .inr h
      · rintro ((h | h) | h)
        · exact .inr (.inl h)
        · exact .inl h
        · exact .inr (.inr h)
    · rw [List.foldl_cons]
      have := len_insU (x := x) h
      split at this <;> omega
theorem usort_asc (l : List Int) : (usort l).Pairwise (· < ·) := (usort_aux l [] .nil).1
theorem mem_usort {l : List Int} {z : Int} : z ∈ usort l ↔ z ∈ l := by
  have := (usort_aux l [] .nil).2.1 z
  simpa [usort] using this
theorem usort_le (a b : List Int) : (usort a).length ≤ (usort (a ++ b)).length := by
  have := (usort_aux b (usort a) (usort_asc a)).2.2
  simpa [usort, List.foldl_append] using this
theorem asc_unique : ∀ {l m : List Int}, l.Pairwise (· < ·) → m.Pairwise (· < ·) → (∀ x, x ∈ l ↔ x ∈ m) → l = m
  | [], [], _, _, _ => rfl
  | [], y :: m, _, _, h => by have := (h y).mpr (by simp); simp at this
  | x :: l, [], _, _, h => by have := (h x).mp (by simp); simp at this
  | x :: l, y :: m, hl, hm, h => by
    obtain ⟨h1, h2⟩ := List.pairwise_cons.mp hl
    obtain ⟨h3, h4⟩ := List.pairwise_cons.mp hm
    have e : x = y := by
      rcases List.mem_cons.mp ((h x).mp (by simp)) with z | z
      · exact z
      · rcases List.mem_cons.mp ((h y).mpr (by simp)) with w | w
        · exact w.symm
        · have := h1 y w
          have := h3 x z
          omega
    subst e
    congr 1
    refine asc_unique h2 h4 fun u => ?_
    constructor
    · intro hu
      rcases List.mem_cons.mp ((h u).mp (by simp [hu])) with z | z
      · have := h1 u hu
        omega
      · exact z
    · intro hu
      rcases List.mem_cons.mp ((h u).mpr (by simp [hu])) with z | z
      · have := h3 u hu
        omega
      · exact z
section
variable {P : Program} {w : World} {A : Around} {E : Value → Shared → Prop} {s : Shared}
def memB (l : List Int) (k : Int) : Bool := l.contains k
theorem memB_snoc (l : List Int) (x k : Int) : memB (l ++ [x]) k = (memB l k || decide (k = x)) := by
  unfold memB
  by_cases h : k = x <;> simp [h]
/-- one number after the other goes into the set -/
theorem update_ints {I : Addr} {fp wr : List Addr} {G : Array GenState → Array GenState → Prop} {n : Nat} {Pv : Nat → Value → Prop} {St : Nat → Shared → Prop} {R : Result → Shared → Prop}
    (W : WalksS P w A.in1 I fp wr G n Pv St) (S : Addr) (hSf : S ∉ fp) (ns : List Int) (hn : n = ns.length) (hval : ∀ i v, Pv i v → ∃ x t, ns[i]? = some x ∧ v = .int x t) (h64 : (usort ns).length < 1000) :
    ∀ (k i : Nat) (s : Shared), n - i = k → i ≤ n → St i s → SetR w s.heap S (memB (ns.take i)) (usort (ns.take i)).length →
      (∀ s', Moved (S :: wr) G s s' → SetR w s'.heap S (memB ns) (usort ns).length → R (.ok (.ret .none)) s') →
      codeAny (model P w) A (.builtin "set.update.loop" ⟨[.ref S, .ref I], []⟩) R s := by
  have hSw : S ∉ wr := fun q => hSf (W.sub _ q)
  have up : ∀ b ∈ wr, b ∈ S :: wr := fun b hb => by simp [hb]
  intro k
  induction k with
  | zero =>
    intro i s hk hi hst hS hR
    obtain rfl : i = n := by omega
    refine codeAny_builtin F.entry_set_update_loop ?_
    rw [Around.under_plainId F.plain_set_update_loop _]
    show wpAny _ A.in1 (pyNext (.ref I) >>= _) _ _ s
    refine wpAny_bind (W.done s _ _ hst fun s2 hm => ?_)
    show wpAny _ A.in1 (ret Value.none) _ _ s2
    rw [hn, List.take_length] at hS
    exact wpAny_pure (hR s2 (hm.mono up) (hS.at fun o e => hm.heap S o hSw e))
  | succ k ih =>
    intro i s hk hi hst hS hR
    have hlt : i < n := by omega
    refine codeAny_builtin F.entry_set_update_loop ?_
    rw [Around.under_plainId F.plain_set_update_loop _]
    show wpAny _ A.in1 (pyNext (.ref I) >>= _) _ _ s
    refine wpAny_bind (W.item i s _ _ hlt hst fun v s2 hP hst2 hm => ?_)
    obtain ⟨x, t, hx, rfl⟩ := hval i v hP
    have hS2 : SetR w s2.heap S (memB (ns.take i)) (usort (ns.take i)).length := hS.at fun o e => hm.heap S o hSw e
    have et : ns.take (i + 1) = ns.take i ++ [x] := by
      rw [List.take_succ, hx]
      rfl
    have hsm : (usort (ns.take i)).length < 1000 := by
      have := usort_le (ns.take i) (ns.drop i)
      rw [List.take_append_drop] at this
      omega
    show wpAny _ A.in1 (holding [Value.int x t] (setAdd S (.int x t)) >>= _) _ _ s2
    refine wpAny_bind (wpAny_holding ?_)
    unfold setAdd
    refine wpAny_holding ?_
    refine wpAny_bind ((intKind P w).pyHash (intKind_is P w x t) ?_)
    refine setR_add_hashed (s := { s2 with toks := s2.toks + 1 }) hS2 (by unfold scanBound; omega) fun h3 sb r3 => ?_
    have r4 : SetR w h3 S (memB (ns.take (i + 1))) (usort (ns.take (i + 1))).length := by
      have e1 : (fun j => memB (ns.take i) j || decide (j = x)) = memB (ns.take (i + 1)) := by
        funext j
        rw [et, memB_snoc]
      have e2 : (if memB (ns.take i) x = true then (usort (ns.take i)).length else (usort (ns.take i)).length + 1) = (usort (ns.take (i + 1))).length := by
        rw [et, usort_snoc, len_insU (usort_asc _)]
        by_cases q : x ∈ ns.take i
        · rw [if_pos (by simpa [memB] using q), if_pos (mem_usort.mpr q)]
        · rw [if_neg (by simpa [memB] using q), if_neg (fun z => q (mem_usort.mp z))]
      rw [e1, e2] at r3
      exact r3
    refine wpAny_pure ⟨plainId_quiet F.plain_set_update_loop _, ih (i + 1) _ (by omega) hlt (W.frame _ s2 _ _ hst2 (Nat.le_succ _) fun b hb o e => ?_) r4 fun s5 hm5 r5 => ?_⟩
    · exact (sb.2 b (fun q : b = S => hSf (q ▸ hb))).trans e
    · refine hR s5 (Moved.trans W.gtrans ((hm.mono up).then_heap (Nat.le_succ _) fun b o hb e => ?_) hm5) r5
      exact (sb.2 b (fun q : b = S => hb (by simp [q]))).trans e
abbrev newSet (w : World) : Obj := { cls := .type "set", dict := none, data := .set #[] 0 (.fresh 0 0 (!w.params.followText "set-order")) }
theorem call_set_ints {l : Addr} {its : Array Value} (ns : List Int) {Q : Value → Shared → Prop} (hh : A.handled = none) (hl : s.heap.IsList l its) (hit : ∀ (i : Nat) (v : Value), its[i]? = some v → ∃ x t, ns[i]? = some x ∧ v = .int x t) (hlen : its.size = ns.length) (h64 : (usort ns).length < 1000)
    (h : ∀ (h' : Heap) (tk : Nat), SetR w h' s.heap.objs.size (memB ns) (usort ns).length → (∀ b o, s.heap.get? b = some o → h'.get? b = some o) → Q (.ref s.heap.objs.size) { s with heap := h', toks := tk }) :
    wpAny (model P w) A (call (.type "set") [.ref l]) Q E s := by
  obtain ⟨c, tl, hmro⟩ := F.called_set.mro
  have hmade := F.called_set.made
  have hsub := F.called_set.sub
  refine wpAny_call (codeAny_of_tree ?_)
  show wpAny _ _ (callAny (.type "set") _) _ _ _
  refine wpAny_pure ⟨Code.quiet_builtin _ (by decide +kernel), codeAny_builtin F.entry_type_call ?_⟩
  rw [Around.under_plain (weight_type_call_type "set" [.ref l] []) rfl]
  have h1 := F.called_set.notType
  have h2 := F.called_set.canCreate
  have hct := F.typeCall_set_1 (.ref l)
  repeat (any_goals (first | assumption | wp_step))
  refine codeAny_mono (code_set_led1 (.ref l) (E := E) (Q₁ := fun ob s1 => ob = .ref s.heap.objs.size ∧ s1 = { s with heap := s.heap.push (newSet w) }) ⟨rfl, rfl⟩) fun r s1 hr => ?_
  cases r with
  | error e => exact hr
  | ok fl =>
    cases fl with
    | ret ob =>
      obtain ⟨rfl, rfl⟩ := hr
      have hS : (s.heap.push (newSet w)).get? s.heap.objs.size = some (newSet w) := Heap.get?_push_size _ rfl
      have hT : Shared.TypeIs { s with heap := s.heap.push (newSet w) } (.ref s.heap.objs.size) "set" := ⟨_, hS, rfl⟩
      have hli := F.called_set.init.lookup
      have hbi := F.called_set.init.bind (.ref s.heap.objs.size)
      repeat (any_goals (first | assumption | wp_step))
      refine codeAny_mono (codeAny_call_builtin (R := wants (fun r s2 => r = .none ∧ ∃ h' tk, s2 = { s with heap := h', toks := tk } ∧ SetR w h' s.heap.objs.size (memB ns) (usort ns).length ∧
          (∀ b o, s.heap.get? b = some o → h'.get? b = some o)) E) F.called_set.init.plain F.entry_set_init (check_set_init_1 hT ?_)) fun r2 s2 hr2 => ?_
      · obtain ⟨⟨ocls, odict, odata, oslots⟩, hol, hcl, nl, hdl⟩ := hl
        simp only at hcl hdl
        subst hcl; subst hdl
        have hol2 : (s.heap.push (newSet w)).get? l = some { cls := .type "list", dict := odict, data := .seq its nl, slots := oslots } := Heap.get?_push_of_some _ hol
        have hsls := F.sub_list_set
        have hslf := F.sub_list_frozenset
        have hne : (Value.type "list" == Value.type "dict") = false := by decide
        have hl1 : (s.heap.push (newSet w)).IsList l its := ⟨_, hol2, rfl, nl, rfl⟩
        unfold Builtin.«set.__init__» noKeywords Builtin.Frozenset.updateFrom
        generalize hPI : pyIter = PI
        wp_walk
        subst hPI
        refine wpAny_pyIter_list hl1 ?_
        refine wpAny_bind (wpAny_runValue ?_)
        have hlS : l < s.heap.objs.size := Heap.lt_size hol
        have hh3 : A.in1.in1.in1.handled = none := by simp [hh]
        have hneI : l ≠ (s.heap.push (newSet w)).objs.size := by
          rw [Heap.size_push]
          exact Nat.ne_of_lt (Nat.lt_succ_of_lt hlS)
        have hSf : s.heap.objs.size ∉ [(s.heap.push (newSet w)).objs.size, l] := by
          rw [Heap.size_push]
          simp only [List.mem_cons, List.not_mem_nil, or_false, not_or]
          exact ⟨Nat.ne_of_lt (Nat.lt_succ_self _), Nat.ne_of_gt hlS⟩
        refine update_ints ((Walks.list hh3 _ l hneI its).toS) s.heap.objs.size hSf ns hlen hit h64 (its.size - 0) 0 _ (by omega) (Nat.zero_le _) ⟨⟨_, Heap.get?_push_size _ rfl, rfl, rfl⟩, (hl1.push _)⟩ ?hS0 ?hR
        case hS0 => exact (setR_fresh (h := s.heap) w).at fun o e => Heap.get?_push_of_some _ e
        case hR =>
          intro s3 hm hS3
          obtain ⟨h', g2, d', tk', os'⟩ := s3
          have eg : g2 = s.gens := hm.gens
          have ed : d' = s.drawn := hm.drawn
          have eo : os' = s.os := hm.os
          subst eg; subst ed; subst eo
          show wpAny _ _ _ _ _ _
          refine wpAny_pure ?_
          show wpAny _ _ (ret Value.none) _ _ _
          refine wpAny_pure ⟨rfl, h', tk', rfl, hS3, fun b o e => ?_⟩
          have hb := Heap.lt_size e
          exact hm.heap b o (by
            rw [Heap.size_push]
            simp only [List.mem_cons, List.not_mem_nil, or_false, not_or]
            exact ⟨Nat.ne_of_lt hb, Nat.ne_of_lt (Nat.lt_succ_of_lt hb)⟩) (Heap.get?_push_of_some _ (Heap.get?_push_of_some _ e))
      · cases r2 with
        | error e => exact hr2
        | ok fl2 =>
          cases fl2 with
          | ret r =>
            obtain ⟨rfl, h', tk, rfl, hS3, hk⟩ := hr2
            repeat (any_goals (first | assumption | wp_step))
            exact h _ _ hS3 hk
          | _ => exact hr2.elim
    | _ => exact hr.elim
end
theorem intsAre_get : ∀ {vs : List Value} {ns : List Int}, IntsAre vs ns → ∀ (i : Nat) (v : Value), vs[i]? = some v → ∃ x t, ns[i]? = some x ∧ v = .int x t
  | _, _, .nil, i, v, h => by simp at h
  | _, _, .cons n t r, 0, v, h => by
    simp at h
    exact ⟨n, t, rfl, h.symm⟩
  | _, _, .cons n t r, i + 1, v, h => by
    rw [List.getElem?_cons_succ] at h
    exact intsAre_get r i v h
section
variable {X : Cx}
def rSetOfI (K : PySem.W.Frag) (w : World) : List V → Hp → VK → Prop := fun xs H Q => ∃ (l : Addr) (ns : List Int), xs = [V.ref l] ∧ SqL K H l (ns.map V.int) ∧ (usort ns).length < 1000 ∧ ∀ a, H a = none → Q (.ref a) (upd H a (SetO w a (memB ns) (usort ns).length))
theorem cr_setOfI (hc : X.calm = true) : CallR X (.type "set") (rSetOfI X.K X.w) := by
  intro pins s σ H xs us Q I r h
  obtain ⟨l, ns, rfl, hl, h64, q⟩ := h
  rw [Vals.ref1 r]
  obtain ⟨its, rv, pl, hz⟩ := I.list hl
  have hn : H s.heap.objs.size = none := I.hok.fresh (Nat.le_refl _)
  have hint : IntsAre its ns := by simpa using rv.ints
  refine call_set_ints (P := X.prog) (w := X.w) ns (I.ok.hd hc) pl.isList (fun i v hv => intsAre_get hint i v (by simpa using hv)) (by simpa using IntsAre.length hint) h64 fun h' tk R k => ?_
  exact ⟨.ref s.heap.objs.size, upd H s.heap.objs.size (SetO X.w s.heap.objs.size (memB ns) (usort ns).length), I.laid (t' := tk) k (Nat.le_refl _) (setO_new R), rfl, q _ hn⟩
end
end EV
end
section
/-! EvX: sorted(x), x a set of ints of any size that sets are good for. -/
namespace EV
open PySem PySem.Spec PyProof.Rows L2
section
variable {P : Program} {w : World} {A : Around} {E : Value → Shared → Prop} {s : Shared} {a : Addr}
theorem sortedSetA {S : Int → Bool} {n : Nat} {Q : Value → Shared → Prop} (R : SetR w s.heap a S n) (hh : A.handled = none) (hn64 : n < 1000)
    (hQ : ∀ s' p (out : Array Value) (c : Nat) (ns : List Int), (∀ b o, s.heap.get? b = some o → s'.heap.get? b = some o) → s'.gens = s.gens → s'.os = s.os → s.heap.objs.size ≤ p → s'.heap.get? p = some (seqObj "list" out c) → IntsAre out.toList ns → ns.Pairwise (· < ·) → (∀ k, k ∈ ns ↔ S k = true) → ns.length = n → Q (.ref p) s') :
    wpAny (model P w) A (call (.builtin "sorted") [.ref a]) Q E s := by
  obtain ⟨o, es, ep, t, ho, hex, hd, g, nd, hm, hb, hf, hn, hr, hl⟩ := R
  refine Calls.call_function_entry kind_sorted plain_sorted entry_sorted (args_sorted1 _) ?_
  unfold Builtin.«sorted»
  refine wpAny_bind (m := checkCount "sorted" 1 1 _) (wpAny_pure ?_)
  refine wpAny_bind (collect_set (A := A.in1) hh ⟨o, ho, hex.1, hd⟩ hf hb hr hl fun s1 vs k1 hz g1 o1 pm => ?_)
  have len : vs.length = n := by rw [pm.length_eq, List.length_map, Array.length_toList, hn]
  have isI : IntsAre vs (vs.map Builtin.Re.reRawOf) := ints_of vs fun v hv => by
    obtain ⟨e, he, q⟩ := List.mem_map.mp (pm.mem_iff.mp hv)
    obtain ⟨k, tk, z, _⟩ := g e he
    exact ⟨k, tk, by rw [← q, z]⟩
  have pk : (vs.map Builtin.Re.reRawOf).Perm (es.toList.map keyOf) := by
    have z := pm.map Builtin.Re.reRawOf
    rwa [List.map_map] at z
  have room : vs.length ≤ sizeLine := by rw [len, sizeLine_eq]; omega
  refine wpAny_bind (wpAny_newList ?_ room)
  have at1 : (s1.heap.push (seqObj "list" vs.toArray 0)).get? s1.heap.objs.size = some (seqObj "list" vs.toArray 0) := Heap.get?_push_size _ rfl
  refine wpAny_bind (wpAny_holding (wpAny_call_entry slot_list_sort ⟨_, at1, rfl⟩ entry_list_sort (SrtO.list_sort_ord SrtO.swo_int at1 room (fun h2 => SrtO.ints_sortable isI h2) fun out h1 h2 => ⟨_, rfl, ?_⟩) (args_list_sort _)))
  obtain ⟨c1, c2, c3⟩ := SrtO.ints_out isI h1 h2
  obtain ⟨c, hc⟩ := sortedHeap_at (vs := vs) (out := out.toArray) at1
  have pn : (out.map SrtO.iv).Perm (es.toList.map keyOf) := c2.trans pk
  refine wpAny_pure ⟨_, rfl, hQ _ s1.heap.objs.size out.toArray c (out.map SrtO.iv) (fun b u e => ?_) g1 o1 hz hc (by simpa using c1) (lt_of_le_nodup _ c3 (pn.nodup_iff.mpr nd)) (fun k => by rw [pn.mem_iff, ← hm k]) (by rw [pn.length_eq, List.length_map, Array.length_toList, hn])⟩
  have old := k1 b u e
  have small := Heap.lt_size old
  show (sortedHeap (s1.heap.push (seqObj "list" vs.toArray 0)) s1.heap.objs.size vs out.toArray).get? b = some u
  rw [sortedHeap_old (Nat.ne_of_lt small) (by rw [size_push']; exact Nat.lt_succ_of_lt small)]
  exact Heap.get?_push_of_some _ old
end
section
variable {X : Cx}
def rSortedSetA (w : World) : List V → Hp → VK → Prop := fun vs H Q => ∃ (a : Addr) (S : Int → Bool) (n : Nat), vs = [V.ref a] ∧ H a = some (SetO w a S n) ∧ n < 1000 ∧ ∀ (ns : List Int) (p : Addr), ns.Pairwise (· < ·) → (∀ k : Int, k ∈ ns ↔ S k = true) → ns.length = n → H p = none → Q (.ref p) (upd H p (.lst (ns.map V.int)))
theorem cr_sortedSetA (hc : X.calm = true) : CallR X (.builtin "sorted") (rSortedSetA X.w) := by
  intro pins s σ H vs us Q I r h
  obtain ⟨a, S, n, rfl, ha, hs, q⟩ := h
  have R := setO_get I ha
  rw [Vals.ref1 r]
  refine sortedSetA R (I.ok.hd hc) hs fun s' p out c ns k g o hp hg hi hasc hm hl => ?_
  have room : (ns.map V.int).length ≤ sizeLine := by rw [List.length_map, hl, sizeLine_eq]; omega
  have fresh : H p = none := I.hok.fresh hp
  have J : Inv X pins σ (upd H p (.lst (ns.map V.int))) { s with heap := s'.heap, gens := s'.gens, drawn := s'.drawn, toks := s'.toks } :=
    I.call (ch := []) (Un.laid k hp fresh) (I.hok.laid k hp ⟨room, out.toList, c, vals_of_ints hi, hg⟩) (by rw [g]; exact I.bare) (fun _ z => nomatch z)
  have same : s' = { s with heap := s'.heap, gens := s'.gens, drawn := s'.drawn, toks := s'.toks } := by
    cases s' <;> cases s <;> cases o <;> rfl
  rw [same]
  exact ⟨.ref p, _, J, rfl, q ns p hasc hm hl fresh⟩
end
end EV
end
section
/-! EvZ: zip of a tuple and a list. The two iterators are known by what their next does alone. -/
namespace EV
open PySem PySem.Spec PyProof.Rows L2 RZ
section
variable {prog : Program} {w : World} {A : Around} {E : Value → Shared → Prop} {s : Shared}
/-- K speaks of the places of l alone -/
def Keeps (l : List Addr) (K : Heap → Prop) : Prop := ∀ h h' : Heap, K h → (∀ b ∈ l, ∀ o, h.get? b = some o → h'.get? b = some o) → K h'
theorem Keeps.but {l : List Addr} {K : Heap → Prop} (k : Keeps l K) {h h' : Heap} {b : Addr} (e : Heap.ExtBut b h h') (hb : b ∉ l) (x : K h) : K h' := k h h' x fun c hc o q => e c o (fun z => hb (z ▸ hc)) q
/-- an iterator at i, at its k-th turn while K k: what its next does -/
structure NxIt (prog : Program) (w : World) (i : Addr) (l : List Addr) (K : Nat → Heap → Prop) (xs : List Value) : Prop where
  kp : ∀ k, Keeps l (K k)
  lt : ∀ k h, K k h → i < h.objs.size
  item : ∀ (k : Nat) (x : Value) (A : Around) (E : Value → Shared → Prop) (s : Shared) (Q : Value → Shared → Prop), xs[k]? = some x → K k s.heap → (∀ h', K (k + 1) h' → Heap.SameBut i s.heap h' → Q x { s with heap := h' }) → wpAny (model prog w) A (Builtin.SmallTypes.nextOf (.ref i)) Q E s
  done : ∀ (k : Nat) (A : Around) (E : Value → Shared → Prop) (s : Shared) (Q : Value → Shared → Prop), A.handled = none → xs[k]? = none → K k s.heap → (∀ h' e, Heap.ExtBut i s.heap h' → (∃ o, h'.get? e = some o ∧ o.cls = .type "StopIteration") → E (.ref e) { s with heap := h' }) → wpAny (model prog w) A (Builtin.SmallTypes.nextOf (.ref i)) Q E s
structure Zp (z TI TO i1 i2 : Addr) (l1 l2 : List Addr) : Prop where
  n1 : TI ≠ z
  n2 : TO ≠ z
  n3 : i1 ≠ z
  n4 : i2 ≠ z
  n5 : TI ≠ TO
  n6 : TI ≠ i1
  n7 : TI ≠ i2
  n8 : TO ≠ i1
  n9 : TO ≠ i2
  n10 : i1 ≠ i2
  z1 : z ∉ l1
  z2 : z ∉ l2
  t1 : TO ∉ l1
  t2 : TO ∉ l2
  c1 : i2 ∉ l1
  c2 : i1 ∉ l2
variable {z TI TO i1 i2 : Addr} {l1 l2 : List Addr} {K1 K2 : Nat → Heap → Prop} {xs ys : List Value}
theorem zp_item {m n : Nat} {x y a b : Value} {Q : Value → Shared → Prop} (D : Zp z TI TO i1 i2 l1 l2) (I1 : NxIt prog w i1 l1 K1 xs) (I2 : NxIt prog w i2 l2 K2 ys)
    (hz : IsZip s.heap z TI TO .none) (hTI : IsPair s.heap TI (.ref i1) (.ref i2)) (hTO : IsPair s.heap TO a b) (k1 : K1 m s.heap) (k2 : K2 n s.heap) (hx : xs[m]? = some x) (hy : ys[n]? = some y)
    (hQ : ∀ h', IsZip h' z TI TO (rawInt s.heap.objs.size) → IsPair h' TO x y → K1 (m + 1) h' → K2 (n + 1) h' → IsPair h' s.heap.objs.size x y → h'.objs.size = s.heap.objs.size + 1 → (∀ c o, c ≠ z → c ≠ TO → c ≠ i1 → c ≠ i2 → s.heap.get? c = some o → h'.get? c = some o) → Q (.ref s.heap.objs.size) { s with heap := h' }) :
    wpAny (model prog w) A (Builtin.«zip.__next__» ⟨[.ref z], []⟩) (fun fin s' => ∃ v, fin = .done (.ret v) ∧ Q v s') E s := by
  show wpAny _ _ (field (.ref z) 2 >>= _) _ _ _
  refine wpAny_bind (wpAny_field hz rfl (x := .bool false) rfl ?_)
  show wpAny _ _ (field (.ref z) 3 >>= _) _ _ _
  refine wpAny_bind (wpAny_field hz rfl (x := .ref TI) rfl (wpAny_bind (wpAny_seqItems hTI rfl ?_)))
  show wpAny _ _ (Builtin.SmallTypes.ownedTupleIsFree (.ref z) >>= _) _ _ _
  unfold Builtin.SmallTypes.ownedTupleIsFree
  refine wpAny_bind (wpAny_bind (wpAny_field hz rfl (x := .none) rfl (wpAny_pure ?_)))
  simp only [if_true]
  refine wpAny_bind (wpAny_rule (wpAny_bind (wpAny_field hz rfl (x := .ref TO) rfl (wpAny_bind (wpAny_setField_rec hz (by simp) fun ha za sa => ?_)))))
  replace za : IsZip ha z TI TO .ellipsis := za
  refine wpAny_bind ?_
  simp only [List.zipIdx_cons, List.zipIdx_nil, List.forIn_cons, List.forIn_nil]
  -- the first
  refine wpAny_bind (wpAny_bind (wpAny_onRaise ?_))
  show wpAny _ _ (Builtin.SmallTypes.nextOf (.ref i1) >>= _) _ _ _
  refine wpAny_bind (I1.item m x _ _ _ _ hx ((I1.kp m).but sa.extBut D.z1 k1) fun hb kb sb => wpAny_pure ?_)
  have Ob : IsPair hb TO a b := sb.extBut _ _ D.n8 (sa.extBut _ _ D.n2 hTO)
  refine wpAny_bind (wpAny_seqItems Ob rfl (wpAny_bind (wpAny_updateSeq_pair Ob fun hc Oc sc => ?_)))
  replace Oc : IsPair hc TO x b := Oc
  refine wpAny_bind (wpAny_letGo (wpAny_pure ?_))
  -- the second
  refine wpAny_bind (wpAny_bind (wpAny_onRaise ?_))
  show wpAny _ _ (Builtin.SmallTypes.nextOf (.ref i2) >>= _) _ _ _
  have k2c : K2 n hc := (I2.kp n).but sc.extBut D.t2 ((I2.kp n).but sb.extBut D.c2 ((I2.kp n).but sa.extBut D.z2 k2))
  refine wpAny_bind (I2.item n y _ _ _ _ hy k2c fun hd kd sd => wpAny_pure ?_)
  have Od : IsPair hd TO x b := sd.extBut _ _ D.n9 Oc
  refine wpAny_bind (wpAny_seqItems Od rfl (wpAny_bind (wpAny_updateSeq_pair Od fun he Oe se => ?_)))
  replace Oe : IsPair he TO x y := Oe
  refine wpAny_bind (wpAny_letGo (wpAny_pure (wpAny_pure (wpAny_bind (wpAny_seqItems Oe rfl (wpAny_bind (wpAny_newTuple ?_)))))))
  have hsz : he.objs.size = s.heap.objs.size := by rw [se.1, sd.1, sc.1, sb.1, sa.1]
  have ze : IsZip he z TI TO .ellipsis := se.extBut _ _ D.n2.symm (sd.extBut _ _ D.n4.symm (sc.extBut _ _ D.n2.symm (sb.extBut _ _ D.n3.symm za)))
  have old : ∀ c o, c ≠ z → c ≠ TO → c ≠ i1 → c ≠ i2 → s.heap.get? c = some o → he.get? c = some o := fun c o q1 q2 q3 q4 e => se.extBut _ _ q2 (sd.extBut _ _ q4 (sc.extBut _ _ q2 (sb.extBut _ _ q3 (sa.extBut _ _ q1 e))))
  have k1e : K1 (m + 1) he := (I1.kp _).but se.extBut D.t1 ((I1.kp _).but sd.extBut D.c1 ((I1.kp _).but sc.extBut D.t1 kb))
  have k2e : K2 (n + 1) he := (I2.kp _).but se.extBut D.t2 kd
  have zlt : z < he.objs.size := Heap.lt_size ze
  show wpAny _ _ (Builtin.SmallTypes.ownedTupleHandOut (.ref z) (.ref he.objs.size) >>= _) _ _ _
  unfold Builtin.SmallTypes.ownedTupleHandOut
  have zf : IsZip (he.push { cls := .type "tuple", data := .seq #[x, y] }) z TI TO .ellipsis := Heap.get?_push_of_some _ ze
  refine wpAny_bind (wpAny_bind (wpAny_setField_rec zf (by simp) fun hg zg sg => ?_))
  replace zg : IsZip hg z TI TO (rawInt he.objs.size) := zg
  refine wpAny_setField_rec zg (by simp) fun hh zh sh => ?_
  replace zh : IsZip hh z TI TO (rawInt he.objs.size) := zh
  have up : ∀ c o, c ≠ z → he.get? c = some o → hh.get? c = some o := fun c o q e => sh.extBut _ _ q (sg.extBut _ _ q (Heap.get?_push_of_some _ e))
  have new : IsPair hh he.objs.size x y := sh.extBut _ _ (Nat.ne_of_gt zlt) (sg.extBut _ _ (Nat.ne_of_gt zlt) (Heap.get?_push_size _ rfl))
  have hsz2 : hh.objs.size = he.objs.size + 1 := by rw [sh.1, sg.1, Heap.size_push]
  rw [hsz] at zh new hsz2
  refine wpAny_pure ⟨_, rfl, ?_⟩
  show Q (.ref he.objs.size) _
  rw [hsz]
  exact hQ hh zh (up _ _ D.n2 Oe) ((I1.kp _) he hh k1e fun c hc o e => up c o (fun q => D.z1 (q ▸ hc)) e) ((I2.kp _) he hh k2e fun c hc o e => up c o (fun q => D.z2 (q ▸ hc)) e) new hsz2 fun c o q1 q2 q3 q4 e => up c o q1 (old c o q1 q2 q3 q4 e)
theorem zp_end {m n : Nat} {a b : Value} {Q : PySem.Fin → Shared → Prop} (hh : A.handled = none) (D : Zp z TI TO i1 i2 l1 l2) (I1 : NxIt prog w i1 l1 K1 xs) (I2 : NxIt prog w i2 l2 K2 ys)
    (hz : IsZip s.heap z TI TO .none) (hTI : IsPair s.heap TI (.ref i1) (.ref i2)) (hTO : IsPair s.heap TO a b) (k1 : K1 m s.heap) (k2 : K2 n s.heap) (hend : xs[m]? = none ∨ ys[n]? = none)
    (hE : ∀ h' e, (∀ c o, c ≠ z → c ≠ TO → c ≠ i1 → c ≠ i2 → s.heap.get? c = some o → h'.get? c = some o) → (∃ o, h'.get? e = some o ∧ o.cls = .type "StopIteration") → E (.ref e) { s with heap := h' }) :
    wpAny (model prog w) A (Builtin.«zip.__next__» ⟨[.ref z], []⟩) Q E s := by
  show wpAny _ _ (field (.ref z) 2 >>= _) _ _ _
  refine wpAny_bind (wpAny_field hz rfl (x := .bool false) rfl ?_)
  show wpAny _ _ (field (.ref z) 3 >>= _) _ _ _
  refine wpAny_bind (wpAny_field hz rfl (x := .ref TI) rfl (wpAny_bind (wpAny_seqItems hTI rfl ?_)))
  show wpAny _ _ (Builtin.SmallTypes.ownedTupleIsFree (.ref z) >>= _) _ _ _
  unfold Builtin.SmallTypes.ownedTupleIsFree
  refine wpAny_bind (wpAny_bind (wpAny_field hz rfl (x := .none) rfl (wpAny_pure ?_)))
  simp only [if_true]
  refine wpAny_bind (wpAny_rule (wpAny_bind (wpAny_field hz rfl (x := .ref TO) rfl (wpAny_bind (wpAny_setField_rec hz (by simp) fun ha za sa => ?_)))))
  replace za : IsZip ha z TI TO .ellipsis := za
  refine wpAny_bind ?_
  simp only [List.zipIdx_cons, List.zipIdx_nil, List.forIn_cons, List.forIn_nil]
  refine wpAny_bind (wpAny_bind (wpAny_onRaise ?_))
  show wpAny _ _ (Builtin.SmallTypes.nextOf (.ref i1) >>= _) _ _ _
  have k1a : K1 m ha := (I1.kp m).but sa.extBut D.z1 k1
  cases hx : xs[m]? with
  | none =>
    refine wpAny_bind (I1.done m _ _ _ _ hh hx k1a fun hb e sb he => ?_)
    obtain ⟨oe, hoe, hce⟩ := he
    have zb : IsZip hb z TI TO .ellipsis := sb _ _ D.n3.symm za
    have hez : e ≠ z := fun q => by
      subst q
      rw [zb] at hoe
      cases hoe
      simp at hce
    refine wpAny_setField_rec zb (by simp) fun hc _ sc => hE hc e (fun c o q1 _ q3 _ x => sc.extBut _ _ q1 (sb _ _ q3 (sa.extBut _ _ q1 x))) ⟨oe, sc.extBut _ _ hez hoe, hce⟩
  | some x =>
    have hy : ys[n]? = none := by
      rcases hend with h | h
      · rw [hx] at h; cases h
      · exact h
    refine wpAny_bind (I1.item m x _ _ _ _ hx k1a fun hb kb sb => wpAny_pure ?_)
    have Ob : IsPair hb TO a b := sb.extBut _ _ D.n8 (sa.extBut _ _ D.n2 hTO)
    refine wpAny_bind (wpAny_seqItems Ob rfl (wpAny_bind (wpAny_updateSeq_pair Ob fun hc Oc sc => ?_)))
    refine wpAny_bind (wpAny_letGo (wpAny_pure (wpAny_bind (wpAny_bind (wpAny_onRaise ?_)))))
    show wpAny _ _ (Builtin.SmallTypes.nextOf (.ref i2) >>= _) _ _ _
    have k2c : K2 n hc := (I2.kp n).but sc.extBut D.t2 ((I2.kp n).but sb.extBut D.c2 ((I2.kp n).but sa.extBut D.z2 k2))
    refine wpAny_bind (I2.done n _ _ _ _ hh hy k2c fun hd e sd he => ?_)
    obtain ⟨oe, hoe, hce⟩ := he
    have zd : IsZip hd z TI TO .ellipsis := sd _ _ D.n4.symm (sc.extBut _ _ D.n2.symm (sb.extBut _ _ D.n3.symm za))
    have hez : e ≠ z := fun q => by
      subst q
      rw [zd] at hoe
      cases hoe
      simp at hce
    refine wpAny_setField_rec zd (by simp) fun he' _ se => hE he' e (fun c o q1 q2 q3 q4 x => se.extBut _ _ q1 (sd _ _ q4 (sc.extBut _ _ q2 (sb.extBut _ _ q3 (sa.extBut _ _ q1 x))))) ⟨oe, se.extBut _ _ hez hoe, hce⟩
theorem zp_next {m n : Nat} {x y a b : Value} {Q : Option Value → Shared → Prop} (D : Zp z TI TO i1 i2 l1 l2) (I1 : NxIt prog w i1 l1 K1 xs) (I2 : NxIt prog w i2 l2 K2 ys)
    (hz : IsZip s.heap z TI TO .none) (hTI : IsPair s.heap TI (.ref i1) (.ref i2)) (hTO : IsPair s.heap TO a b) (k1 : K1 m s.heap) (k2 : K2 n s.heap) (hx : xs[m]? = some x) (hy : ys[n]? = some y)
    (hQ : ∀ h', IsZip h' z TI TO (rawInt s.heap.objs.size) → IsPair h' TO x y → K1 (m + 1) h' → K2 (n + 1) h' → IsPair h' s.heap.objs.size x y → h'.objs.size = s.heap.objs.size + 1 → (∀ c o, c ≠ z → c ≠ TO → c ≠ i1 → c ≠ i2 → s.heap.get? c = some o → h'.get? c = some o) → Q (some (.ref s.heap.objs.size)) { s with heap := h' }) :
    wpAny (model prog w) A (pyNext (.ref z)) Q E s := by
  have hT : s.TypeIs (.ref z) "zip" := ⟨_, hz, rfl⟩
  unfold pyNext
  refine wpAny_bind (wpAny_attempt (wpAny_callSpecial?_slot (name := Str.ofString "__next__") hT F.slot_zip_next (wpAny_call_entry F.slot_zip_next hT F.entry_zip_next ?_ (F.args_zip_next_1 _))))
  exact zp_item D I1 I2 hz hTI hTO k1 k2 hx hy fun h' a1 a2 a3 a4 a5 a6 a7 => wpAny_pure (hQ h' a1 a2 a3 a4 a5 a6 a7)
theorem zp_stop {m n : Nat} {a b : Value} {Q : Option Value → Shared → Prop} (hh : A.handled = none) (D : Zp z TI TO i1 i2 l1 l2) (I1 : NxIt prog w i1 l1 K1 xs) (I2 : NxIt prog w i2 l2 K2 ys)
    (hz : IsZip s.heap z TI TO .none) (hTI : IsPair s.heap TI (.ref i1) (.ref i2)) (hTO : IsPair s.heap TO a b) (k1 : K1 m s.heap) (k2 : K2 n s.heap) (hend : xs[m]? = none ∨ ys[n]? = none)
    (hQ : ∀ h', (∀ c o, c ≠ z → c ≠ TO → c ≠ i1 → c ≠ i2 → s.heap.get? c = some o → h'.get? c = some o) → Q none { s with heap := h' }) : wpAny (model prog w) A (pyNext (.ref z)) Q E s := by
  have hT : s.TypeIs (.ref z) "zip" := ⟨_, hz, rfl⟩
  unfold pyNext
  refine wpAny_bind (wpAny_attempt (wpAny_callSpecial?_slot (name := Str.ofString "__next__") hT F.slot_zip_next (wpAny_call_entry F.slot_zip_next hT F.entry_zip_next ?_ (F.args_zip_next_1 _))))
  refine zp_end hh D I1 I2 hz hTI hTO k1 k2 hend fun h' e hk he => ?_
  obtain ⟨o, ho, hc⟩ := he
  exact wpAny_bind (wpAny_isInstance (T := "StopIteration") (b := true) ⟨o, ho, hc⟩ isSubtype_stop (wpAny_pure (hQ _ hk)))
end
/-! the two kinds -/
def ItT (i l : Addr) (its : Array Value) (k : Nat) (h : Heap) : Prop := h.IsTupleIter i l k ∧ h.IsTuple l its
def ItL (i l : Addr) (its : Array Value) (k : Nat) (h : Heap) : Prop := h.IsListIter i l k ∧ h.IsList l its
theorem itT_ok {prog : Program} {w : World} {i l : Addr} {its : Array Value} (hne : l ≠ i) : NxIt prog w i [i, l] (ItT i l its) its.toList where
  kp := fun k h h' x e => ⟨x.1.at fun o q => e i (by simp) o q, x.2.at fun o q => e l (by simp) o q⟩
  lt := fun k h x => by
    obtain ⟨⟨o, e, _⟩, _⟩ := x
    exact Heap.lt_size e
  item := fun k x A E s Q hx h q => nextOf_tuple_item h.1 h.2 (by simpa using hx) fun h' a b => q h' ⟨a, h.2.extBut b.extBut hne⟩ b
  done := fun k A E s Q hh hx h q => nextOf_tuple_end hh h.1 h.2 (by simpa using hx) q
theorem itL_ok {prog : Program} {w : World} {i l : Addr} {its : Array Value} (hne : l ≠ i) : NxIt prog w i [i, l] (ItL i l its) its.toList where
  kp := fun k h h' x e => ⟨x.1.at fun o q => e i (by simp) o q, x.2.at fun o q => e l (by simp) o q⟩
  lt := fun k h x => by
    obtain ⟨⟨o, e, _⟩, _⟩ := x
    exact Heap.lt_size e
  item := fun k x A E s Q hx h q => wpAny_nextOf_list_item h.1 h.2 (by simpa using hx) fun h' a b => q h' ⟨a, h.2.extBut b.extBut hne⟩ b
  done := fun k A E s Q hh hx h q => wpAny_nextOf_list_end hh h.1 h.2 (by simpa using hx) q
abbrev zo1 (l : Addr) : Obj := { cls := .type "tuple_iterator", data := .fields #[.ref l, .int 0 0] }
abbrev zo2 (l : Addr) : Obj := { cls := .type "list_iterator", data := .fields #[.ref l, .int 0 0] }
abbrev zo3 (h : Heap) : Obj := { cls := .type "tuple", data := .seq #[.ref h.objs.size, .ref (h.objs.size + 1)] }
abbrev zo4 : Obj := { cls := .type "tuple", data := .seq #[.none, .none] }
abbrev zo5 (h : Heap) : Obj := { cls := .type "zip", data := .fields #[.none, .bool false, .bool false, .ref (h.objs.size + 2), .ref (h.objs.size + 3)] }
abbrev zoH (h : Heap) (l1 l2 : Addr) : Heap := ((((h.push (zo1 l1)).push (zo2 l2)).push (zo3 h)).push zo4).push (zo5 h)
theorem zp_new (l1 l2 : Addr) (xs ys : Array Value) :
    Meets (Builtin.«zip.__new__» ⟨[.type "zip", .ref l1, .ref l2], []⟩) (fun _ R s => s.heap.IsTuple l1 xs ∧ s.heap.IsList l2 ys ∧ R (.ok (.ret (.ref (s.heap.objs.size + 4)))) { s with heap := zoH s.heap l1 l2 }) :=
  .of_wp fun prog w A R s h => by
    obtain ⟨hp, g, d, tk, os⟩ := s
    obtain ⟨hl1, hl2, h⟩ := h
    have hsub := sub_zip
    have hL1 : Heap.IsTuple (Shared.heap ⟨hp, g, d, tk, os⟩) l1 xs := hl1
    have hL2 : Heap.IsList (Shared.heap ⟨hp.push (zo1 l1), g, d, tk, os⟩) l2 ys := Heap.IsList.push hl2 _
    wp_walk using wpAny_pyIter_tuple hL1, wpAny_pyIter_list hL2
    simp only [zoH, Heap.size_push] at h ⊢
    exact ⟨_, rfl, h⟩
section
variable {prog : Program} {w : World} {A : Around} {E : Value → Shared → Prop} {s : Shared}
theorem zp_call {l1 l2 : Addr} {xs ys : Array Value} {Q : Value → Shared → Prop} (hl1 : s.heap.IsTuple l1 xs) (hl2 : s.heap.IsList l2 ys)
    (h : ∀ h', IsZip h' (s.heap.objs.size + 4) (s.heap.objs.size + 2) (s.heap.objs.size + 3) .none → IsPair h' (s.heap.objs.size + 2) (.ref s.heap.objs.size) (.ref (s.heap.objs.size + 1)) → IsPair h' (s.heap.objs.size + 3) .none .none →
      ItT s.heap.objs.size l1 xs 0 h' → ItL (s.heap.objs.size + 1) l2 ys 0 h' → (∀ c o, s.heap.get? c = some o → h'.get? c = some o) → Q (.ref (s.heap.objs.size + 4)) { s with heap := h' }) :
    wpAny (model prog w) A (call (.type "zip") [.ref l1, .ref l2]) Q E s := by
  refine callType_new F.called_zip (by decide) (F.typeCall_zip_2 _ _) (F.newCall_zip_2 _ _) (fun obj => F.args_object_init_3 obj _ _) F.entry_zip_new (zp_new l1 l2 xs ys) ⟨hl1, hl2, ?_⟩
  have q1 : ∀ (h : Heap) (o : Obj), o.isFreed = false → (h.push o).get? h.objs.size = some o := fun h o e => Heap.get?_push_size _ e
  have g1 : (zoH s.heap l1 l2).get? s.heap.objs.size = some (zo1 l1) := Heap.get?_push_of_some _ (Heap.get?_push_of_some _ (Heap.get?_push_of_some _ (Heap.get?_push_of_some _ (q1 _ _ rfl))))
  have g2 : (zoH s.heap l1 l2).get? (s.heap.objs.size + 1) = some (zo2 l2) := Heap.get?_push_of_some _ (Heap.get?_push_of_some _ (Heap.get?_push_of_some _ (by
    have := q1 (s.heap.push (zo1 l1)) (zo2 l2) rfl
    rwa [Heap.size_push] at this)))
  have g3 : (zoH s.heap l1 l2).get? (s.heap.objs.size + 2) = some (zo3 s.heap) := Heap.get?_push_of_some _ (Heap.get?_push_of_some _ (by
    have := q1 ((s.heap.push (zo1 l1)).push (zo2 l2)) (zo3 s.heap) rfl
    rwa [Heap.size_push, Heap.size_push] at this))
  have g4 : (zoH s.heap l1 l2).get? (s.heap.objs.size + 3) = some zo4 := Heap.get?_push_of_some _ (by
    have := q1 (((s.heap.push (zo1 l1)).push (zo2 l2)).push (zo3 s.heap)) zo4 rfl
    rwa [Heap.size_push, Heap.size_push, Heap.size_push] at this)
  have g5 : (zoH s.heap l1 l2).get? (s.heap.objs.size + 4) = some (zo5 s.heap) := by
    have := q1 ((((s.heap.push (zo1 l1)).push (zo2 l2)).push (zo3 s.heap)).push zo4) (zo5 s.heap) rfl
    rwa [Heap.size_push, Heap.size_push, Heap.size_push, Heap.size_push] at this
  have up : ∀ c o, s.heap.get? c = some o → (zoH s.heap l1 l2).get? c = some o := fun c o x => Heap.get?_push_of_some _ (Heap.get?_push_of_some _ (Heap.get?_push_of_some _ (Heap.get?_push_of_some _ (Heap.get?_push_of_some _ x))))
  show _ ∧ _
  exact ⟨⟨_, g5, rfl⟩, h _ g5 g3 g4 ⟨⟨_, g1, rfl, rfl⟩, hl1.at (up l1)⟩ ⟨⟨_, g2, rfl, rfl⟩, hl2.at (up l2)⟩ up⟩
end
/-- the tuple at a, the list at b as they stand at each turn -/
def ItzM (K : PySem.W.Frag) (a b : Addr) : It :=
  ⟨fun i H => ∃ (xs ys : List V) (x y : V), SqT K H a xs ∧ SqL K H b ys ∧ xs[i]? = some x ∧ ys[i]? = some y,
    fun i H v H' => ∃ T x y, v = .ref T ∧ H T = none ∧ H' = upd H T (.tup [x, y]) ∧ (∀ xs, SqT K H a xs → xs[i]? = some x) ∧ ∀ ys, SqL K H b ys → ys[i]? = some y,
    fun i H => ∃ xs ys : List V, SqT K H a xs ∧ SqL K H b ys ∧ (xs.length ≤ i ∨ ys.length ≤ i)⟩
theorem zp_apart {n a b : Nat} (ha : a < n) (hb : b < n) : Zp (n + 4) (n + 2) (n + 3) n (n + 1) [n, a] [n + 1, b] where
  n1 := (by omega : n + 2 ≠ n + 4)
  n2 := (by omega : n + 3 ≠ n + 4)
  n3 := (by omega : n ≠ n + 4)
  n4 := (by omega : n + 1 ≠ n + 4)
  n5 := (by omega : n + 2 ≠ n + 3)
  n6 := (by omega : n + 2 ≠ n)
  n7 := (by omega : n + 2 ≠ n + 1)
  n8 := (by omega : n + 3 ≠ n)
  n9 := (by omega : n + 3 ≠ n + 1)
  n10 := (by omega : n ≠ n + 1)
  z1 := by simp; exact (by omega : n + 4 ≠ a)
  z2 := by simp; exact (by omega : n + 4 ≠ b)
  t1 := by simp; exact (by omega : n + 3 ≠ a)
  t2 := by simp; exact (by omega : n + 3 ≠ b)
  c1 := by simp; exact (by omega : n + 1 ≠ a)
  c2 := by simp; exact (by omega : n ≠ b)
theorem zp_turn {P : Program} {w : World} {K : PySem.W.Frag} {elts : List Expr} {kk : Nat} {tpos : Pos} {a b n : Addr} (ha : a < n) (hb : b < n) :
    Turn P w K (.Tuple elts kk tpos) (ItzM K a b) [n + 4, n + 2, n + 3, n, n + 1] (n + 4) (fun i h => IsZip h (n + 4) (n + 2) (n + 3) .none ∧ IsPair h (n + 2) (.ref n) (.ref (n + 1)) ∧ (∃ x y, IsPair h (n + 3) x y) ∧ h.IsTupleIter n a i ∧ h.IsListIter (n + 1) b i) where
  mem := by simp
  obj := fun i h st c hc => by
    obtain ⟨hz, hTI, ⟨x, y, hTO⟩, ⟨o1, e1, _, d1⟩, ⟨o2, e2, _, d2⟩⟩ := st
    simp only [List.mem_cons, List.not_mem_nil, or_false] at hc
    rcases hc with rfl | rfl | rfl | rfl | rfl
    · exact ⟨_, hz, fun v q => nomatch q⟩
    · exact ⟨_, hTI, fun v q => nomatch q⟩
    · exact ⟨_, hTO, fun v q => nomatch q⟩
    · exact ⟨o1, e1, fun v q => by rw [d1] at q; cases q⟩
    · exact ⟨o2, e2, fun v q => by rw [d2] at q; cases q⟩
  keep := fun i h h' st k => by
    obtain ⟨hz, hTI, ⟨x, y, hTO⟩, h1, h2⟩ := st
    exact ⟨k _ (by simp) _ hz, k _ (by simp) _ hTI, ⟨x, y, k _ (by simp) _ hTO⟩, h1.at fun o q => k _ (by simp) o q, h2.at fun o q => k _ (by simp) o q⟩
  item := by
    intro X hP hw hK hc i pins s σ H E I hf st hg
    subst hP hw hK
    obtain ⟨hz, hTI, ⟨x0, y0, hTO⟩, h1, h2⟩ := st
    obtain ⟨xs, ys, x, y, hqx, hqy, hx, hy⟩ := hg
    obtain ⟨its, rv, p, _⟩ := I.tuple hqx
    obtain ⟨its2, rv2, p2, _⟩ := I.list hqy
    obtain ⟨u, hu, ru⟩ := rv.get hx
    obtain ⟨u2, hu2, ru2⟩ := rv2.get hy
    have D := zp_apart ha hb
    have hzl : n + 4 < s.heap.objs.size := Heap.lt_size hz
    have hlt : ∀ c ∈ [n + 4, n + 2, n + 3, n, n + 1], c < s.heap.objs.size := fun c hcm => by
      simp only [List.mem_cons, List.not_mem_nil, or_false] at hcm
      rcases hcm with rfl | rfl | rfl | rfl | rfl
      · exact hzl
      · exact Nat.lt_of_le_of_lt (Nat.add_le_add_left (show 2 ≤ 4 by decide) n) hzl
      · exact Nat.lt_of_le_of_lt (Nat.add_le_add_left (show 3 ≤ 4 by decide) n) hzl
      · exact Nat.lt_of_le_of_lt (Nat.le_add_right _ 4) hzl
      · exact Nat.lt_of_le_of_lt (Nat.add_le_add_left (show 1 ≤ 4 by decide) n) hzl
    refine zp_next (A := X.A) D (itT_ok (its := its.toArray) (Nat.ne_of_lt ha)) (itL_ok (its := its2.toArray) (Nat.ne_of_lt (Nat.lt_succ_of_lt hb))) hz hTI hTO ⟨h1, p⟩ ⟨h2, p2.isList⟩ (x := u) (y := u2) (by simpa using hu) (by simpa using hu2) fun h' z' TO' h1' h2' hT hsz hk => ?_
    refine ⟨_, rfl, wpAny_letOwnedTupleGo_zip (s := { s with heap := h' }) z' fun h'' z'' sb => ?_⟩
    have hT2 : h''.get? s.heap.objs.size = some { cls := .type "tuple", data := .seq #[u, u2] } := (sb.2 _ (Nat.ne_of_gt hzl)).trans hT
    have new : ObjOk X.prog X.w (upd H s.heap.objs.size (.tup [x, y])) h'' s.heap.objs.size (.tup [x, y]) := ⟨by show 2 ≤ sizeLine; decide, [u, u2], .cons ru (.cons ru2 .nil), ⟨_, hT2, rfl, _, rfl⟩⟩
    have J : Inv X pins σ (upd H s.heap.objs.size (.tup [x, y])) { s with heap := h'' } := I.turnedNew (t' := s.toks) (ch := [n + 4, n + 2, n + 3, n, n + 1]) (fun c o hb q => (sb.2 c (fun z => hb (by simp [z]))).trans (hk c o (fun z => hb (by simp [z])) (fun z => hb (by simp [z])) (fun z => hb (by simp [z])) (fun z => hb (by simp [z])) q)) hf (Nat.le_refl _) new
    refine ⟨.ref s.heap.objs.size, _, J, rfl, ⟨_, x, y, rfl, I.hok.fresh (Nat.le_refl _), rfl, fun l hl => by rw [I.tuple_inj hl hqx]; exact hx, fun l hl => by rw [I.list_inj hl hqy]; exact hy⟩, ⟨z'', ?_, ⟨u, u2, ?_⟩, ?_, ?_⟩, fun c hcm => ?_⟩
    · exact (sb.2 _ D.n1).trans (hk _ _ D.n1 D.n5 D.n6 D.n7 hTI)
    · exact (sb.2 _ D.n2).trans TO'
    · exact h1'.1.at fun o q => (sb.2 _ D.n3).trans q
    · exact h2'.1.at fun o q => (sb.2 _ D.n4).trans q
    · rw [upd_ne (Nat.ne_of_lt (hlt c hcm))]
      exact (hf c hcm).1
  done := by
    intro X hP hw hK hc i pins s σ H E I hf st hg
    subst hP hw hK
    obtain ⟨hz, hTI, ⟨x0, y0, hTO⟩, h1, h2⟩ := st
    obtain ⟨xs, ys, hqx, hqy, hend⟩ := hg
    obtain ⟨its, rv, p, _⟩ := I.tuple hqx
    obtain ⟨its2, rv2, p2, _⟩ := I.list hqy
    have q1 := rv.length
    have q2 := rv2.length
    have he : its.toArray.toList[i]? = none ∨ its2.toArray.toList[i]? = none := by
      rcases hend with q | q
      · exact .inl (by simp; omega)
      · exact .inr (by simp; omega)
    exact zp_stop (I.ok.hd hc) (zp_apart ha hb) (itT_ok (Nat.ne_of_lt ha)) (itL_ok (Nat.ne_of_lt (Nat.lt_succ_of_lt hb))) hz hTI hTO ⟨h1, p⟩ ⟨h2, p2.isList⟩ he fun h' hk => ⟨rfl, I.turnedL (t' := s.toks) (ch := [n + 4, n + 2, n + 3, n, n + 1]) (fun c o hb q => hk c o (fun z => hb (by simp [z])) (fun z => hb (by simp [z])) (fun z => hb (by simp [z])) (fun z => hb (by simp [z])) q) hf⟩
  self := fun A i s Q E st h => wpAny_pyIter_zip st.1 h
def iZipM (K : PySem.W.Frag) (ta : TA) : TI := fun σ H R => ta σ H fun vs H1 => ∃ a b xs ys, vs = [.ref a, .ref b] ∧ ((SqL K H1 a xs ∧ SqL K H1 b ys ∧ R (Itz K a b) H1) ∨ (SqT K H1 a xs ∧ SqT K H1 b ys ∧ R (ItzT K a b) H1) ∨ (SqT K H1 a xs ∧ SqL K H1 b ys ∧ R (ItzM K a b) H1))
theorem pi_zipM {X : Cx} {e e2 : Expr} {ta : TA} {p pos tpos : Pos} {elts : List Expr} {kk : Nat} (hg : Gl X "zip") (hm : X.mg "zip" = none) (ha : PA X [e, e2] ta)
    (hs : starEach [e, e2] X.env = (false, eval e X.env) :: starEach [e2] X.env) (hpl : (backTo pos (starEach [e2] X.env)).any (·.1) = false) : PI X (.Tuple elts kk tpos) (.Call (.Name "zip" p) [e, e2] [] pos) (iZipM X.K ta) := by
  refine ⟨fun pins s σ H R I h => ?_⟩
  refine Call_ (ld_blt I hg hm PyProof.Rows.boot_zip (PyProof.Rows.callWith_type1 (thn (ha.run pos pins s σ H _ I h) fun us s1 ⟨vs, H1, I1, r1, q1⟩ => ?_) hs hpl))
  obtain ⟨a, b, xs, ys, ex, q1⟩ := q1
  subst ex
  obtain ⟨u, v, rfl, ra, rb⟩ : ∃ u v, us = [u, v] ∧ RelV (.ref a) u ∧ RelV (.ref b) v := by
    cases r1 with
    | cons r rr =>
      cases rr with
      | cons r' rr =>
        cases rr
        exact ⟨_, _, rfl, r, r'⟩
  cases ra
  cases rb
  have fresh : ∀ c, c ∈ [s1.heap.objs.size + 4, s1.heap.objs.size + 2, s1.heap.objs.size + 3, s1.heap.objs.size, s1.heap.objs.size + 1] → FpOk X pins H1 c := fun c hcm => by
    have hle : s1.heap.objs.size ≤ c := by
      simp only [List.mem_cons, List.not_mem_nil, or_false] at hcm
      rcases hcm with rfl | rfl | rfl | rfl | rfl <;> first | exact Nat.le_refl _ | exact Nat.le_add_right _ _
    exact I1.fpOk hle (I1.hok.fresh hle)
  have fin : ∀ (h' : Heap) (J : It) (tn : Nat → Heap → Prop), (∀ c o, s1.heap.get? c = some o → h'.get? c = some o) → Turn X.prog X.w X.K (.Tuple elts kk tpos) J [s1.heap.objs.size + 4, s1.heap.objs.size + 2, s1.heap.objs.size + 3, s1.heap.objs.size, s1.heap.objs.size + 1] (s1.heap.objs.size + 4) tn → tn 0 h' → R J H1 → PIE X pins σ (.Tuple elts kk tpos) R (.ref (s1.heap.objs.size + 4)) { s1 with heap := h' } :=
    fun h' J tn hk t t0 q => ⟨_, _, tn, J, H1, rfl, I1.kept (t' := s1.toks) hk, t, t0, fresh, q⟩
  rcases q1 with ⟨hqx, hqy, q⟩ | ⟨hqx, hqy, q⟩ | ⟨hqx, hqy, q⟩
  · obtain ⟨its, rv, p1, _⟩ := I1.list hqx
    obtain ⟨its2, rv2, p2, _⟩ := I1.list hqy
    exact call_zip_2 p1.isList p2.isList fun h' hz hTI hTO h1 h2 hsz hk => wpAny_pyIter_zip hz (fin h' _ _ hk (turn_zip (PySem.W.ktu_apart _ a b p1.lt p2.lt)) ⟨hz, hTI, ⟨_, _, hTO⟩, h1, h2⟩ q)
  · obtain ⟨its, rv, p1, _⟩ := I1.tuple hqx
    obtain ⟨its2, rv2, p2, _⟩ := I1.tuple hqy
    obtain ⟨o1, ho1, _⟩ := id p1
    obtain ⟨o2, ho2, _⟩ := id p2
    exact call_zipT (show s1.heap.IsTuple a its.toArray from p1) (show s1.heap.IsTuple b its2.toArray from p2) fun h' hz hTI hTO h1 h2 hsz hk => wpAny_pyIter_zip hz (fin h' _ _ hk (turn_zipT (PySem.W.ktu_apart _ a b (Heap.lt_size ho1) (Heap.lt_size ho2))) ⟨hz, hTI, ⟨_, _, hTO⟩, h1, h2⟩ q)
  · obtain ⟨its, rv, p1, _⟩ := I1.tuple hqx
    obtain ⟨its2, rv2, p2, _⟩ := I1.list hqy
    obtain ⟨o1, ho1, _⟩ := id p1
    exact zp_call (show s1.heap.IsTuple a its.toArray from p1) p2.isList fun h' hz hTI hTO h1 h2 hk => wpAny_pyIter_zip hz (fin h' _ _ hk (zp_turn (Heap.lt_size ho1) p2.lt) ⟨hz, hTI, ⟨_, _, hTO⟩, h1.1, h2.1⟩ q)
end EV
end
section
/-! Ev4: what a combinator has to do with a piece of the text; operations. -/
namespace EV
open PySem PySem.Spec PyProof.Rows L2

/-- an error, as it flies -/
def ExO (Z : St0) (wd : Wd) (H : Hp) (k : Nat) (a : Option P) (cls : Value) (dx : Option Addr) : Prop := ∃ c, Z.C k = some c ∧ cls = .ref c ∧
  match a with
  | none => dx = none
  | some p => ∃ d f v, dx = some d ∧ H d = some (.xd [(f, v)]) ∧ Br Z wd.F H p v
def Post {α β : Type} (Z : St0) (R : Wd → Hp → α → β → Prop) (W : WX) (σ : L2.St) (wd : Wd) (H : Hp) (Q : β → Hp → Prop) : Res α → Prop
  | .ok a st => ∀ b wd' H', XT wd H wd' H' → RSt Z wd' H' st → R wd' H' a b → Q b H'
  | .exn k a st => ∀ cls dx wd' H', XT wd H wd' H' → RSt Z wd' H' st → ExO Z wd' H' k a cls dx → W cls dx σ H'
  | .stk => False
theorem Post.later {α β : Type} {Z : St0} {R : Wd → Hp → α → β → Prop} {W : WX} {σ : L2.St} {wd wd1 : Wd} {H H1 : Hp} {Q : β → Hp → Prop} {r : Res α} (h : Post Z R W σ wd H Q r) (e : XT wd H wd1 H1) : Post Z R W σ wd1 H1 Q r := by
  cases r with
  | ok a st => exact fun b wd' H' e' => h b wd' H' (e.trans e')
  | exn k a st => exact fun cls dx wd' H' e' => h cls dx wd' H' (e.trans e')
  | stk => exact h
/-- a part, then what comes behind it -/
theorem post_bind {α β γ δ : Type} {Z : St0} {R : Wd → Hp → α → β → Prop} {R' : Wd → Hp → γ → δ → Prop} {W : WX} {σ : L2.St} {wd : Wd} {H : Hp} {Q : δ → Hp → Prop} {Q1 : β → Hp → Prop} {r : Res α} {f : α → Mo γ}
    (h : Post Z R' W σ wd H Q (r.bind f)) (k : ∀ a st b wd1 H1, XT wd H wd1 H1 → RSt Z wd1 H1 st → R wd1 H1 a b → Post Z R' W σ wd1 H1 Q (f a st) → Q1 b H1) : Post Z R W σ wd H Q1 r := by
  cases r with
  | ok a st => exact fun b wd' H' e rs rb => k a st b wd' H' e rs rb (Post.later h e)
  | exn c a st => exact h
  | stk => exact h
abbrev RD (Z : St0) : Wd → Hp → D → V → Prop := fun wd H d v => BrD Z wd H d v
abbrev RDL (Z : St0) : Wd → Hp → List D → List V → Prop := fun wd H d v => BrDL Z wd H d v
abbrev RB : Wd → Hp → Bool → Bool → Prop := fun _ _ a b => a = b
abbrev RO : Wd → Hp → Option Int → Option Int → Prop := fun _ _ a b => a = b

/-! ### the weakest readings -/
section
variable (X : Cx)
def WE (e : Expr) : TE := fun σ H Q => ∀ pins s, Inv X pins σ H s → wpAny (model X.prog X.w) X.A (eval e X.env) (EP X pins σ Q) X.xe s
def WT (e : Expr) : TT := fun σ H Q => ∀ pins s, Inv X pins σ H s → wpAny (model X.prog X.w) X.A (isTrue e X.env (eval e X.env)) (TP X pins σ Q) X.xe s
def WW (e : Expr) : TT := fun σ H Q => ∀ whole pins s, Inv X pins σ H s → wpAny (model X.prog X.w) X.A (isTrue e X.env whole) (TP X pins σ Q) X.xe s
def WA (es : List Expr) : TA := fun σ H Q => ∀ pos pins s, Inv X pins σ H s → wpAny (model X.prog X.w) X.A (spliced (backTo pos (starEach es X.env))) (AP X pins σ Q) X.xe s
def WS (st : Stmt) : TS := fun D σ H => ∀ pins s, Inv X pins σ H s → wpAny (model X.prog X.w) X.A (exec st X.env) (SP X pins D) X.xe s
def WSs (st : List Stmt) : TS := fun D σ H => ∀ pins s, Inv X pins σ H s → wpAny (model X.prog X.w) X.A (execs st X.env) (SP X pins D) X.xe s
def WG (tg : Expr) : TG := fun v σ H Q => ∀ pins s u, Inv X pins σ H s → RelV v u → wpAny (model X.prog X.w) X.A (assign tg X.env u) (fun _ s' => ∃ σ' H', Inv X pins σ' H' s' ∧ Q σ' H') X.xe s
def WGs (ts : List Expr) : TGs := fun vs σ H Q => ∀ pins s us, Inv X pins σ H s → Vals vs us → wpAny (model X.prog X.w) X.A (assignInOrder ((assignEach ts X.env).map (·.2)) us) (fun _ s' => ∃ σ' H', Inv X pins σ' H' s' ∧ Q σ' H') X.xe s
def WI (tg iter : Expr) : TI := fun σ H R => ∀ pins s, Inv X pins σ H s → wpAny (model X.prog X.w) X.A (eval iter X.env) (fun v s1 => wpAny (model X.prog X.w) X.A (pyIter v) (PIE X pins σ tg R) X.xe s1) X.xe s
end
section
variable {X : Cx}
theorem pe_w {e : Expr} : PE X e (WE X e) := ⟨fun pins s _ _ _ I h => h pins s I⟩
theorem pt_w {e : Expr} : PT X e (WT X e) := ⟨fun pins s _ _ _ I h => h pins s I⟩
theorem pw_w {e : Expr} : PW X e (WW X e) := ⟨fun wh pins s _ _ _ I h => h wh pins s I⟩
theorem pa_w {es : List Expr} : PA X es (WA X es) := ⟨fun pos pins s _ _ _ I h => h pos pins s I⟩
theorem ps_w {st : Stmt} : PS X st (WS X st) := ⟨fun pins s _ _ _ I h => h pins s I⟩
theorem pss_w {st : List Stmt} : PSs X st (WSs X st) := ⟨fun pins s _ _ _ I h => h pins s I⟩
theorem pg_w {tg : Expr} : PG X tg (WG X tg) := ⟨fun pins s _ _ _ u _ I r h => h pins s u I r⟩
theorem pgs_w {ts : List Expr} : PGs X ts (WGs X ts) := ⟨fun pins s _ _ _ us _ I r h => h pins s us I r⟩
theorem pi_w {tg e : Expr} : PI X tg e (WI X tg e) := ⟨fun pins s _ _ _ I h => h pins s I⟩
theorem we_of {e : Expr} {t : TE} (h : PE X e t) {σ : L2.St} {H : Hp} {Q : VK} (q : t σ H Q) : WE X e σ H Q := fun pins s I => h.run pins s σ H Q I q
theorem wt_of {e : Expr} {t : TT} (h : PT X e t) {σ : L2.St} {H : Hp} {Q : Bool → Hp → Prop} (q : t σ H Q) : WT X e σ H Q := fun pins s I => h.run pins s σ H Q I q
theorem ww_of {e : Expr} {t : TT} (h : PW X e t) {σ : L2.St} {H : Hp} {Q : Bool → Hp → Prop} (q : t σ H Q) : WW X e σ H Q := fun wh pins s I => h.run wh pins s σ H Q I q
theorem wa_of {e : List Expr} {t : TA} (h : PA X e t) {σ : L2.St} {H : Hp} {Q : List V → Hp → Prop} (q : t σ H Q) : WA X e σ H Q := fun pos pins s I => h.run pos pins s σ H Q I q
theorem ws_of {e : Stmt} {t : TS} (h : PS X e t) {D : Ends} {σ : L2.St} {H : Hp} (q : t D σ H) : WS X e D σ H := fun pins s I => h.run pins s σ H D I q
theorem wss_of {e : List Stmt} {t : TS} (h : PSs X e t) {D : Ends} {σ : L2.St} {H : Hp} (q : t D σ H) : WSs X e D σ H := fun pins s I => h.run pins s σ H D I q
theorem wg_of {e : Expr} {t : TG} (h : PG X e t) {v : V} {σ : L2.St} {H : Hp} {Q : L2.St → Hp → Prop} (q : t v σ H Q) : WG X e v σ H Q := fun pins s u I r => h.run pins s σ H v u Q I r q
theorem wgs_of {e : List Expr} {t : TGs} (h : PGs X e t) {v : List V} {σ : L2.St} {H : Hp} {Q : L2.St → Hp → Prop} (q : t v σ H Q) : WGs X e v σ H Q := fun pins s u I r => h.run pins s σ H v u Q I r q
theorem wi_of {tg e : Expr} {t : TI} (h : PI X tg e t) {σ : L2.St} {H : Hp} {R : It → Hp → Prop} (q : t σ H R) : WI X tg e σ H R := fun pins s I => h.run pins s σ H R I q
end

/-! ### operations on what is read -/
/-- f' does f -/
def OpS (Z : St0) (X : Cx) (f' : Value → Value → Sem Value) (f : P → P → Option P) : Prop :=
  ∀ (pins : List (Addr × Obj)) (s : Shared) (σ : L2.St) (wd : Wd) (H : Hp) (st : Sto) (x y : V) (v u : Value) (Q : VK) (a b p : P), Inv X pins σ H s → RelV x v → RelV y u → RSt Z wd H st → BrT Z wd.F H a x → BrT Z wd.F H b y → f a b = some p →
    (∀ z wd' H', XT wd H wd' H' → RSt Z wd' H' st → Br Z wd'.F H' p z → Q z H') → wpAny (model X.prog X.w) X.A (f' v u) (EP X pins σ Q) X.xe s
/-- a call of a known value does f -/
def CallS (Z : St0) (X : Cx) (f' : Value) (f : P → Option P) : Prop :=
  ∀ (pins : List (Addr × Obj)) (s : Shared) (σ : L2.St) (wd : Wd) (H : Hp) (st : Sto) (x : V) (v : Value) (Q : VK) (a p : P), Inv X pins σ H s → RelV x v → RSt Z wd H st → BrT Z wd.F H a x → f a = some p →
    (∀ z wd' H', XT wd H wd' H' → RSt Z wd' H' st → Br Z wd'.F H' p z → Q z H') → wpAny (model X.prog X.w) X.A (call f' [v]) (EP X pins σ Q) X.xe s
section
variable {Z : St0} {X : Cx}
theorem sizeL : sizeLine = L := sizeLine_eq
theorem opS_of {f' : Value → Value → Sem Value} {r : R2} {f : P → P → Option P} (h : OpR X f' r)
    (k : ∀ (wd : Wd) (H : Hp) (st : Sto) (x y : V) (Q : VK) (a b p : P), RSt Z wd H st → BrT Z wd.F H a x → BrT Z wd.F H b y → f a b = some p → (∀ z wd' H', XT wd H wd' H' → RSt Z wd' H' st → Br Z wd'.F H' p z → Q z H') → r x y H Q) : OpS Z X f' f :=
  fun pins s σ wd H st x y v u Q a b p I rx ry rs ba bb e q => h pins s σ H x y v u Q I rx ry (k wd H st x y Q a b p rs ba bb e q)
theorem callS_of {f' : Value} {r : List V → Hp → VK → Prop} {f : P → Option P} (h : CallR X f' r)
    (k : ∀ (wd : Wd) (H : Hp) (st : Sto) (x : V) (Q : VK) (a p : P), RSt Z wd H st → BrT Z wd.F H a x → f a = some p → (∀ z wd' H', XT wd H wd' H' → RSt Z wd' H' st → Br Z wd'.F H' p z → Q z H') → r [x] H Q) : CallS Z X f' f :=
  fun pins s σ wd H st x v Q a p I rx rs ba e q => h pins s σ H [x] [v] Q I (.cons rx .nil) (k wd H st x Q a p rs ba e q)
/-- a new plain list, a new tuple -/
theorem new_lst {wd : Wd} {H : Hp} {st : Sto} {Q : VK} {xs : List P} {vs : List V} (rs : RSt Z wd H st) (b : BrL Z wd.F H xs vs) (q : ∀ z wd' H', XT wd H wd' H' → RSt Z wd' H' st → Br Z wd'.F H' (.lst xs) z → Q z H') : ∀ p, H p = none → Q (.ref p) (upd H p (.lst vs)) := fun p hp => by
  obtain ⟨r, e⟩ := rs.new (o := .lst vs) hp (fun ps z => by cases z) true
  exact q _ _ _ e r (.lst ⟨.inr ⟨rfl, rfl⟩, .inl upd_same⟩ (BrL.ext e.ext _ _ b))
theorem new_tup {wd : Wd} {H : Hp} {st : Sto} {Q : VK} {xs : List P} {vs : List V} (rs : RSt Z wd H st) (b : BrL Z wd.F H xs vs) (q : ∀ z wd' H', XT wd H wd' H' → RSt Z wd' H' st → Br Z wd'.F H' (.tup xs) z → Q z H') : ∀ p, H p = none → Q (.ref p) (upd H p (.tup vs)) := fun p hp => by
  obtain ⟨r, e⟩ := rs.new (o := .tup vs) hp (fun ps z => by cases z) false
  exact q _ _ _ e r (.tup (.inl (.inl upd_same)) (BrL.ext e.ext _ _ b))
theorem Rd.obj {pins : List (Addr × Obj)} {s : Shared} {σ : L2.St} {H : Hp} {a : Addr} {vs : List V} (I : Inv X pins σ H s) (h : Rd H a (.lst vs)) : vs.length ≤ sizeLine ∧ ∃ (its : List Value) (n : Nat), Vals vs its ∧ vs.length = its.length ∧ s.heap.get? a = some { cls := .type "list", data := .seq its.toArray n } := by
  obtain ⟨z, its, n, r, e⟩ := h.ok I.hok
  exact ⟨z, its, n, r, r.length, e⟩
theorem toL {n m : Nat} (h : n ≤ L) (e : n = m) : m ≤ sizeLine := by rw [sizeL, ← e]; exact h
theorem BrL.nil_iff {F : Addr → Prop} {H : Hp} {ps : List P} {vs : List V} (h : BrL Z F H ps vs) : ps = [] ↔ vs = [] := by
  cases h <;> simp
theorem opS_add (hK : X.K = Z.K) : OpS Z X (binaryOp .Add) addP := by
  intro pins s σ wd H st x y v u Q a b p I rx ry rs ba bb e q
  cases a <;> cases b <;> simp only [addP] at e <;> first | cases e | skip
  · cases ba.intI; cases bb.intI
    exact op_add pins s σ H _ _ v u Q I rx ry ⟨_, _, rfl, rfl, q _ _ _ .refl rs (.int _)⟩
  · split at e
    · rename_i hl
      cases e
      cases ba.strI; cases bb.strI
      exact op_add_str pins s σ H _ _ v u Q I rx ry ⟨_, _, rfl, rfl, by rw [sizeL]; exact hl, q _ _ _ .refl rs (.str _)⟩
    · cases e
  · split at e
    · rename_i xs ys hl
      cases e
      obtain ⟨a1, vs, rfl, h1, l1⟩ := ba.tupI
      obtain ⟨a2, us, rfl, h2, l2⟩ := bb.tupI
      refine op_catA pins s σ H _ _ v u Q I rx ry ⟨_, _, vs, us, rfl, rfl, by rw [hK]; exact h1, by rw [hK]; exact h2, by rw [sizeL, ← l1.length, ← l2.length]; exact hl, fun z => ?_, fun _ z => ?_, fun _ _ => ?_⟩
      · have e0 := l1.nil_iff.mpr z
        subst e0
        exact q _ _ _ .refl rs (.tup h2 l2)
      · have e0 := l2.nil_iff.mpr z
        subst e0
        rw [List.append_nil] at q
        exact q _ _ _ .refl rs (.tup h1 l1)
      · exact new_tup rs (BrL.append l1 l2) q
    · cases e
  · split at e
    · rename_i xs ys hl
      cases e
      obtain ⟨a1, vs, rfl, h1, l1⟩ := ba.lstI
      obtain ⟨a2, us, rfl, h2, l2⟩ := bb.lstI
      cases rx
      cases ry
      obtain ⟨z, its, n, r, hl1, e1⟩ := Rd.obj I h1
      obtain ⟨z2, its2, n2, r2, hl2, e2⟩ := Rd.obj I h2
      have hlen : vs.length + us.length ≤ sizeLine := by rw [sizeL, ← l1.length, ← l2.length]; exact hl
      refine PySem.P.add_list e1 e2 ?_ (by rw [List.size_toArray, List.size_toArray]; omega)
      have ea : its.toArray ++ its2.toArray = (its ++ its2).toArray := by simp
      rw [ea]
      exact ⟨.ref _, _, I.lnew (t' := s.toks) (r.append r2) (by rw [List.length_append]; omega), rfl, new_lst rs (BrL.append l1 l2) q _ I.fresh⟩
    · cases e
theorem opS_iadd : OpS Z X (inplaceOp .Add) (fun a b => match a, b with | .int i, .int j => some (.int (i + j)) | _, _ => none) := by
  intro pins s σ wd H st x y v u Q a b p I rx ry rs ba bb e q
  cases a <;> cases b <;> simp only at e <;> first | cases e | skip
  cases ba.intI; cases bb.intI
  exact iop_add pins s σ H _ _ v u Q I rx ry ⟨_, _, rfl, rfl, q _ _ _ .refl rs (.int _)⟩
theorem opS_isub : OpS Z X (inplaceOp .Sub) subP := by
  intro pins s σ wd H st x y v u Q a b p I rx ry rs ba bb e q
  cases a <;> cases b <;> simp only [subP] at e <;> first | cases e | skip
  cases ba.intI; cases bb.intI
  exact iop_sub pins s σ H _ _ v u Q I rx ry ⟨_, _, rfl, rfl, q _ _ _ .refl rs (.int _)⟩
theorem opS_sub : OpS Z X (binaryOp .Sub) subP := by
  intro pins s σ wd H st x y v u Q a b p I rx ry rs ba bb e q
  cases a <;> cases b <;> simp only [subP] at e <;> first | cases e | skip
  cases ba.intI; cases bb.intI
  exact op_sub pins s σ H _ _ v u Q I rx ry ⟨_, _, rfl, rfl, q _ _ _ .refl rs (.int _)⟩
theorem mulOk {i j : Int} (h : bits i + bits j < 100000000) : IntMulOk i j := by
  have b : ∀ x : Int, Builtin.Int.intBits x ≤ x.natAbs.log2 + 1 := fun x => by
    unfold Builtin.Int.intBits
    split <;> omega
  have h1 := b i
  have h2 := b j
  have h3 : i.natAbs.log2 + j.natAbs.log2 < 100000000 := h
  have e : bitsLine = 134217728 := by decide
  unfold IntMulOk
  intro z
  rw [Bool.and_eq_true] at z
  have z2 := z.2
  unfold Builtin.Int.intTooBig at z2
  have z3 := of_decide_eq_true z2
  rw [e] at z3
  omega
theorem opS_mul (hK : X.K = Z.K) : OpS Z X (binaryOp .Mult) mulP := by
  intro pins s σ wd H st x y v u Q a b p I rx ry rs ba bb e q
  cases a <;> cases b <;> simp only [mulP] at e <;> first | cases e | skip
  · split at e
    · rename_i hl
      cases e
      cases ba.intI; cases bb.intI
      obtain ⟨t, rfl⟩ := rx
      obtain ⟨t', rfl⟩ := ry
      exact mul_int ⟨.int _, H, I.tok _, ⟨_, rfl⟩, q _ _ _ .refl rs (.int _)⟩ (mulOk hl)
    · cases e
  · split at e
    · rename_i xs k hl
      cases e
      obtain ⟨a1, vs, rfl, h1, l1⟩ := ba.tupI
      cases bb.intI
      by_cases hx : xs = []
      · subst hx
        have e0 := l1.nil_iff.mp rfl
        subst e0
        refine op_repE pins s σ H _ _ v u Q I rx ry ⟨_, _, rfl, rfl, by rw [hK]; exact h1, by omega, hl.2.2, ?_⟩
        have e1 : (List.replicate k.toNat ([] : List P)).flatten = [] := by simp
        rw [e1] at q
        exact q _ _ _ .refl rs (.tup h1 l1)
      · by_cases hk1 : k = 1
        · subst hk1
          refine op_rep1 pins s σ H _ _ v u Q I rx ry ⟨_, vs, rfl, rfl, by rw [hK]; exact h1, ?_⟩
          have e1 : (List.replicate (1 : Int).toNat xs).flatten = xs := by simp
          rw [e1] at q
          exact q _ _ _ .refl rs (.tup h1 l1)
        exact op_repT pins s σ H _ _ v u Q I rx ry ⟨_, _, vs, rfl, rfl, by rw [hK]; exact h1, fun z => hx (l1.nil_iff.mpr z), by omega, hl.2.2, by rw [← l1.length]; exact hl.1, new_tup rs (BrL.rep l1 _) q⟩
    · cases e
  · split at e
    · rename_i xs k hl
      cases e
      obtain ⟨a1, vs, rfl, h1, l1⟩ := ba.lstI
      cases bb.intI
      cases rx
      obtain ⟨t, rfl⟩ := ry
      obtain ⟨z, its, n, r, hlen0, e1⟩ := Rd.obj I h1
      have hz : vs.length * k.toNat ≤ sizeLine := by rw [sizeL, ← l1.length]; exact hl.1
      have hlen : its.toArray.size * k.toNat ≤ sizeLine := by rw [List.size_toArray, ← hlen0]; exact hz
      have hcap : ¬ its.toArray.size * k.toNat > (2 ^ 63 - 1) / 8 := by
        have : (sizeLine : Nat) ≤ (2 ^ 63 - 1) / 8 := by decide
        omega
      have hfit : ¬ (!Builtin.List.listFitsIndex k) = true := by
        rw [fitsIndex_both hl.2.1 hl.2.2]
        exact Bool.false_ne_true
      have hlong : ¬ Builtin.List.listTooLong (its.toArray.size * k.toNat) = true := by
        rw [notLongL hlen]
        exact Bool.false_ne_true
      have hnew : List.foldl (fun x1 x2 => x1 ++ x2) #[] (List.replicate (if its.toArray.isEmpty = true then 0 else k.toNat) its.toArray) = (List.replicate k.toNat its).flatten.toArray := by
        have f0 : ∀ m : Nat, List.foldl (fun x1 x2 => x1 ++ x2) #[] (List.replicate m its.toArray) = (List.replicate m its).flatten.toArray := fun m => by
          have := foldl_rep its m []
          rw [List.nil_append] at this
          exact this
        rw [f0]
        cases its with
        | nil => simp
        | cons a r' => rw [if_neg (by simp)]
      refine wpAny_binaryOp_repeat_ref (T := "list") (U := "int") (by decide) ⟨_, e1, rfl⟩ (fun s' => typeIs_int s' k t) noFill_list_mul F.fills_int_mul F.slot_int_rmul repeat_list F.slot_int_index.lookup
        (call_meets F.slot_int_rmul (typeIs_int s k t) F.entry_int_rmul (F.args_int_rmul_2 _ _) (int___rmul___int_list k t a1 its.toArray n)
          ⟨e1, rfl, ⟨_, e1, rfl⟩, call_meets F.slot_list_mul ⟨_, e1, rfl⟩ F.entry_list_mul (F.args_list_mul_2 _ _) (AutoListH.list___mul___list_int_3 a1 its.toArray n k t hfit hcap hlong) ⟨e1, ?_⟩⟩)
      rw [hnew]
      exact ⟨.ref _, _, I.lnew (t' := s.toks) (r.rep k.toNat) (by rw [PyProof.Rows.lm_len_rep_flat, Nat.mul_comm]; exact hz), rfl, new_lst rs (BrL.rep l1 _) q _ I.fresh⟩
    · cases e
theorem opS_div : OpS Z X (binaryOp .FloorDiv) divP := by
  intro pins s σ wd H st x y v u Q a b p I rx ry rs ba bb e q
  cases a <;> cases b <;> simp only [divP] at e <;> first | cases e | skip
  split at e
  · rename_i hl
    cases e
    cases ba.intI; cases bb.intI
    exact op_fdivW pins s σ H _ _ v u Q I rx ry ⟨_, _, rfl, rfl, hl, q _ _ _ .refl rs (.int _)⟩
  · cases e
theorem opS_mod : OpS Z X (binaryOp .Mod) modP := by
  intro pins s σ wd H st x y v u Q a b p I rx ry rs ba bb e q
  cases a <;> cases b <;> simp only [modP] at e <;> first | cases e | skip
  split at e
  · rename_i hl
    cases e
    cases ba.intI; cases bb.intI
    exact op_mod pins s σ H _ _ v u Q I rx ry ⟨_, _, rfl, rfl, hl, q _ _ _ .refl rs (.int _)⟩
  · cases e
theorem opS_pow : OpS Z X (binaryOp .Pow) powP := by
  intro pins s σ wd H st x y v u Q a b p I rx ry rs ba bb e q
  cases a <;> cases b <;> simp only [powP] at e <;> first | cases e | skip
  split at e
  · rename_i hl
    cases e
    cases ba.intI; cases bb.intI
    exact op_pow pins s σ H _ _ v u Q I rx ry ⟨_, _, rfl, rfl, hl, q _ _ _ .refl rs (.int _)⟩
  · cases e

/-! ### comparisons -/
def CmpS (Z : St0) (X : Cx) (o : CmpOp) (f : P → P → Option Bool) : Prop :=
  ∀ (pins : List (Addr × Obj)) (s : Shared) (σ : L2.St) (wd : Wd) (H : Hp) (st : Sto) (x y : V) (v u : Value) (Q : VK) (a b : P) (k : Bool), Inv X pins σ H s → RelV x v → RelV y u → RSt Z wd H st → BrT Z wd.F H a x → BrT Z wd.F H b y → f a b = some k →
    Q (.bl k) H → wpAny (model X.prog X.w) X.A (compareOp o v u) (EP X pins σ Q) X.xe s
theorem cmpS_int {o : CmpOp} {g : Int → Int → Bool} {f : P → P → Option Bool} (h : OpR X (compareOp o) (rI0 fun i j => .bl (g i j))) (hf : ∀ a b k, f a b = some k → ∃ i j, a = .int i ∧ b = .int j ∧ k = g i j) : CmpS Z X o f := by
  intro pins s σ wd H st x y v u Q a b k I rx ry rs ba bb e q
  obtain ⟨i, j, rfl, rfl, rfl⟩ := hf a b k e
  cases ba.intI; cases bb.intI
  exact h pins s σ H _ _ v u Q I rx ry ⟨_, _, rfl, rfl, q⟩
theorem cmpS_lt : CmpS Z X .Lt ltP := cmpS_int op_lt fun a b k e => by
  cases a <;> cases b <;> simp [ltP] at e
  exact ⟨_, _, rfl, rfl, e.symm⟩
theorem cmpS_le : CmpS Z X .LtE leP := cmpS_int op_le fun a b k e => by
  cases a <;> cases b <;> simp [leP] at e
  exact ⟨_, _, rfl, rfl, e.symm⟩
theorem cmpS_gt : CmpS Z X .Gt gtP := cmpS_int op_gt fun a b k e => by
  cases a <;> cases b <;> simp [gtP] at e
  exact ⟨_, _, rfl, rfl, e.symm⟩
theorem cmpS_ge : CmpS Z X .GtE geP := cmpS_int op_ge fun a b k e => by
  cases a <;> cases b <;> simp [geP] at e
  exact ⟨_, _, rfl, rfl, e.symm⟩
theorem BrT.dp {F : Addr → Prop} {H : Hp} {p : P} {v : V} {d : PyData} (h : BrT Z F H p v) (e : P.py p = some d) : Dp Z.K H v d := by
  cases h with
  | of h => exact Br.dp p v d h e
  | lst s l =>
    simp [P.py] at e
    obtain ⟨ds, e1, rfl⟩ := e
    exact .lst (.inl s) (BrL.dp _ _ ds l e1)
theorem eqQ_some {a b : P} {k : Bool} (e : eqQ a b = some k) : ∃ x y, P.py a = some x ∧ P.py b = some y ∧ SeqAt.shaped x = true ∧ SeqAt.shaped y = true ∧ PyData.eqv x y = k := by
  unfold eqQ at e
  split at e
  · rename_i x y h1 h2
    split at e
    · rename_i hd
      cases e
      refine ⟨x, y, h1, h2, ?_, ?_, rfl⟩
      · unfold SeqAt.shaped
        rw [P.py_lay a x h1, decide_eq_true hd.1] <;> rfl
      · unfold SeqAt.shaped
        rw [P.py_lay b y h2, decide_eq_true hd.2] <;> rfl
    · cases e
  · cases e
theorem cmpS_eq (hK : X.K = Z.K) (hu : X.A.units + 64 < cLine) : CmpS Z X .Eq eqP := by
  intro pins s σ wd H st x y v u Q a b k I rx ry rs ba bb e q
  unfold eqP at e
  split at e
  · cases e
    cases ba.strI
    cases bb.strI
    refine op_eq pins s σ H _ _ v u Q I rx ry ⟨rfl, ?_⟩
    have z : ∀ {x y : Str}, decide (V.str x = V.str y) = decide (x = y) := fun {x y} => decide_eq_decide.mpr ⟨fun z => V.str.inj z, fun z => congrArg _ z⟩
    rw [z]
    exact q
  obtain ⟨d, d', e1, e2, s1, s2, rfl⟩ := eqQ_some e
  exact op_eqD hu pins s σ H x y v u Q I rx ry ⟨d, d', by rw [hK]; exact ba.dp e1, by rw [hK]; exact bb.dp e2, s1, s2, q⟩
theorem cmpS_ne (hK : X.K = Z.K) (hu : X.A.units + 64 < cLine) : CmpS Z X .NotEq neP := by
  intro pins s σ wd H st x y v u Q a b k I rx ry rs ba bb e q
  unfold neP at e
  rw [Option.map_eq_some_iff] at e
  obtain ⟨k', e, rfl⟩ := e
  unfold eqP at e
  split at e
  · cases e
    cases ba.strI
    cases bb.strI
    refine op_ne pins s σ H _ _ v u Q I rx ry ⟨rfl, ?_⟩
    have z : ∀ {x y : Str}, decide (V.str x = V.str y) = decide (x = y) := fun {x y} => decide_eq_decide.mpr ⟨fun z => V.str.inj z, fun z => congrArg _ z⟩
    rw [z]
    exact q
  obtain ⟨d, d', e1, e2, s1, s2, rfl⟩ := eqQ_some e
  exact op_neD hu pins s σ H x y v u Q I rx ry ⟨d, d', by rw [hK]; exact ba.dp e1, by rw [hK]; exact bb.dp e2, s1, s2, q⟩
theorem BrT.non_iff {F : Addr → Prop} {H : Hp} {p : P} {v : V} (h : BrT Z F H p v) : decide (v = .non) = p.isNon := by
  cases h with
  | of h => cases h <;> rfl
  | lst s l => rfl
theorem cmpS_isn : CmpS Z X .Is (cmpP .isn) := by
  intro pins s σ wd H st x y v u Q a b k I rx ry rs ba bb e q
  cases b <;> simp [cmpP] at e
  cases bb.nonI
  refine op_isN pins s σ H x _ v u Q I rx ry ⟨rfl, ?_⟩
  rw [ba.non_iff, e]
  exact q
theorem cmpS_notn : CmpS Z X .IsNot (cmpP .notn) := by
  intro pins s σ wd H st x y v u Q a b k I rx ry rs ba bb e q
  cases b <;> simp [cmpP] at e
  cases bb.nonI
  refine op_notN pins s σ H x _ v u Q I rx ry ⟨rfl, ?_⟩
  rw [ba.non_iff, e]
  simpa using q
theorem cmpS_isb : CmpS Z X .Is (cmpP .isb) := by
  intro pins s σ wd H st x y v u Q a b k I rx ry rs ba bb e q
  cases a <;> cases b <;> simp [cmpP] at e
  cases ba.blI; cases bb.blI
  subst e
  refine op_isBl pins s σ H _ _ v u Q I rx ry ⟨_, _, rfl, rfl, ?_⟩
  rw [← Bool.beq_eq_decide_eq]
  exact q
theorem cmpS_notb : CmpS Z X .IsNot (cmpP .notb) := by
  intro pins s σ wd H st x y v u Q a b k I rx ry rs ba bb e q
  cases a <;> cases b <;> simp [cmpP] at e
  cases ba.blI; cases bb.blI
  refine op_notBl pins s σ H _ _ v u Q I rx ry ⟨_, _, rfl, rfl, ?_⟩
  rw [← Bool.beq_eq_decide_eq, e]
  simpa using q

/-! ### places, slices -/
def IxS (Z : St0) (X : Cx) (f : P → P → Option P) : Prop := ∃ r, IxR X r ∧ ∀ (wd : Wd) (H : Hp) (st : Sto) (x y : V) (Q : VK) (a b p : P), RSt Z wd H st → BrT Z wd.F H a x → BrT Z wd.F H b y → f a b = some p →
    (∀ z wd' H', XT wd H wd' H' → RSt Z wd' H' st → Br Z wd'.F H' p z → Q z H') → r x y H Q
theorem ixS (hK : X.K = Z.K) : IxS Z X ixP := by
  refine ⟨_, ix_seq, fun wd H st x y Q a b p rs ba bb e q => ?_⟩
  have hi : ∀ {α : Type} {xs : List α} {i : Int} {v : α} {j : Nat}, L2.ixN xs.length i = some j → xs[j]? = some v → atI xs i = some v := fun {α xs i v j} h1 h2 => by
    unfold atI
    rw [h1]
    exact h2
  cases a <;> cases b <;> simp only [ixP] at e <;> first | cases e | skip
  · split at e
    · rename_i z i hl
      split at e
      · rename_i j hj
        rw [Option.map_eq_some_iff] at e
        obtain ⟨c, hc, rfl⟩ := e
        cases ba.strI; cases bb.intI
        exact .inr (.inr ⟨_, _, c, rfl, rfl, by rw [sizeL]; exact hl, hi hj hc, q _ _ _ .refl rs (.str _)⟩)
      · cases e
    · cases e
  · split at e
    · rename_i xs i j hj
      obtain ⟨a1, vs, rfl, h1, l1⟩ := ba.tupI
      cases bb.intI
      obtain ⟨v, hv, bv⟩ := l1.get e
      rw [l1.length] at hj
      exact .inr (.inl ⟨_, _, _, v, rfl, rfl, by rw [hK]; exact h1, hi hj hv, q _ _ _ .refl rs bv⟩)
    · cases e
  · split at e
    · rename_i xs i j hj
      obtain ⟨a1, vs, rfl, h1, l1⟩ := ba.lstI
      cases bb.intI
      obtain ⟨v, hv, bv⟩ := l1.get e
      rw [l1.length] at hj
      exact .inl ⟨_, _, _, v, rfl, rfl, .inl h1, hi hj hv, q _ _ _ .refl rs bv⟩
    · cases e
theorem BrL.cut {F : Addr → Prop} {H : Hp} {xs : List P} {vs : List V} (l : BrL Z F H xs vs) (lo hi : Option Int) : BrL Z F H (cut xs lo hi) (cutV vs lo hi) := by
  unfold EV.cut cutV
  rw [l.length]
  exact BrL.take _ (BrL.drop _ l)
theorem cut_whole {α : Type} {xs : List α} {lo hi : Option Int} (h : HT.sIx xs.length 0 lo = 0 ∧ HT.sIx xs.length xs.length hi = xs.length) : cut xs lo hi = xs := by
  unfold cut
  rw [h.1, h.2]
  simp
def rSlAll (K : PySem.W.Frag) : V → Option Int → Option Int → Hp → VK → Prop := fun x lo hi H Q => rSlL K x lo hi H Q ∨ rSlA K x lo hi H Q ∨ ∃ z, x = .str z ∧ z.length ≤ sizeLine ∧ Q (.str (cutS z lo hi)) H
theorem sl_all : SlR X (rSlAll X.K) := sl_list.or (sl_tupA.or sl_str)
theorem slS (hK : X.K = Z.K) (wd : Wd) (H : Hp) (st : Sto) (x : V) (lo hi : Option Int) (Q : VK) (a p : P) (rs : RSt Z wd H st) (ba : BrT Z wd.F H a x) (e : slP a lo hi = some p)
    (q : ∀ z wd' H', XT wd H wd' H' → RSt Z wd' H' st → Br Z wd'.F H' p z → Q z H') : rSlAll X.K x lo hi H Q := by
  cases a <;> simp only [slP] at e <;> first | cases e | skip
  · split at e
    · rename_i z hl
      cases e
      cases ba.strI
      exact .inr (.inr ⟨_, rfl, by rw [sizeL]; exact hl, q _ _ _ .refl rs (.str _)⟩)
    · cases e
  · obtain ⟨a1, vs, rfl, h1, l1⟩ := ba.tupI
    refine .inr (.inl ⟨_, vs, rfl, by rw [hK]; exact h1, fun hw => ?_, fun hw => new_tup rs (l1.cut lo hi) q⟩)
    rw [← l1.length] at hw
    rw [cut_whole hw] at q
    exact q _ _ _ .refl rs (.tup h1 l1)
  · obtain ⟨a1, vs, rfl, h1, l1⟩ := ba.lstI
    exact .inl ⟨_, vs, rfl, .inl h1, new_lst rs (l1.cut lo hi) q⟩

/-! ### built-ins of one thing -/
theorem BrT.kind {F : Addr → Prop} {H : Hp} {p : P} {v : V} (h : BrT Z F H p v) : (∃ t, isiP p t = none) ∨ ∃ n : String, TyX Z.K H v (.type n) ∧ n = p.ts := by
  cases p with
  | non => cases h.nonI; exact .inr ⟨_, .base .non, rfl⟩
  | bl b => cases h.blI; exact .inr ⟨_, .base (.bl _), rfl⟩
  | int b => cases h.intI; exact .inr ⟨_, .base (.int _), rfl⟩
  | str b => cases h.strI; exact .inr ⟨_, .base (.str _), rfl⟩
  | tup ps =>
    obtain ⟨a, vs, rfl, s, l⟩ := h.tupI
    refine .inr ⟨_, ?_, rfl⟩
    rcases s with (s | ⟨o, s⟩) | ⟨o, its, n, h1, h2, _⟩
    · exact .base (.tup s)
    · exact .fTuple s
    · exact .kTuple h1 h2
  | lst ps =>
    obtain ⟨a, vs, rfl, s, l⟩ := h.lstI
    refine .inr ⟨_, ?_, rfl⟩
    rcases s with s | ⟨o, s⟩
    · exact .base (.lst s)
    · exact .base (.frz s)
  | ed =>
    cases h with
    | of h =>
      cases h with
      | ed f s => exact .inr ⟨_, .base (.dK s), rfl⟩
  | fn f => exact .inl ⟨.int, rfl⟩
def Ty.s : Ty → String
  | .int => "int" | .bool => "bool" | .str => "str" | .tuple => "tuple" | .list => "list" | .dict => "dict"
theorem isiS (hK : X.K = Z.K) (t : Ty) (wd : Wd) (H : Hp) (x : V) (Q : VK) (a : P) (k : Bool) (ba : BrT Z wd.F H a x) (e : isiP a t = some k) (q : Q (.bl k) H) : rIsi X.K [x, .ty t.s] H Q := by
  rcases ba.kind with ⟨t', z⟩ | ⟨n, ty, hn⟩
  · cases a <;> cases t' <;> first | (simp [isiP] at z; done) | (simp [isiP] at e; done)
  · refine ⟨x, _, _, _, k, rfl, .ty _, by rw [hK]; exact ty, kit_ty ?_, q⟩
    subst hn
    cases a <;> cases t <;> simp only [isiP] at e <;> cases e <;> (simp only [P.ts, Ty.s]; decide +kernel)
end
end EV
end
section
/-! Ev5: operations on values that may be changing things; the judgements; expressions. -/
namespace EV
open PySem PySem.Spec PyProof.Rows L2
section
variable {Z : St0} {X : Cx}

/-! ### dicts -/
theorem BrK.get {F : Addr → Prop} {H : Hp} {k : Ky} : ∀ {kvs : List (Ky × P)} {ks : List (Key × V)}, BrK Z F H kvs ks → match dget k kvs with
    | some p => ∃ v, valV ks k = some v ∧ Br Z F H p v
    | none => valV ks k = none
  | [], [], _ => rfl
  | [], _ :: _, ⟨h, _⟩ => by simp at h
  | _ :: _, [], ⟨h, _⟩ => by simp at h
  | (j, p) :: r, (j', v) :: r', ⟨h, l⟩ => by
    simp only [List.map_cons, List.cons.injEq] at h
    obtain ⟨e, h⟩ := h
    subst e
    cases l with
    | cons b l =>
      simp only [dget]
      by_cases hk : j = k
      · rw [if_pos hk]
        exact ⟨v, valV_pos hk, b⟩
      · rw [if_neg hk]
        rw [valV_neg (p := (j, v)) hk]
        exact BrK.get ⟨h, l⟩
theorem putK_cons_pos {k : Key} {v u : V} {r : List (Key × V)} (nd : ∀ q ∈ r, q.1 ≠ k) : putK ((k, u) :: r) k v = (k, v) :: r := by
  unfold putK
  rw [if_pos (by simp)]
  simp only [List.map_cons, if_true]
  congr 1
  exact (List.map_congr_left (g := id) fun q hq => by rw [if_neg (nd q hq)] <;> rfl).trans (List.map_id r)
theorem putK_cons_neg {j k : Key} {v u : V} {r : List (Key × V)} (h : ¬ j = k) : putK ((j, u) :: r) k v = (j, u) :: putK r k v := by
  unfold putK
  simp only [List.any_cons, decide_eq_false h, Bool.false_or, List.map_cons, if_neg h, List.cons_append]
  split <;> rfl
theorem BrK.put {F : Addr → Prop} {H : Hp} {k : Ky} {p : P} {v : V} (b : Br Z F H p v) : ∀ {kvs : List (Ky × P)} {ks : List (Key × V)}, (ks.map (·.1)).Nodup → BrK Z F H kvs ks → BrK Z F H (dput k p kvs) (putK ks k v)
  | [], [], _, _ => ⟨rfl, .cons b .nil⟩
  | [], _ :: _, _, ⟨h, _⟩ => by simp at h
  | _ :: _, [], _, ⟨h, _⟩ => by simp at h
  | (j, q) :: r, (j', u) :: r', nd, ⟨h, l⟩ => by
    simp only [List.map_cons, List.cons.injEq] at h
    obtain ⟨e, h⟩ := h
    subst e
    cases l with
    | cons b' l =>
      rw [List.map_cons, List.nodup_cons] at nd
      simp only [dput]
      by_cases hk : j = k
      · subst hk
        rw [if_pos rfl, putK_cons_pos (fun q hq z => nd.1 (by rw [← z]; exact List.mem_map.mpr ⟨q, hq, rfl⟩))]
        exact ⟨by simp [h], .cons b l⟩
      · rw [if_neg hk, putK_cons_neg hk]
        have ih := BrK.put (k := k) b nd.2 ⟨h, l⟩
        exact ⟨by simp only [List.map_cons, ih.1], .cons b' ih.2⟩
theorem keyD_kV {wd : Wd} {H : Hp} {d : D} {v : V} {k : Ky} (b : BrD Z wd H d v) (e : keyD d = some k) : v = kV k := by
  cases d with
  | p x =>
    cases x <;> simp [keyD, keyP] at e
    · subst e
      cases b
      rfl
    · subst e
      cases b
      rfl
  | loc l => simp [keyD] at e
  | exc c a => simp [keyD] at e
theorem RSt.dctOf {wd : Wd} {H : Hp} {st : Sto} {d : D} {v : V} {kvs : List (Ky × P)} (r : RSt Z wd H st) (b : BrD Z wd H d v) (e : dctOf st d = some kvs) : ∃ l a ks, d = .loc l ∧ st[l]? = some (.dct kvs) ∧ wd.ρ[l]? = some a ∧ v = .ref a ∧ H a = some (.dK ks) ∧ BrK Z wd.F H kvs ks ∧ ¬ wd.F a := by
  cases d with
  | p x => simp [EV.dctOf] at e
  | exc c a => simp [EV.dctOf] at e
  | loc l =>
    obtain ⟨a, rfl, ha⟩ := b
    simp only [EV.dctOf] at e
    split at e
    · rename_i q hq
      cases e
      obtain ⟨ks, h1, h2, h3⟩ := r.obj l a _ ha hq
      exact ⟨l, a, ks, rfl, hq, ha, rfl, h1, h2, h3⟩
    · cases e
theorem op_dIn (hu : X.A.units + 1 < cLine) : OpR X (compareOp .In) (fun y x H Q => ∃ a o, x = .ref a ∧ DGet H a y o ∧ Q (.bl o.isSome) H) := by
  intro pins s σ H y x v u Q I ry rx h
  obtain ⟨a, o, rfl, g, q⟩ := h
  cases rx
  exact d_in hu I g ry fun s3 I3 => ⟨.bl o.isSome, H, I3, rfl, q⟩
theorem op_dNotIn (hu : X.A.units + 1 < cLine) : OpR X (compareOp .NotIn) (fun y x H Q => ∃ a o, x = .ref a ∧ DGet H a y o ∧ Q (.bl (!o.isSome)) H) := by
  intro pins s σ H y x v u Q I ry rx h
  obtain ⟨a, o, rfl, g, q⟩ := h
  cases rx
  exact d_notIn hu I g ry fun s3 I3 => ⟨.bl (!o.isSome), H, I3, rfl, q⟩
theorem ix_dict (hu : X.A.units + 1 < cLine) : IxR X (fun x y H Q => ∃ a v, x = .ref a ∧ DGet H a y (some v) ∧ Q v H) := by
  intro value slice pins s σ H x y v u Q I rx ry h hs
  obtain ⟨a, w, rfl, g, q⟩ := h
  cases rx
  exact tail_any (dict_typeIs I g) PySem.F.slot_dict_getitem.lookup (d_getItem hu I g ry fun w' s3 I3 rw' => ⟨w, H, I3, rw', q⟩) hs

/-! ### comparisons of values -/
def Cop.op : Cop → CmpOp
  | .lt => .Lt | .le => .LtE | .gt => .Gt | .ge => .GtE | .eq => .Eq | .ne => .NotEq | .isn => .Is | .notn => .IsNot | .isb => .Is | .notb => .IsNot | .inn => .In | .notin => .NotIn
theorem depths {d : PyData} {ds : List PyData} (h : d.depth ≤ 64 ∧ PyData.depthAll ds < 64) : d.depth ≤ 64 ∧ PyData.depth (.list ds) ≤ 64 := by
  refine ⟨h.1, ?_⟩
  simp only [PyData.depth]
  omega
theorem shaped_of {p : P} {d : PyData} (e : P.py p = some d) (h : d.depth ≤ 64) : SeqAt.shaped d = true := by
  unfold SeqAt.shaped
  rw [P.py_lay p d e, decide_eq_true h] <;> rfl
theorem in_all (hK : X.K = Z.K) (hu : X.A.units + 70 < cLine) (o : Cop) (ho : o = .inn ∨ o = .notin) : CmpS Z X o.op (cmpP o) := by
  intro pins s σ wd H st x y v u Q a b k I rx ry rs ba bb e q
  have e' : ∃ m, inP a b = some m ∧ k = if o = .inn then m else !m := by
    rcases ho with rfl | rfl
    · exact ⟨k, e, rfl⟩
    · simp only [cmpP, Option.map_eq_some_iff] at e
      obtain ⟨m, h1, h2⟩ := e
      exact ⟨m, h1, h2.symm⟩
  obtain ⟨m, em, hk⟩ := e'
  cases b <;> simp only [inP] at em <;> first | cases em | skip
  · split at em
    · cases em
      cases ba.strI
      cases bb.strI
      rcases ho with rfl | rfl
      · subst hk
        exact op_in_str pins s σ H _ _ v u Q I rx ry ⟨_, _, rfl, rfl, q⟩
      · subst hk
        exact op_notin_str pins s σ H _ _ v u Q I rx ry ⟨_, _, rfl, rfl, q⟩
    · cases em
  · split at em
    · rename_i xs d ds h1 h2
      split at em
      · rename_i hd
        cases em
        obtain ⟨a1, vs, rfl, s1, l1⟩ := bb.tupI
        have D1 : Dp X.K H x d := by rw [hK]; exact ba.dp h1
        have D2 : Dp X.K H (.ref a1) (.tuple ds) := by rw [hK]; exact .tup s1 (BrL.dp _ _ _ l1 h2)
        obtain ⟨as, r1⟩ := Dp.reads I d x v D1 rx
        obtain ⟨bs, r2⟩ := Dp.reads I (.tuple ds) _ u D2 ry
        have hroom : X.A.units + 1 + min (PyData.depthAll ds) d.depth < cLine := by
          have := Nat.min_le_right (PyData.depthAll ds) d.depth
          omega
        rcases ho with rfl | rfl
        · subst hk
          exact SeqAt.in_tuple_reads r2 r1 (P.pyL_lay _ _ h2) (P.py_lay _ _ h1) hroom ⟨.bl _, H, I, rfl, q⟩
        · subst hk
          exact SeqAt.notIn_tuple_reads r2 r1 (P.pyL_lay _ _ h2) (P.py_lay _ _ h1) hroom ⟨.bl _, H, I, rfl, q⟩
      · cases em
    · cases em
  · split at em
    · rename_i xs d ds h1 h2
      split at em
      · rename_i hd
        cases em
        obtain ⟨a1, vs, rfl, s1, l1⟩ := bb.lstI
        have D1 : Dp X.K H x d := by rw [hK]; exact ba.dp h1
        have D2 : Dp X.K H (.ref a1) (.list ds) := by rw [hK]; exact .lst (.inl s1) (BrL.dp _ _ _ l1 h2)
        obtain ⟨as, r1⟩ := Dp.reads I d x v D1 rx
        obtain ⟨bs, r2⟩ := Dp.reads I (.list ds) _ u D2 ry
        have hroom : X.A.units + 1 + min (PyData.depthAll ds) d.depth < cLine := by
          have := Nat.min_le_right (PyData.depthAll ds) d.depth
          omega
        rcases ho with rfl | rfl
        · subst hk
          exact SeqAt.in_list_reads r2 r1 (P.pyL_lay _ _ h2) (P.py_lay _ _ h1) hroom ⟨.bl _, H, I, rfl, q⟩
        · subst hk
          exact SeqAt.notIn_list_reads r2 r1 (P.pyL_lay _ _ h2) (P.py_lay _ _ h1) hroom ⟨.bl _, H, I, rfl, q⟩
      · cases em
    · cases em
theorem cmpS_all (hK : X.K = Z.K) (hu : X.A.units + 70 < cLine) : ∀ o : Cop, CmpS Z X o.op (cmpP o)
  | .lt => cmpS_lt
  | .le => cmpS_le
  | .gt => cmpS_gt
  | .ge => cmpS_ge
  | .eq => cmpS_eq hK (by omega)
  | .ne => cmpS_ne hK (by omega)
  | .isn => cmpS_isn
  | .notn => cmpS_notn
  | .isb => cmpS_isb
  | .notb => cmpS_notb
  | .inn => in_all hK hu _ (.inl rfl)
  | .notin => in_all hK hu _ (.inr rfl)
theorem cmpD (hK : X.K = Z.K) (hu : X.A.units + 70 < cLine) (o : Cop) (pins : List (Addr × Obj)) (s : Shared) (σ : L2.St) (wd : Wd) (H : Hp) (st st' : Sto) (dx dy : D) (x y : V) (v u : Value) (Q : VK) (k : Bool) (I : Inv X pins σ H s) (rx : RelV x v) (ry : RelV y u)
    (rs : RSt Z wd H st) (bx : BrD Z wd H dx x) (bY : BrD Z wd H dy y) (e : cmp2 o dx dy st = .ok k st') (q : Q (.bl k) H) : wpAny (model X.prog X.w) X.A (compareOp o.op v u) (EP X pins σ Q) X.xe s := by
  unfold cmp2 at e
  split at e
  · rename_i b kvs h1 h2
    split at e
    · rename_i j hj
      simp only [Res.ok.injEq] at e
      obtain ⟨l, a, ks, rfl, _, _, rfl, hH, bk, _⟩ := rs.dctOf bY h2
      have ev := keyD_kV bx hj
      subst ev
      have g := DGet.k (k := j) hH
      have hv := BrK.get (k := j) bk
      have hs : (valV ks j).isSome = (dget j kvs).isSome := by
        split at hv
        · rename_i p hp
          obtain ⟨w, h3, _⟩ := hv
          rw [h3, hp] <;> rfl
        · rename_i hp
          rw [hv, hp] <;> rfl
      cases o <;> simp only [Cop.inB] at h1 <;> cases h1
      · refine op_dIn (by omega) pins s σ H _ _ v u Q I rx ry ⟨a, _, rfl, g, ?_⟩
        rw [hs]
        rw [← e.1] at q
        simpa using q
      · refine op_dNotIn (by omega) pins s σ H _ _ v u Q I rx ry ⟨a, _, rfl, g, ?_⟩
        rw [hs]
        rw [← e.1] at q
        simpa using q
    · cases e
  · unfold cmpR at e
    split at e
    · rename_i a b h1 h2
      split at e
      · rename_i r hr
        simp only [Res.ok.injEq] at e
        obtain ⟨rfl, _⟩ := e
        exact cmpS_all hK hu o pins s σ wd H st x y v u Q a b _ I rx ry rs (rs.rd bx h1) (rs.rd bY h2) hr q
      · cases e
    · cases e
theorem cmp2_st {o : Cop} {x y : D} {st st' : Sto} {k : Bool} (e : cmp2 o x y st = .ok k st') : st' = st := by
  unfold cmp2 cmpR at e
  split at e
  · split at e
    · cases e; rfl
    · cases e
  · split at e
    · split at e
      · cases e; rfl
      · cases e
    · cases e
theorem cmp2_exn {o : Cop} {x y : D} {st st' : Sto} {c : Nat} {a : Option P} (e : cmp2 o x y st = .exn c a st') : False := by
  unfold cmp2 cmpR at e
  split at e
  · split at e <;> cases e
  · split at e
    · split at e <;> cases e
    · cases e
theorem op2_inv {f : P → P → Option P} {x y : D} {st : Sto} {α : Prop} (r : Res D) (e : op2 f x y st = r) : r = .stk ∨ ∃ a b p, rd st x = some a ∧ rd st y = some b ∧ f a b = some p ∧ r = .ok (.p p) st := by
  subst e
  unfold op2
  split
  · rename_i a b h1 h2
    split
    · rename_i p hp
      exact .inr ⟨a, b, p, h1, h2, hp, rfl⟩
    · exact .inl rfl
  · exact .inl rfl
theorem op1_inv {f : P → Option P} {x : D} {st : Sto} (r : Res D) (e : op1 f x st = r) : r = .stk ∨ ∃ a p, rd st x = some a ∧ f a = some p ∧ r = .ok (.p p) st := by
  subst e
  unfold op1
  split
  · rename_i a h1
    split
    · rename_i p hp
      exact .inr ⟨a, p, h1, hp, rfl⟩
    · exact .inl rfl
  · exact .inl rfl

/-! ### the judgements -/
variable (Z X) in
def SndE (W : WX) (c : Cl) (Ex : EXR) (e : Expr) (m : ME) : Prop :=
  ∀ (σd : Sg) (st : Sto) (wd : Wd) (σ : L2.St) (H : Hp) (Q : VK), RSt Z wd H st → RSg Z wd H Ex σd σ → Post Z (RD Z) W σ wd H Q (m c σd st) → WE X e σ H Q
variable (Z X) in
def SndT (W : WX) (c : Cl) (Ex : EXR) (e : Expr) (m : MT) : Prop :=
  ∀ (σd : Sg) (st : Sto) (wd : Wd) (σ : L2.St) (H : Hp) (Q : Bool → Hp → Prop), RSt Z wd H st → RSg Z wd H Ex σd σ → Post Z RB W σ wd H Q (m c σd st) → WT X e σ H Q
variable (Z X) in
def SndW (W : WX) (c : Cl) (Ex : EXR) (e : Expr) (m : MT) : Prop :=
  ∀ (σd : Sg) (st : Sto) (wd : Wd) (σ : L2.St) (H : Hp) (Q : Bool → Hp → Prop), RSt Z wd H st → RSg Z wd H Ex σd σ → Post Z RB W σ wd H Q (m c σd st) → WW X e σ H Q
variable (Z X) in
def SndA (W : WX) (c : Cl) (Ex : EXR) (es : List Expr) (m : MA) : Prop :=
  ∀ (σd : Sg) (st : Sto) (wd : Wd) (σ : L2.St) (H : Hp) (Q : List V → Hp → Prop), RSt Z wd H st → RSg Z wd H Ex σd σ → Post Z (RDL Z) W σ wd H Q (m c σd st) → WA X es σ H Q

variable {W : WX} {c : Cl} {Ex : EXR} {a b d : Expr} {ma mb md : ME} {pos : Pos}
/-! ### names, constants -/
theorem snd_var {i : Nat} {x : Str} (hN : X.N[i]? = some x) (hv : Vis X.env.scope x) (hd : (x == ("__debug__" : Str)) = false) (hcd : (x == ("__classdict__" : Str)) = false) : SndE Z X W c Ex (.Name x pos) (eVar i) := by
  intro σd st wd σ H Q rs rg h
  refine we_of (pe_var (i := i) hN hv hd hcd) ?_
  cases hy : σd[i]? with
  | none =>
    simp only [eVar, hy] at h
    exact h.elim
  | some o =>
    cases o with
    | none =>
      simp only [eVar, hy] at h
      exact h.elim
    | some y =>
      obtain ⟨v, h1, h2⟩ := rg.at_ i _ hy
      cases y with
      | p x =>
        simp only [eVar, hy] at h
        exact ⟨v, h1, h v wd H .refl rs h2⟩
      | loc l =>
        simp only [eVar, hy] at h
        exact ⟨v, h1, h v wd H .refl rs h2⟩
      | exc k y =>
        simp only [eVar, hy] at h
        exact h.elim
theorem snd_pe {e : Expr} {v : V} {p : P} (h : PE X e (tC v)) (b : ∀ F H, Br Z F H p v) : SndE Z X W c Ex e (eC p) := by
  intro σd st wd σ H Q rs rg hp
  exact we_of h (hp v wd H .refl rs (b _ _))
theorem snd_int {i : Int} {j : Nat} : SndE Z X W c Ex (.Constant (.int i) j pos) (eC (.int i)) := snd_pe pe_int fun _ _ => .int i
theorem snd_bl {i : Bool} {j : Nat} : SndE Z X W c Ex (.Constant (.bool i) j pos) (eC (.bl i)) := snd_pe pe_bl fun _ _ => .bl i
theorem snd_str {i : Str} {j : Nat} : SndE Z X W c Ex (.Constant (.str i) j pos) (eC (.str i)) := snd_pe pe_str fun _ _ => .str i
theorem snd_non {j : Nat} : SndE Z X W c Ex (.Constant .none j pos) (eC .non) := snd_pe pe_non fun _ _ => .non
/-! ### argument lists, displays -/
theorem star_cons {e : Expr} {es : List Expr} {env : Env} (h : ∀ x p, e ≠ .Starred x p) : starEach (e :: es) env = (false, eval e env) :: starEach es env := by
  cases e <;> first | rfl | exact absurd rfl (h _ _)
theorem snd_anil : SndA Z X W c Ex [] aNil := by
  intro σd st wd σ H Q rs rg h
  exact wa_of pa_nil (h [] wd H .refl rs .nil)
theorem snd_acons {es : List Expr} {mr : MA} (ha : SndE Z X W c Ex a ma) (hr : SndA Z X W c Ex es mr) (hs : ∀ x p, a ≠ .Starred x p) : SndA Z X W c Ex (a :: es) (aCons ma mr) := by
  intro σd st wd σ H Q rs rg h
  refine wa_of (pa_cons pe_w pa_w (star_cons hs)) ?_
  refine ha σd st wd σ H _ rs rg (post_bind h fun x st1 v wd1 H1 e1 rs1 b1 h1 => ?_)
  refine hr σd st1 wd1 σ H1 _ rs1 (rg.ext e1) (post_bind h1 fun xs st2 vs wd2 H2 e2 rs2 b2 h2 => ?_)
  exact h2 _ wd2 H2 .refl rs2 (.cons (b1.ext e2) b2)
theorem frzL_len : ∀ {ds : List D} {s s' : Sto} {xs : List P}, frzL s ds = some (xs, s') → xs.length = ds.length
  | [], s, s', xs, h => by simp [frzL] at h; rw [h.1] <;> rfl
  | d :: ds, s, s', xs, h => by
    simp only [frzL] at h
    split at h
    · split at h
      · rename_i x s1 h1 _ ys s2 h2
        cases h
        simp [frzL_len h2]
      · cases h
    · cases h
theorem snd_tup {es : List Expr} {k : Nat} {mr : MA} (hr : SndA Z X W c Ex es mr) : SndE Z X W c Ex (.Tuple es k pos) (eTup mr) := by
  intro σd st wd σ H Q rs rg h
  refine we_of (pe_tup pa_w) ?_
  refine hr σd st wd σ H _ rs rg (post_bind h fun ds st1 vs wd1 H1 e1 rs1 b1 h1 => ?_)
  unfold tupD at h1
  split at h1
  · rename_i hl
    split at h1
    · rename_i xs s1 hz
      refine ⟨toL hl b1.length, ?_⟩
      obtain ⟨wd2, rs2, e2, b2⟩ := RSt.frzL rs1 b1 hz
      exact new_tup rs2 b2 fun z wd' H' e rs' b => h1 z wd' H' (e2.trans e) rs' b
    · exact h1.elim
  · exact h1.elim
theorem snd_lst {es : List Expr} {mr : MA} (hr : SndA Z X W c Ex es mr) : SndE Z X W c Ex (.List es pos) (eLst mr) := by
  intro σd st wd σ H Q rs rg h
  refine we_of (pe_lst pa_w) ?_
  refine hr σd st wd σ H _ rs rg (post_bind h fun ds st1 vs wd1 H1 e1 rs1 b1 h1 => ?_)
  unfold lstD at h1
  split at h1
  · rename_i hl
    split at h1
    · rename_i xs s1 hz
      refine ⟨toL hl b1.length, ?_⟩
      obtain ⟨wd2, rs2, e2, b2⟩ := RSt.frzL rs1 b1 hz
      exact new_lst rs2 b2 fun z wd' H' e rs' b => h1 z wd' H' (e2.trans e) rs' b
    · exact h1.elim
  · exact h1.elim
/-- a new list that is to change -/
theorem new_lstM {wd : Wd} {H : Hp} {st : Sto} {Q : VK} {xs : List P} {vs : List V} (rs : RSt Z wd H st) (b : BrL Z wd.F H xs vs) (q : ∀ z wd' H', XT wd H wd' H' → RSt Z wd' H' (st ++ [.lst xs]) → BrD Z wd' H' (.loc st.length) z → Q z H') : ∀ p, H p = none → Q (.ref p) (upd H p (.lst vs)) := fun p hp => by
  have nf : ¬ wd.F p := fun f => by
    obtain ⟨o, e, _⟩ := rs.ftr p f
    rw [hp] at e
    cases e
  obtain ⟨r, e⟩ := rs.newM (o := .lst vs) (m := .lst xs) hp fun F' hF => by
    have eF : F' = wd.F := funext fun a => propext (hF a)
    subst eF
    exact ⟨vs, upd_same, BrL.ext (Ext.new rs.ftr hp fun a h => h) _ _ b, nf⟩
  exact q _ _ _ e r ⟨p, rfl, by simp [← rs.len]⟩
theorem snd_lstM {es : List Expr} {mr : MA} (hr : SndA Z X W c Ex es mr) : SndE Z X W c Ex (.List es pos) (eLstM mr) := by
  intro σd st wd σ H Q rs rg h
  refine we_of (pe_lst pa_w) ?_
  refine hr σd st wd σ H _ rs rg (post_bind h fun ds st1 vs wd1 H1 e1 rs1 b1 h1 => ?_)
  unfold lstM at h1
  split at h1
  · rename_i hl
    split at h1
    · rename_i xs s1 hz
      refine ⟨toL hl b1.length, ?_⟩
      obtain ⟨wd2, rs2, e2, b2⟩ := RSt.frzL rs1 b1 hz
      exact new_lstM rs2 b2 fun z wd' H' e rs' b => h1 z wd' H' (e2.trans e) rs' b
    · exact h1.elim
  · exact h1.elim
theorem snd_ed : SndE Z X W c Ex (.Dict [] [] pos) eEd := by
  intro σd st wd σ H Q rs rg h
  refine we_of pe_dnewK fun p hp => ?_
  obtain ⟨r, e⟩ := rs.new (o := .dK []) hp (fun ps z => by cases z) true
  exact h _ _ _ e r (.ed (.inr ⟨rfl, rfl⟩) upd_same)
theorem snd_dctM : SndE Z X W c Ex (.Dict [] [] pos) eDctM := by
  intro σd st wd σ H Q rs rg h
  refine we_of pe_dnewK fun p hp => ?_
  have nf : ¬ wd.F p := fun f => by
    obtain ⟨o, e, _⟩ := rs.ftr p f
    rw [hp] at e
    cases e
  obtain ⟨r, e⟩ := rs.newM (o := .dK []) (m := .dct []) hp fun F' hF => by
    have eF : F' = wd.F := funext fun a => propext (hF a)
    subst eF
    exact ⟨[], upd_same, ⟨rfl, .nil⟩, nf⟩
  exact h _ _ _ e r ⟨p, rfl, by simp [← rs.len]⟩
/-! ### operators -/
theorem snd_op {o : Operator} {f : P → P → Option P} (ho : OpS Z X (binaryOp o) f) (ha : SndE Z X W c Ex a ma) (hb : SndE Z X W c Ex b mb) : SndE Z X W c Ex (.BinOp a o b pos) (eOp f ma mb) := by
  intro σd st wd σ H Q rs rg h pins s I
  refine wpAny_BinOp (bin (R := fun x y H2 => ∀ v u s2, Inv X pins σ H2 s2 → RelV x v → RelV y u → wpAny (model X.prog X.w) X.A (binaryOp o v u) (EP X pins σ Q) X.xe s2) pe_w pe_w I ?_ fun v u s2 x y H2 I2 rx ry q => q v u s2 I2 rx ry)
  refine ha σd st wd σ H _ rs rg (post_bind h fun x st1 v wd1 H1 e1 rs1 b1 h1 => ?_)
  refine hb σd st1 wd1 σ H1 _ rs1 (rg.ext e1) (post_bind h1 fun y st2 u wd2 H2 e2 rs2 b2 h2 => ?_)
  intro v' u' s2 I2 rx ry
  rcases op2_inv (α := True) _ (rfl : op2 f x y st2 = _) with z | ⟨p1, p2, p, z1, z2, z3, z⟩
  · rw [z] at h2
    exact h2.elim
  · rw [z] at h2
    exact ho pins s2 σ wd2 H2 st2 _ _ v' u' Q p1 p2 p I2 rx ry rs2 (rs2.rd (b1.ext e2) z1) (rs2.rd b2 z2) z3 fun z wd' H' e rs' b => h2 z wd' H' e rs' b
/-- .. of one thing -/
theorem snd_un {o : UnaryOp} {r : V → Hp → VK → Prop} {f : P → Option P} (ho : UnR X (unaryOp o) r) (hr : ∀ wd H st x Q a p, RSt Z wd H st → BrT Z wd.F H a x → f a = some p → (∀ z, Br Z wd.F H p z → Q z H) → r x H Q) (ha : SndE Z X W c Ex a ma) :
    SndE Z X W c Ex (.UnaryOp o a pos) (fun c σ => (ma c σ).bind fun x => op1 f x) := by
  intro σd st wd σ H Q rs rg h
  refine we_of (pe_un ho pe_w) ?_
  refine ha σd st wd σ H _ rs rg (post_bind h fun x st1 v wd1 H1 e1 rs1 b1 h1 => ?_)
  rcases op1_inv _ (rfl : op1 f x st1 = _) with z | ⟨p1, p, z1, z2, z⟩
  · rw [z] at h1
    exact h1.elim
  · rw [z] at h1
    exact hr wd1 H1 st1 v Q p1 p rs1 (rs1.rd b1 z1) z2 fun z b => h1 z wd1 H1 .refl rs1 b
theorem snd_neg (ha : SndE Z X W c Ex a ma) : SndE Z X W c Ex (.UnaryOp .USub a pos) (eNeg ma) := snd_un un_neg (fun wd H st x Q p q rs b e k => by
  cases p <;> simp [negP] at e
  subst e
  cases b.intI
  exact ⟨_, rfl, k _ (.int _)⟩) ha
theorem snd_not (ha : SndE Z X W c Ex a ma) : SndE Z X W c Ex (.UnaryOp .Not a pos) (eNot ma) := by
  intro σd st wd σ H Q rs rg h
  refine we_of (pe_not pe_w) ?_
  refine ha σd st wd σ H _ rs rg (post_bind h fun x st1 v wd1 H1 e1 rs1 b1 h1 => ?_)
  rcases op1_inv _ (rfl : op1 notP x st1 = _) with z | ⟨p1, p, z1, z2, z⟩
  · rw [z] at h1
    exact h1.elim
  · rw [z] at h1
    have bt := rs1.rd b1 z1
    cases p1 <;> simp [notP] at z2
    subst z2
    cases bt.blI
    exact ⟨_, rfl, h1 _ wd1 H1 .refl rs1 (.bl _)⟩
theorem snd_one {o : BoolOp} (ha : SndE Z X W c Ex a ma) : SndE Z X W c Ex (.BoolOp o [a] pos) ma := by
  intro σd st wd σ H Q rs rg h
  exact we_of (pe_one pe_w) (ha σd st wd σ H Q rs rg h)
theorem snd_if {mt : MT} (ht : SndT Z X W c Ex d mt) (ha : SndE Z X W c Ex a ma) (hb : SndE Z X W c Ex b mb) : SndE Z X W c Ex (.IfExp d a b pos) (eIf mt ma mb) := by
  intro σd st wd σ H Q rs rg h
  refine we_of (pe_ifExp pt_w pe_w pe_w) ?_
  refine ht σd st wd σ H _ rs rg (post_bind h fun x st1 v wd1 H1 e1 rs1 b1 h1 => ?_)
  cases b1
  cases x
  · rw [if_neg Bool.false_ne_true] at h1 ⊢
    exact hb σd st1 wd1 σ H1 Q rs1 (rg.ext e1) h1
  · rw [if_pos rfl] at h1 ⊢
    exact ha σd st1 wd1 σ H1 Q rs1 (rg.ext e1) h1
end
end EV
end
section
/-! Ev6: the rest of the expressions. -/
namespace EV
open PySem PySem.Spec PyProof.Rows L2
section
variable {Z : St0} {X : Cx} {W : WX} {c : Cl} {Ex : EXR} {a b d : Expr} {ma mb md : ME} {pos : Pos}

/-! ### comparisons -/
/-- what a comparison of two known values does -/
def CmW (X : Cx) (o : CmpOp) : R2 := fun x y H Q => ∀ (pins : List (Addr × Obj)) (s : Shared) (σ : L2.St) (v u : Value), Inv X pins σ H s → RelV x v → RelV y u → wpAny (model X.prog X.w) X.A (compareOp o v u) (EP X pins σ Q) X.xe s
theorem cmW_op {o : CmpOp} : OpR X (compareOp o) (CmW X o) := fun pins s σ H x y v u Q I rx ry h => h pins s σ v u I rx ry
theorem cmW_of (hK : X.K = Z.K) (hu : X.A.units + 70 < cLine) {o : Cop} {wd : Wd} {H : Hp} {st st' : Sto} {dx dy : D} {x y : V} {Q : VK} {k : Bool} (rs : RSt Z wd H st) (bx : BrD Z wd H dx x) (bY : BrD Z wd H dy y) (e : cmp2 o dx dy st = .ok k st') (q : Q (.bl k) H) : CmW X o.op x y H Q :=
  fun pins s σ v u I rx ry => cmpD hK hu o pins s σ wd H st st' dx dy x y v u Q k I rx ry rs bx bY e q
theorem snd_cmp (hK : X.K = Z.K) (hu : X.A.units + 70 < cLine) {o : Cop} (hm : behindInMarks o.op b = false) (ha : SndE Z X W c Ex a ma) (hb : SndE Z X W c Ex b mb) : SndE Z X W c Ex (.Compare a [o.op] [b] pos) (eCmp o ma mb) := by
  intro σd st wd σ H Q rs rg h
  refine we_of (pe_cmpR cmW_op pe_w pe_w hm) ?_
  refine ha σd st wd σ H _ rs rg (post_bind h fun x st1 v wd1 H1 e1 rs1 b1 h1 => ?_)
  refine hb σd st1 wd1 σ H1 _ rs1 (rg.ext e1) (post_bind h1 fun y st2 u wd2 H2 e2 rs2 b2 h2 => ?_)
  unfold Mo.bind at h2
  cases e : cmp2 o x y st2 with
  | ok k st3 =>
    rw [e] at h2
    cases cmp2_st e
    exact cmW_of hK hu rs2 (b1.ext e2) b2 e (h2 _ wd2 H2 .refl rs2 (.bl _))
  | exn k2 z st3 => exact (cmp2_exn e).elim
  | stk =>
    rw [e] at h2
    exact h2.elim
theorem snd_tcmp (hK : X.K = Z.K) (hu : X.A.units + 70 < cLine) {o : Cop} (hm : behindInMarks o.op b = false) (ha : SndE Z X W c Ex a ma) (hb : SndE Z X W c Ex b mb) : SndT Z X W c Ex (.Compare a [o.op] [b] pos) (tCmp o ma mb) := by
  intro σd st wd σ H Q rs rg h
  refine wt_of (pt_cmpR cmW_op pe_w pe_w hm) ?_
  refine ha σd st wd σ H _ rs rg (post_bind h fun x st1 v wd1 H1 e1 rs1 b1 h1 => ?_)
  refine hb σd st1 wd1 σ H1 _ rs1 (rg.ext e1) (post_bind h1 fun y st2 u wd2 H2 e2 rs2 b2 h2 => ?_)
  unfold Mo.bind at h2
  cases e : cmp2 o x y st2 with
  | ok k st3 =>
    rw [e] at h2
    cases cmp2_st e
    exact cmW_of hK hu rs2 (b1.ext e2) b2 e ⟨k, rfl, h2 _ wd2 H2 .refl rs2 rfl⟩
  | exn k2 z st3 => exact (cmp2_exn e).elim
  | stk =>
    rw [e] at h2
    exact h2.elim
/-- the chain's reading, whatever is wanted of its bool -/
theorem chain_core (hK : X.K = Z.K) (hu : X.A.units + 70 < cLine) {o o' : Cop} (ha : SndE Z X W c Ex a ma) (hb : SndE Z X W c Ex b mb) (hd : SndE Z X W c Ex d md) {σd : Sg} {st : Sto} {wd : Wd} {σ : L2.St} {H : Hp} {Q : VK} (rs : RSt Z wd H st) (rg : RSg Z wd H Ex σd σ)
    (h : Post Z RB W σ wd H (fun k H' => Q (.bl k) H') (EV.tChain o o' ma mb md c σd st)) : L2.tChain (CmW X o.op) (CmW X o'.op) (WE X a) (WE X b) (WE X d) σ H Q := by
  refine ha σd st wd σ H _ rs rg (post_bind h fun x st1 v wd1 H1 e1 rs1 b1 h1 => ?_)
  refine hb σd st1 wd1 σ H1 _ rs1 (rg.ext e1) (post_bind h1 fun y st2 u wd2 H2 e2 rs2 b2 h2 => ?_)
  unfold Mo.bind at h2
  cases e : cmp2 o x y st2 with
  | ok k st3 =>
    rw [e] at h2
    cases cmp2_st e
    refine cmW_of hK hu rs2 (b1.ext e2) b2 e ⟨k, rfl, ?_⟩
    cases k with
    | false =>
      rw [if_neg Bool.false_ne_true]
      exact h2 _ wd2 H2 .refl rs2 rfl
    | true =>
      rw [if_pos rfl]
      refine hd σd st2 wd2 σ H2 _ rs2 ((rg.ext e1).ext e2) (post_bind h2 fun z st4 w wd4 H4 e4 rs4 b4 h4 => ?_)
      try unfold Mo.bind at h4
      cases e' : cmp2 o' y z st4 with
      | ok k' st5 =>
        rw [e'] at h4
        cases cmp2_st e'
        exact cmW_of hK hu rs4 (b2.ext e4) b4 e' (h4 _ wd4 H4 .refl rs4 rfl)
      | exn k2 z st3 => exact (cmp2_exn e').elim
      | stk =>
        rw [e'] at h4
        exact h4.elim
  | exn k2 z st3 => exact (cmp2_exn e).elim
  | stk =>
    rw [e] at h2
    exact h2.elim
theorem tchain_e {o o' : Cop} {σd : Sg} {st : Sto} {wd : Wd} {σ : L2.St} {H : Hp} {Q : VK} (h : Post Z (RD Z) W σ wd H Q (eChain o o' ma mb md c σd st)) : Post Z RB W σ wd H (fun k H' => Q (.bl k) H') (EV.tChain o o' ma mb md c σd st) := by
  unfold eChain Mo.bind at h
  unfold EV.tChain Mo.bind
  cases h1 : ma c σd st with
  | stk => rw [h1] at h; exact h
  | exn k x s => rw [h1] at h; exact h
  | ok x s1 =>
    rw [h1] at h
    simp only [Res.bind] at h ⊢
    cases h2 : mb c σd s1 with
    | stk => rw [h2] at h; exact h
    | exn k x s => rw [h2] at h; exact h
    | ok y s2 =>
      rw [h2] at h
      simp only [Res.bind] at h ⊢
      cases h3 : cmp2 o x y s2 with
      | stk => rw [h3] at h; exact h
      | exn k x s => rw [h3] at h; exact h
      | ok k s3 =>
        rw [h3] at h
        simp only at h ⊢
        cases k with
        | false =>
          intro b wd' H' e rs' rb
          cases rb
          exact h _ wd' H' e rs' (.bl _)
        | true =>
          simp only [if_true] at h ⊢
          cases h4 : md c σd s3 with
          | stk => rw [h4] at h; exact h
          | exn k x s => rw [h4] at h; exact h
          | ok z s4 =>
            rw [h4] at h
            simp only [Res.bind] at h ⊢
            cases h5 : cmp2 o' y z s4 with
            | stk => rw [h5] at h; exact h
            | exn k x s => rw [h5] at h; exact h
            | ok k s5 =>
              rw [h5] at h
              intro b wd' H' e rs' rb
              cases rb
              exact h _ wd' H' e rs' (.bl _)
theorem snd_chain (hK : X.K = Z.K) (hu : X.A.units + 70 < cLine) {o o' : Cop} (hm : lastMarks [o.op, o'.op] [b, d] = false) (ha : SndE Z X W c Ex a ma) (hb : SndE Z X W c Ex b mb) (hd : SndE Z X W c Ex d md) : SndE Z X W c Ex (.Compare a [o.op, o'.op] [b, d] pos) (eChain o o' ma mb md) := by
  intro σd st wd σ H Q rs rg h
  exact we_of (pe_chain cmW_op cmW_op pe_w pe_w pe_w hm) (chain_core hK hu ha hb hd rs rg (tchain_e h))
theorem snd_tchain (hK : X.K = Z.K) (hu : X.A.units + 70 < cLine) {o o' : Cop} (hm : lastMarks [o.op, o'.op] [b, d] = false) (ha : SndE Z X W c Ex a ma) (hb : SndE Z X W c Ex b mb) (hd : SndE Z X W c Ex d md) : SndT Z X W c Ex (.Compare a [o.op, o'.op] [b, d] pos) (EV.tChain o o' ma mb md) := by
  intro σd st wd σ H Q rs rg h
  refine wt_of (pt_chain cmW_op cmW_op pe_w pe_w pe_w hm) (chain_core hK hu ha hb hd rs rg ?_)
  cases h1 : EV.tChain o o' ma mb md c σd st with
  | stk => rw [h1] at h; exact h
  | exn k x s => rw [h1] at h; exact h
  | ok k s1 =>
    rw [h1] at h
    exact fun b wd' H' e rs' rb => ⟨b, rfl, h b wd' H' e rs' rb⟩

/-! ### places, slices -/
def isSl : Expr → Bool
  | .Slice .. => true
  | _ => false
theorem plainIx_of (h : isSl b = false) : PlainIx b := by
  intro o i
  cases b <;> first | rfl | cases h
theorem snd_ix (hK : X.K = Z.K) (hu : X.A.units + 70 < cLine) (hs : isSl b = false) (ha : SndE Z X W c Ex a ma) (hb : SndE Z X W c Ex b mb) : SndE Z X W c Ex (.Subscript a b pos) (eIx ma mb) := by
  intro σd st wd σ H Q rs rg h
  obtain ⟨r, hr, hi⟩ := ixS (X := X) hK
  refine we_of (pe_ix (hr.or (ix_dict (by omega))) pe_w pe_w (plainIx_of hs)) ?_
  refine ha σd st wd σ H _ rs rg (post_bind h fun x st1 v wd1 H1 e1 rs1 b1 h1 => ?_)
  refine hb σd st1 wd1 σ H1 _ rs1 (rg.ext e1) (post_bind h1 fun y st2 u wd2 H2 e2 rs2 b2 h2 => ?_)
  unfold ixD at h2
  split at h2
  · rename_i kvs hk
    split at h2
    · rename_i k hk'
      split at h2
      · rename_i w hw
        obtain ⟨l, ad, ks, rfl, _, _, rfl, hH, bk, _⟩ := rs2.dctOf (b1.ext e2) hk
        have hv := BrK.get (k := k) bk
        rw [hw] at hv
        obtain ⟨v', h3, bv⟩ := hv
        cases keyD_kV b2 hk'
        refine .inr ⟨ad, v', rfl, ?_, h2 _ wd2 H2 .refl rs2 bv⟩
        rw [← h3]
        exact DGet.k hH
      · exact h2.elim
    · exact h2.elim
  · rcases op2_inv (α := True) _ (rfl : op2 ixP x y st2 = _) with z | ⟨p1, p2, p, z1, z2, z3, z⟩
    · rw [z] at h2
      exact h2.elim
    · rw [z] at h2
      exact .inl (hi wd2 H2 st2 _ _ Q p1 p2 p rs2 (rs2.rd (b1.ext e2) z1) (rs2.rd b2 z2) z3 fun z wd' H' e rs' b => h2 z wd' H' e rs' b)
variable (Z X) in
def SndO (W : WX) (c : Cl) (Ex : EXR) (lo : Option Expr) (m : MO') : Prop :=
  ∃ t, PO X lo t ∧ ∀ (σd : Sg) (st : Sto) (wd : Wd) (σ : L2.St) (H : Hp) (Q : Option Int → Hp → Prop), RSt Z wd H st → RSg Z wd H Ex σd σ → Post Z RO W σ wd H Q (m c σd st) → t σ H Q
theorem sndo_none : SndO Z X W c Ex none oNone := ⟨_, po_none, fun σd st wd σ H Q rs rg h => h none wd H .refl rs rfl⟩
theorem sndo_some (ha : SndE Z X W c Ex a ma) : SndO Z X W c Ex (some a) (oSome ma) := by
  refine ⟨_, po_some pe_w, fun σd st wd σ H Q rs rg h => ?_⟩
  refine ha σd st wd σ H _ rs rg (post_bind h fun x st1 v wd1 H1 e1 rs1 b1 h1 => ?_)
  split at h1
  · cases b1
    exact ⟨_, rfl, h1 _ wd1 H1 .refl rs1 rfl⟩
  · exact h1.elim
theorem snd_sl (hK : X.K = Z.K) {lo hi : Option Expr} {ml mh : MO'} {p2 : Pos} (ha : SndE Z X W c Ex a ma) (hl : SndO Z X W c Ex lo ml) (hh : SndO Z X W c Ex hi mh) : SndE Z X W c Ex (.Subscript a (.Slice lo hi none p2) pos) (eSl ma ml mh) := by
  obtain ⟨tl, pl, kl⟩ := hl
  obtain ⟨th, ph, kh⟩ := hh
  intro σd st wd σ H Q rs rg h
  refine we_of (pe_slice sl_all pe_w pl ph) ?_
  refine ha σd st wd σ H _ rs rg (post_bind h fun x st1 v wd1 H1 e1 rs1 b1 h1 => ?_)
  refine kl σd st1 wd1 σ H1 _ rs1 (rg.ext e1) (post_bind h1 fun l st2 l' wd2 H2 e2 rs2 b2 h2 => ?_)
  refine kh σd st2 wd2 σ H2 _ rs2 ((rg.ext e1).ext e2) (post_bind h2 fun k st3 k' wd3 H3 e3 rs3 b3 h3 => ?_)
  cases b2
  cases b3
  rcases op1_inv _ (rfl : op1 (fun p => slP p l k) x st3 = _) with z | ⟨p1, p, z1, z2, z⟩
  · rw [z] at h3
    exact h3.elim
  · rw [z] at h3
    exact slS hK wd3 H3 st3 v l k Q p1 p rs3 (rs3.rd ((b1.ext e2).ext e3) z1) z2 fun z wd' H' e rs' b => h3 z wd' H' e rs' b
/-! x[::-1] -/
theorem looks_rev (n : Nat) : Builtin.Slice.sliceAdjust none none (-1) (n : Int) = ((n : Int) - 1, -1) := by
  unfold Builtin.Slice.sliceAdjust
  simp
theorem places_rev (n : Nat) : Builtin.Slice.slicePlaces ((n : Int) - 1) (-1) (-1) = n := by
  have h1 : ¬ ((-1 : Int) > 0) := by decide
  have e0 : (- -1 : Int) = 1 := by decide
  unfold Builtin.Slice.slicePlaces
  simp only [h1, if_false, e0, Int.ediv_one]
  split <;> omega
theorem applied_rev {prog : Program} {w : World} {A : Around} {E : Value → Shared → Prop} {s : Shared} {sl : Addr} {vl vu vs : Value} {n : Nat} {Q : Int × Int × Nat → Shared → Prop} (hs : s.heap.IsSliceOf sl vl vu vs) (pl : IsPart vl none) (pu : IsPart vu none) (ps : IsPart vs (some (-1)))
    (h : Q ((n : Int) - 1, -1, n) s) : wpAny (model prog w) A (Builtin.Slice.sliceApplied (.ref sl) (pure (n : Int))) Q E s := by
  obtain ⟨os, hos, hcs, hds⟩ := id hs
  unfold Builtin.Slice.sliceApplied Builtin.Slice.sliceFields
  refine wpAny_bind (wpAny_bind (wpAny_field hos hds (x := vl) rfl (wpAny_bind (wpAny_field hos hds (x := vu) rfl (wpAny_bind (wpAny_field hos hds (x := vs) rfl (wpAny_pure ?_)))))))
  refine wpAny_bind (HT.slicePart_ ps ?_)
  show wpAny _ _ (if ((-1 : Int) == 0) = true then _ else _) _ _ s
  rw [if_neg (by decide)]
  refine wpAny_bind (HT.slicePart_ pl (wpAny_bind (HT.slicePart_ pu (wpAny_bind (wpAny_pure ?_)))))
  show wpAny _ _ (match Builtin.Slice.sliceAdjust none none (-1) (n : Int) with | (lo, hi) => pure (lo, (-1 : Int), Builtin.Slice.slicePlaces lo hi (-1))) _ _ s
  rw [looks_rev]
  show wpAny _ _ (pure ((n : Int) - 1, (-1 : Int), Builtin.Slice.slicePlaces ((n : Int) - 1) (-1) (-1))) _ _ s
  rw [places_rev]
  exact wpAny_pure h
theorem fm_congr {α β : Type} {f g : α → Option β} : ∀ {l : List α}, (∀ k ∈ l, f k = g k) → l.filterMap f = l.filterMap g
  | [], _ => rfl
  | x :: l, h => by
    rw [List.filterMap_cons, List.filterMap_cons, h x (by simp), fm_congr fun k hk => h k (by simp [hk])]
theorem pick_rev (items : Array Value) : (List.filterMap (fun (k : Nat) => items[((items.size : Int) - 1 + (k : Int) * (-1)).toNat]?) (List.range items.size)).toArray = items.toList.reverse.toArray := by
  rw [← PySem.W.krv_pick]
  unfold slicePick
  rw [PySem.W.krv_bounds]
  show _ = ((sliceRange ((items.size : Int) - 1) (-1) (-1)).filterMap (items[·]?)).toArray
  rw [PySem.W.krv_sliceRange, List.filterMap_map]
  congr 1
  refine fm_congr fun k hk => ?_
  have e : ((items.size : Int) - 1 + (k : Int) * (-1)).toNat = items.size - 1 - k := by omega
  simp only [Function.comp, e]
theorem getItem_tuple_rev {prog : Program} {w : World} {A : Around} {E : Value → Shared → Prop} {s : Shared} {t sl : Addr} {items : Array Value} {vl vu vs : Value} {Q : Value → Shared → Prop} (ht : IsTup s.heap t items) (hs : s.heap.IsSliceOf sl vl vu vs) (pl : IsPart vl none) (pu : IsPart vu none) (ps : IsPart vs (some (-1)))
    (h : Q (.ref s.heap.objs.size) { s with heap := s.heap.push { cls := .type "tuple", data := .seq items.toList.reverse.toArray } })
    (hsz : items.size ≤ sizeLine) : wpAny (model prog w) A (getItem (.ref t) (.ref sl)) Q E s := by
  have htake : sizeOk (.seq items.toList.reverse.toArray) := by
    show items.toList.reverse.toArray.size ≤ sizeLine
    rw [List.size_toArray, List.length_reverse, Array.length_toList]
    exact hsz
  obtain ⟨os, hos, hcs, hds⟩ := id hs
  have hTs : s.TypeIs (.ref sl) "slice" := ⟨os, hos, hcs⟩
  unfold getItem
  try with_reducible refine wpAny_holding ?_
  first | refine wpAny_bind (wpAny_pure ?_) | skip
  refine wpAny_bind (wpAny_sequenceKey ht.typeIs (by decide) ?_)
  refine wpAny_bind (wpAny_callSpecial?_slot (name := Str.ofString "__getitem__") ht.typeIs PyProof.Rows.slot_tuple_getitem
    (wpAny_call_entry PyProof.Rows.slot_tuple_getitem ht.typeIs PyProof.Rows.entry_tuple_getitem ?_ (PyProof.Rows.args_tuple_getitem _ _)))
  show wpAny _ _ (Builtin.Tuple.tupleItemsOf (.ref t) >>= _) _ _ s
  refine wpAny_bind (tupleItemsOf_ ht ?_)
  refine wpAny_bind (wpAny_typeOf hTs ?_)
  rw [if_pos (by decide)]
  refine wpAny_bind (applied_rev hs pl pu ps ?_)
  show wpAny _ _ (if (((items.size : Int) - 1 == 0) && ((-1 : Int) == 1) && (items.size == items.size)) = true then _ else _) _ _ s
  rw [if_neg (by simp), pick_rev]
  first
    | exact wpAny_bind (m := Builtin.Tuple.tupleExact _) (wpAny_newObj_type (wpAny_pure ⟨_, rfl, wpAny_pure h⟩) htake)
    | exact wpAny_bind (m := Builtin.Tuple.tupleExact _) (wpAny_newObj_type (wpAny_bind (wpAny_pure (wpAny_pure ⟨_, rfl, wpAny_pure h⟩))) htake)
    | exact wpAny_bind (wpAny_bind (m := Builtin.Tuple.tupleExact _) (wpAny_newObj_type (wpAny_pure (wpAny_pure ⟨_, rfl, wpAny_pure h⟩)) htake))
    | exact wpAny_bind (wpAny_bind (m := Builtin.Tuple.tupleExact _) (wpAny_newObj_type (wpAny_pure ⟨_, rfl, wpAny_pure h⟩) htake))
theorem snd_rev (hK : X.K = Z.K) {k : Nat} {p1 p2 p3 : Pos} (ha : SndE Z X W c Ex a ma) : SndE Z X W c Ex (.Subscript a (.Slice none none (some (.UnaryOp .USub (.Constant (.int 1) k p1) p2)) p3) pos) (eRev ma) := by
  intro σd st wd σ H Q rs rg h pins s I
  refine Subscript_ (thn ((pe_w (X := X) (e := a)).run pins s σ H (fun v H1 => ∃ wd1 st1 p q, RSt Z wd1 H1 st1 ∧ BrT Z wd1.F H1 p v ∧ revP p = some q ∧ ∀ z wd' H', XT wd1 H1 wd' H' → RSt Z wd' H' st1 → Br Z wd'.F H' q z → Q z H') I ?_) fun v s1 ⟨x, H1, I1, r1, q1⟩ => ?_)
  · refine ha σd st wd σ H _ rs rg (post_bind h fun x st1 v wd1 H1 e1 rs1 b1 h1 => ?_)
    rcases op1_inv _ (rfl : op1 revP x st1 = _) with z | ⟨p1, p, z1, z2, z⟩
    · rw [z] at h1
      exact h1.elim
    · rw [z] at h1
      exact ⟨wd1, st1, p1, p, rs1, rs1.rd b1 z1, z2, fun z wd' H' e rs' b => h1 z wd' H' e rs' b⟩
  · obtain ⟨wd1, st1, p, q, rs1, bt, hr, q1⟩ := q1
    have hst : PO X (some (.UnaryOp .USub (.Constant (.int 1) k p1) p2)) (tPart (tUn (rU fun i => .int (-i)) (tC (.int 1)))) := po_some (pe_un un_neg pe_int)
    refine wpAny_Slice (thn (po_none.run pins s1 σ H1 (fun o H2 => o = none ∧ H2 = H1) I1 ⟨rfl, rfl⟩) fun vl s2 ⟨l, H2, I2, pl, el, e2⟩ => ?_)
    subst el e2
    refine thn (po_none.run pins s2 σ H2 (fun o H3 => o = none ∧ H3 = H2) I2 ⟨rfl, rfl⟩) fun vu s3 ⟨u, H3, I3, pu, eu, e3⟩ => ?_
    subst eu e3
    refine thn (hst.run pins s3 σ H3 (fun o H4 => o = some (-1) ∧ H4 = H3) I3 ⟨1, rfl, -1, rfl, rfl, rfl⟩) fun vs s4 ⟨o, H4, I4, ps, eo, e4⟩ => ?_
    subst eo e4
    have I5 : Inv X pins σ H4 { s4 with heap := s4.heap.push { cls := .type "slice", data := .fields #[vl, vu, vs] } } := I4.kept (t' := s4.toks) fun b ob q => Heap.get?_push_of_some _ q
    cases p <;> simp only [revP] at hr <;> first | cases hr | skip
    · obtain ⟨a1, xs, rfl, hx, l1⟩ := bt.tupI
      cases r1
      rw [← hK] at hx
      obtain ⟨its, r, ht, hz⟩ := I5.tuple hx
      have hlen := r.length
      refine tail_any (ops := [.ref a1, .ref s4.heap.objs.size]) ht.typeIs (PyProof.Rows.slot_tuple_getitem.lookup) ?_ (by with_unfolding_all rfl)
      refine getItem_tuple_rev ht (Heap.IsSliceOf.new _ vl vu vs) pl pu ps ?_ (by rw [List.size_toArray]; omega)
      refine ⟨.ref _, _, I5.laid (t' := s4.toks) (o := .tup xs.reverse) (fun b ob q => Heap.get?_push_of_some _ q) (Nat.le_refl _) ?_, rfl, new_tup rs1 l1.rev q1 _ (I5.hok.fresh (Nat.le_refl _))⟩
      exact ⟨by rw [List.length_reverse]; exact hz, _, r.reverse, _, Heap.get?_push_size _ rfl, rfl, _, rfl⟩
    · obtain ⟨a1, xs, rfl, hx, l1⟩ := bt.lstI
      cases r1
      obtain ⟨its, r, ht, hz⟩ := I5.list (xs := xs) (a := a1) (.inl hx)
      have hlen := r.length
      refine tail_any (ops := [.ref a1, .ref s4.heap.objs.size]) ht.isList.typeIs (PySem.slot_list_getitem.lookup) ?_ (by with_unfolding_all rfl)
      refine wpAny_getItem_list_slice ht.isList (Heap.IsSliceOf.new _ vl vu vs) pl pu ps (by decide) ?_ (by rw [List.size_toArray]; omega)
      rw [PySem.W.krv_pick]
      refine ⟨.ref _, _, I5.laid (t' := s4.toks) (o := .lst xs.reverse) (fun b ob q => Heap.get?_push_of_some _ q) (Nat.le_refl _) ?_, rfl, new_lst rs1 l1.rev q1 _ (I5.hok.fresh (Nat.le_refl _))⟩
      exact ⟨by rw [List.length_reverse]; exact hz, _, 0, r.reverse, Heap.get?_push_size _ rfl⟩
end
end EV
end
section
/-! Ev7: calls of built-ins, of methods. -/
namespace EV
open PySem PySem.Spec PyProof.Rows L2

/-! ### plain facts -/
theorem insI_perm (x : Int) : ∀ l : List Int, (insI x l).Perm (x :: l)
  | [] => .refl _
  | y :: r => by
    simp only [insI]
    split
    · exact .refl _
    · exact ((insI_perm x r).cons y).trans (.swap x y r)
theorem isort_perm : ∀ l : List Int, (isort l).Perm l
  | [] => .refl _
  | x :: r => (insI_perm x _).trans ((isort_perm r).cons x)
theorem insI_pw (x : Int) : ∀ {l : List Int}, l.Pairwise (· ≤ ·) → (insI x l).Pairwise (· ≤ ·)
  | [], _ => by simp [insI]
  | y :: r, h => by
    simp only [insI]
    rw [List.pairwise_cons] at h
    split
    · rename_i hxy
      refine List.pairwise_cons.mpr ⟨fun z hz => ?_, List.pairwise_cons.mpr h⟩
      rcases List.mem_cons.mp hz with rfl | hz
      · exact hxy
      · exact Int.le_trans hxy (h.1 z hz)
    · rename_i hxy
      refine List.pairwise_cons.mpr ⟨fun z hz => ?_, insI_pw x h.2⟩
      rcases List.mem_cons.mp ((insI_perm x r).mem_iff.mp hz) with rfl | hz
      · omega
      · exact h.1 z hz
theorem isort_pw : ∀ l : List Int, (isort l).Pairwise (· ≤ ·)
  | [] => .nil
  | x :: r => insI_pw x (isort_pw r)
theorem isort_eq {l m : List Int} (p : m.Perm l) (s : m.Pairwise (· ≤ ·)) : m = isort l :=
  List.Perm.eq_of_pairwise (fun a b _ _ h1 h2 => Int.le_antisymm h1 h2) s (isort_pw l) (p.trans (isort_perm l).symm)
theorem minL_spec : ∀ {l : List Int} {m : Int}, minL l = some m → m ∈ l ∧ ∀ y ∈ l, m ≤ y
  | [], _, h => by cases h
  | [x], _, h => by
    simp only [minL, Option.some.injEq] at h
    subst h
    simp
  | x :: y :: r, m, h => by
    simp only [minL, Option.map_eq_some_iff] at h
    obtain ⟨k, h1, h2⟩ := h
    have ih := minL_spec (l := y :: r) (m := k) h1
    subst h2
    split
    · rename_i hx
      refine ⟨by simp, fun z hz => ?_⟩
      rcases List.mem_cons.mp hz with rfl | hz
      · exact Int.le_refl _
      · exact Int.le_trans hx (ih.2 z hz)
    · rename_i hx
      refine ⟨List.mem_cons_of_mem _ ih.1, fun z hz => ?_⟩
      rcases List.mem_cons.mp hz with rfl | hz
      · omega
      · exact ih.2 z hz
theorem maxL_spec : ∀ {l : List Int} {m : Int}, maxL l = some m → m ∈ l ∧ ∀ y ∈ l, y ≤ m
  | [], _, h => by cases h
  | [x], _, h => by
    simp only [maxL, Option.some.injEq] at h
    subst h
    simp
  | x :: y :: r, m, h => by
    simp only [maxL, Option.map_eq_some_iff] at h
    obtain ⟨k, h1, h2⟩ := h
    have ih := maxL_spec (l := y :: r) (m := k) h1
    subst h2
    split
    · rename_i hx
      refine ⟨by simp, fun z hz => ?_⟩
      rcases List.mem_cons.mp hz with rfl | hz
      · exact Int.le_refl _
      · exact Int.le_trans (ih.2 z hz) hx
    · rename_i hx
      refine ⟨List.mem_cons_of_mem _ ih.1, fun z hz => ?_⟩
      rcases List.mem_cons.mp hz with rfl | hz
      · omega
      · exact ih.2 z hz
theorem intsP_map : ∀ {ps : List P} {ns : List Int}, intsP ps = some ns → ps = ns.map .int
  | [], _, h => by cases h; rfl
  | p :: ps, ns, h => by
    cases p <;> simp [intsP] at h
    obtain ⟨r, h1, rfl⟩ := h
    rw [intsP_map h1] <;> rfl
theorem blsP_map : ∀ {ps : List P} {ns : List Bool}, blsP ps = some ns → ps = ns.map .bl
  | [], _, h => by cases h; rfl
  | p :: ps, ns, h => by
    cases p <;> simp [blsP] at h
    obtain ⟨r, h1, rfl⟩ := h
    rw [blsP_map h1] <;> rfl
theorem minL_pos {l : List Int} {m : Int} (h : minL l = some m) : 0 < l.length := by
  cases l with
  | nil => cases h
  | cons x r => simp
theorem maxL_pos {l : List Int} {m : Int} (h : maxL l = some m) : 0 < l.length := by
  cases l with
  | nil => cases h
  | cons x r => simp

section
variable {Z : St0} {X : Cx} {W : WX} {c : Cl} {Ex : EXR} {a b d e : Expr} {ma mb md : ME} {pos p : Pos}
/-! ### a call of a known value -/
def CaW (X : Cx) (f : Value) : List V → Hp → VK → Prop := fun xs H Q => ∀ (pins : List (Addr × Obj)) (s : Shared) (σ : L2.St) (us : List Value), Inv X pins σ H s → Vals xs us → wpAny (model X.prog X.w) X.A (call f us) (EP X pins σ Q) X.xe s
theorem caW_r {f : Value} : CallR X f (CaW X f) := fun pins s σ H xs us Q I r h => h pins s σ us I r
theorem caW_of {f : Value} {r : List V → Hp → VK → Prop} (h : CallR X f r) {xs : List V} {H : Hp} {Q : VK} (q : r xs H Q) : CaW X f xs H Q := fun pins s σ us I rv => h pins s σ H xs us Q I rv q
def B1.nm : B1 → String
  | .len => "len" | .abs => "abs" | .sum => "sum" | .any => "any" | .all => "all" | .min => "min" | .max => "max" | .sorted => "sorted" | .tuple => "tuple" | .list => "list" | .int => "int" | .str => "str" | .repr => "repr"
def B1.isT : B1 → Bool
  | .tuple | .list | .int | .str => true
  | _ => false
def B1.fv (b : B1) : Value := if b.isT then .type b.nm else .builtin b.nm
theorem B1.boot (b : B1) : bootBuiltins (b.nm : String) = some b.fv := by cases b <;> decide +kernel
theorem B1.nn (b : B1) : (Str.ofString b.nm) ≠ "__name__" := by cases b <;> decide
theorem B1.nd (b : B1) : ((Str.ofString b.nm) == ("__debug__" : Str)) = false := by cases b <;> decide
theorem pe_caB {x : Str} {es : List Expr} {t : TA} {v : Value} (hv : bootBuiltins x = some v) (hk : (∃ id, v = .builtin id) ∨ ∃ T, v = .type T) (hg : Gl X x) (hm : X.mg x = none) (ha : PA X (e :: es) t) (hn : x ≠ "__name__") (hdb : (x == ("__debug__" : Str)) = false)
    (he : starEach (e :: es) X.env = (false, eval e X.env) :: starEach es X.env) (hpl : (backTo pos (starEach es X.env)).any (·.1) = false) : PE X (.Call (.Name x p) (e :: es) [] pos) (tCB (CaW X v) t) := by
  rcases hk with ⟨id, rfl⟩ | ⟨T, rfl⟩
  · exact pe_callB caW_r hg hm hv ha hn hdb he hpl
  · exact pe_callTy caW_r hg hm hv ha hn hdb he hpl
theorem B1.knd (b : B1) : (∃ id, b.fv = .builtin id) ∨ ∃ T, b.fv = .type T := by
  cases b <;> first | exact .inl ⟨_, rfl⟩ | exact .inr ⟨_, rfl⟩
theorem kyP_kV (F : Addr → Prop) (H : Hp) (k : Ky) : Br Z F H (kyP k) (kV k) := by
  cases k with
  | inl i => exact .int i
  | inr i => exact .str i
theorem BrK.keys {F : Addr → Prop} {H : Hp} : ∀ {kvs : List (Ky × P)} {ks : List (Key × V)}, BrK Z F H kvs ks → BrL Z F H (kvs.map fun q => kyP q.1) (ks.map fun q => kV q.1)
  | [], [], _ => .nil
  | [], _ :: _, ⟨h, _⟩ => by simp at h
  | _ :: _, [], ⟨h, _⟩ => by simp at h
  | (j, p) :: r, (j', v) :: r', ⟨h, l⟩ => by
    simp only [List.map_cons, List.cons.injEq] at h
    obtain ⟨e, h⟩ := h
    subst e
    cases l with
    | cons b l => exact .cons (kyP_kV F H _) (BrK.keys ⟨h, l⟩)
theorem BrK.length {F : Addr → Prop} {H : Hp} {kvs : List (Ky × P)} {ks : List (Key × V)} (b : BrK Z F H kvs ks) : kvs.length = ks.length := by
  have := congrArg List.length b.1
  simpa using this
theorem lenV_of {K : PySem.W.Frag} (hK : K = Z.K) {F : Addr → Prop} {H : Hp} {a p : P} {x : V} (ba : BrT Z F H a x) (e : lenP a = some p) : ∃ n : Nat, p = .int n ∧ LenV K x H n := by
  cases a <;> simp only [lenP] at e <;> first | cases e | skip
  · split at e
    · rename_i z hl
      cases e
      cases ba.strI
      exact ⟨_, rfl, by rw [sizeL]; exact hl, rfl⟩
    · cases e
  · obtain ⟨a1, vs, rfl, h1, l1⟩ := ba.tupI
    exact ⟨_, rfl, .inr ⟨vs, by rw [hK]; exact h1, l1.length⟩⟩
  · obtain ⟨a1, vs, rfl, h1, l1⟩ := ba.lstI
    exact ⟨_, rfl, .inl ⟨vs, .inl h1, l1.length⟩⟩
theorem b1_run (hK : X.K = Z.K) (hgu : X.A.guards = some [] ∧ X.A.units + 70 < cLine) {t : B1} (hc : X.calm = true ∨ t = .len) {wd : Wd} {H : Hp} {st : Sto} {d : D} {v : V} {Q : VK} {σ : L2.St} (rs : RSt Z wd H st) (bd : BrD Z wd H d v) (h : Post Z (RD Z) W σ wd H Q (b1D t d st)) : CaW X t.fv [v] H Q := by
  unfold b1D at h
  split at h
  · rename_i kvs hk
    obtain ⟨l, ad, ks, rfl, _, _, rfl, hH, bk, _⟩ := rs.dctOf bd hk
    intro pins s σ' us I r
    obtain ⟨u, rfl, ru⟩ := vals1 r
    cases ru
    refine d_len I (.inl hH) fun t s' I' => ⟨.int ks.length, H, I', ⟨t, rfl⟩, h _ wd H .refl rs ?_⟩
    rw [bk.length]
    exact .int _
  · rename_i kvs hk
    have hc : X.calm = true := by
      rcases hc with hc | hc
      · exact hc
      · cases hc
    obtain ⟨l, ad, ks, rfl, _, _, rfl, hH, bk, _⟩ := rs.dctOf bd hk
    exact caW_of (call_list_dK hc) ⟨ad, ks, rfl, hH, new_lst rs bk.keys h⟩
  · rename_i t _ _ _ _
    rcases op1_inv _ (rfl : op1 (b1P t) d st = _) with z | ⟨p1, p, z1, z2, z⟩
    · rw [z] at h
      exact h.elim
    · rw [z] at h
      have ba := rs.rd bd z1
      have done : ∀ {z : V}, Br Z wd.F H p z → Q z H := fun {z} bz => h z wd H .refl rs bz
      cases t
      · obtain ⟨n, rfl, hl⟩ := lenV_of hK ba z2
        exact caW_of call_len ⟨v, n, rfl, hl, done (.int _)⟩
      all_goals have hc : X.calm = true := by
                  rcases hc with hc | hc
                  · exact hc
                  · cases hc
      · cases p1 <;> simp only [b1P] at z2 <;> cases z2
        cases ba.intI
        exact caW_of call_abs ⟨_, rfl, done (.int _)⟩
      · cases p1 <;> simp only [b1P] at z2 <;> first | cases z2 | skip
        rw [Option.map_eq_some_iff] at z2
        obtain ⟨ns, z2, rfl⟩ := z2
        obtain ⟨a1, vs, rfl, h1, l1⟩ := ba.lstI
        cases l1.ints z2
        exact caW_of (cr_sum hc) ⟨a1, ns, rfl, .inl h1, done (.int _)⟩
      · cases p1 <;> simp only [b1P] at z2 <;> first | cases z2 | skip
        rw [Option.map_eq_some_iff] at z2
        obtain ⟨ns, z2, rfl⟩ := z2
        obtain ⟨a1, vs, rfl, h1, l1⟩ := ba.lstI
        cases l1.bls z2
        exact caW_of (cr_any hc) ⟨a1, ns, rfl, .inl h1, done (.bl _)⟩
      · cases p1 <;> simp only [b1P] at z2 <;> first | cases z2 | skip
        rw [Option.map_eq_some_iff] at z2
        obtain ⟨ns, z2, rfl⟩ := z2
        obtain ⟨a1, vs, rfl, h1, l1⟩ := ba.lstI
        cases l1.bls z2
        exact caW_of (cr_all hc) ⟨a1, ns, rfl, .inl h1, done (.bl _)⟩
      · cases p1 <;> simp only [b1P] at z2 <;> first | cases z2 | skip
        rw [Option.map_eq_some_iff] at z2
        obtain ⟨m, z2, rfl⟩ := z2
        rw [Option.bind_eq_some_iff] at z2
        obtain ⟨ns, z2, z3⟩ := z2
        obtain ⟨a1, vs, rfl, h1, l1⟩ := ba.lstI
        cases l1.ints z2
        have sp := minL_spec z3
        refine caW_of (cr_min hc) ⟨a1, ns, rfl, .inl h1, minL_pos z3, fun k hk hle => ?_⟩
        have : k = m := Int.le_antisymm (hle m sp.1) (sp.2 k hk)
        subst this
        exact done (.int _)
      · cases p1 <;> simp only [b1P] at z2 <;> first | cases z2 | skip
        rw [Option.map_eq_some_iff] at z2
        obtain ⟨m, z2, rfl⟩ := z2
        rw [Option.bind_eq_some_iff] at z2
        obtain ⟨ns, z2, z3⟩ := z2
        obtain ⟨a1, vs, rfl, h1, l1⟩ := ba.lstI
        cases l1.ints z2
        have sp := maxL_spec z3
        refine caW_of (cr_max hc) ⟨a1, ns, rfl, .inl h1, maxL_pos z3, fun k hk hle => ?_⟩
        have : k = m := Int.le_antisymm (sp.2 k hk) (hle m sp.1)
        subst this
        exact done (.int _)
      · cases p1 <;> simp only [b1P] at z2 <;> first | cases z2 | skip
        rw [Option.map_eq_some_iff] at z2
        obtain ⟨ns, z2, rfl⟩ := z2
        obtain ⟨a1, vs, rfl, h1, l1⟩ := ba.lstI
        cases l1.ints z2
        refine caW_of cr_sortedI ⟨a1, ns, rfl, .inl h1, fun ns' q hp hs hq => ?_⟩
        cases isort_eq hp hs
        exact new_lst rs (BrL.of_ints _) h q hq
      · cases p1 <;> simp only [b1P] at z2 <;> first | cases z2 | skip
        · obtain ⟨a1, vs, rfl, h1, l1⟩ := ba.tupI
          exact caW_of call_tuple_of ⟨a1, vs, rfl, .inr ⟨by rw [hK]; exact h1, done (.tup h1 l1)⟩⟩
        · obtain ⟨a1, vs, rfl, h1, l1⟩ := ba.lstI
          exact caW_of call_tuple_of ⟨a1, vs, rfl, .inl ⟨.inl h1, new_tup rs l1 h⟩⟩
      · cases p1 <;> simp only [b1P] at z2 <;> first | cases z2 | skip
        · obtain ⟨a1, vs, rfl, h1, l1⟩ := ba.tupI
          exact caW_of call_list_of ⟨a1, vs, rfl, .inr (by rw [hK]; exact h1), new_lst rs l1 h⟩
        · obtain ⟨a1, vs, rfl, h1, l1⟩ := ba.lstI
          exact caW_of call_list_of ⟨a1, vs, rfl, .inl (.inl h1), new_lst rs l1 h⟩
      · cases p1 <;> simp only [b1P] at z2 <;> first | cases z2 | skip
        · cases ba.blI
          exact caW_of call_int1 (.inr ⟨_, rfl, done (.int _)⟩)
        · cases ba.intI
          exact caW_of call_int1 (.inl ⟨_, rfl, done (.int _)⟩)
      · cases p1 <;> simp only [b1P] at z2 <;> first | cases z2 | skip
        split at z2
        · rename_i hb
          cases z2
          cases ba.intI
          exact caW_of call_str_int ⟨_, rfl, hb, done (.str _)⟩
        · cases z2
      · have hz : repP p1 = some p ∧ ∃ a1, v = .ref a1 := by
          cases p1 <;> simp only [b1P] at z2 <;> first | cases z2 | skip
          · obtain ⟨a1, vs, rfl, h1, l1⟩ := ba.tupI
            exact ⟨z2, a1, rfl⟩
          · obtain ⟨a1, vs, rfl, h1, l1⟩ := ba.lstI
            exact ⟨z2, a1, rfl⟩
        obtain ⟨z3, a1, rfl⟩ := hz
        unfold repP at z3
        split at z3
        · rename_i pd hpd
          split at z3
          · rename_i hcond
            cases z3
            obtain ⟨c1, c2, c3⟩ := hcond
            have hdp : L2.Dp X.K H (.ref a1) pd := by
              rw [hK]
              exact ba.dp hpd
            intro pins s σ' us I r
            obtain ⟨u, rfl, ru⟩ := vals1 r
            obtain ⟨as, rd⟩ := L2.Dp.reads I pd _ u hdp ru
            cases ru
            have hnd : pd.hasDict = false := PyData.hasDict_of_canLay pd (P.py_lay p1 pd hpd)
            exact repr_of_reads' rd c1 (PyData.noDict_hsm hnd) hgu.1 (by have := hgu.2; omega) (fun _ _ e => e) (fun h' u tk hk => ⟨.str pd.shown, H, I.kept hk, ⟨u, rfl⟩, done (.str _)⟩) (by rw [sizeL]; exact c3)
          · cases z3
        · cases z3
theorem snd_b1 (hK : X.K = Z.K) (hgu : X.A.guards = some [] ∧ X.A.units + 70 < cLine) {t : B1} {x : Str} (hx : x = Str.ofString t.nm) (hc : X.calm = true ∨ t = .len) (hg : Gl X x) (hm : X.mg x = none) (hs : ∀ y q, a ≠ .Starred y q) (ha : SndE Z X W c Ex a ma) : SndE Z X W c Ex (.Call (.Name x p) [a] [] pos) (eB1 t ma) := by
  subst hx
  intro σd st wd σ H Q rs rg h
  refine we_of (pe_caB t.boot t.knd hg hm (pa_cons pe_w pa_nil (star_cons hs)) t.nn t.nd (star_cons hs) rfl) ?_
  refine ha σd st wd σ H _ rs rg (post_bind h fun x st1 v wd1 H1 e1 rs1 b1 h1 => ?_)
  exact b1_run hK hgu hc rs1 b1 h1
theorem brl_rng {F : Addr → Prop} {H : Hp} (n : Nat) : BrL Z F H (rngL 0 n) (rgV 0 n) := by
  have e : ∀ (m : Nat) (lo : Int), rngL lo m = ((List.range m).map fun i => lo + (i : Nat)).map .int := fun m => by
    induction m with
    | zero => intro lo; rfl
    | succ m ih =>
      intro lo
      rw [List.range_succ_eq_map]
      simp only [rngL, ih, List.map_cons, List.map_map]
      congr 1
      · simp
      · refine List.map_congr_left fun i _ => ?_
        simp
        omega
  have e2 : rgV 0 (n : Nat) = ((List.range n).map fun i => (0 : Int) + (i : Nat)).map .int := by
    unfold rgV
    simp [Function.comp_def]
  have q := BrL.of_ints (Z := Z) (F := F) (H := H) ((List.range n).map fun i => (0 : Int) + (i : Nat))
  rw [e n 0, e2]
  exact q
theorem snd_lrg {p2 q : Pos} (hc : X.calm = true) (hg : Gl X "list") (hm : X.mg "list" = none) (hg2 : Gl X "range") (hm2 : X.mg "range" = none) (hs : ∀ y q, a ≠ .Starred y q) (ha : SndE Z X W c Ex a ma) :
    SndE Z X W c Ex (.Call (.Name "list" p) [.Call (.Name "range" p2) [a] [] q] [] pos) (eLrg ma) := by
  intro σd st wd σ H Q rs rg h
  refine we_of (pe_listRg hc hg hm (prg_1 hg2 hm2 pe_w (star_cons hs)) rfl) ?_
  refine ha σd st wd σ H _ rs rg (post_bind h fun x st1 v wd1 H1 e1 rs1 b1 h1 => ?_)
  unfold lrgD at h1
  split at h1
  · rename_i j
    cases b1
    split at h1
    · rename_i hj
      refine ⟨j, rfl, .of_le (by omega) (by omega) (by omega) hj.1, ?_⟩
      obtain ⟨n, rfl⟩ := Int.eq_ofNat_of_zero_le hj.1
      exact new_lst rs1 (brl_rng n) h1
    · exact h1.elim
  · exact h1.elim
theorem snd_srt (hK : X.K = Z.K) {p2 q : Pos} (hc : X.calm = true) (hg : Gl X "sorted") (hm : X.mg "sorted" = none) (hg2 : Gl X "set") (hm2 : X.mg "set" = none) (hs : ∀ y q, a ≠ .Starred y q) (ha : SndE Z X W c Ex a ma) :
    SndE Z X W c Ex (.Call (.Name "sorted" p) [.Call (.Name "set" p2) [a] [] q] [] pos) (eSrt ma) := by
  intro σd st wd σ H Q rs rg h
  refine we_of (pe_callB (cr_sortedSetA hc) hg hm (by decide +kernel) (pa_cons (pe_callTy (cr_setOfI hc) hg2 hm2 (by decide +kernel) (pa_cons pe_w pa_nil (star_cons hs)) (by decide) (by decide) (star_cons hs) rfl) pa_nil rfl) (by decide) (by decide) rfl rfl) ?_
  refine ha σd st wd σ H _ rs rg (post_bind h fun x st1 v wd1 H1 e1 rs1 b1 h1 => ?_)
  rcases op1_inv _ (rfl : op1 srtP x st1 = _) with z | ⟨p1, p, z1, z2, z⟩
  · rw [z] at h1
    exact h1.elim
  · rw [z] at h1
    have ba := rs1.rd b1 z1
    cases p1 <;> simp only [srtP] at z2 <;> first | cases z2 | skip
    rw [Option.bind_eq_some_iff] at z2
    obtain ⟨ns, z2, z3⟩ := z2
    split at z3
    · rename_i hlen
      cases z3
      obtain ⟨a1, vs, rfl, h2, l1⟩ := ba.lstI
      cases l1.ints z2
      refine ⟨a1, ns, rfl, .inl h2, hlen, fun A hA => ?_⟩
      obtain ⟨rs2, e2⟩ := rs1.new (o := SetO X.w A (memB ns) (usort ns).length) hA (fun ps z => by cases z) false
      refine ⟨A, memB ns, _, rfl, upd_same, hlen, fun ns' p hp hm hl hn => ?_⟩
      obtain rfl : ns' = usort ns := asc_unique hp (usort_asc ns) fun x => by rw [hm, mem_usort]; simp [memB]
      exact new_lst rs2 (BrL.of_ints _) (fun z wd' H' ee rr bb => h1 z wd' H' (e2.trans ee) rr bb) p hn
    · cases z3
/-- list(x) that is to change -/
theorem snd_listM (hK : X.K = Z.K) (hg : Gl X "list") (hm : X.mg "list" = none) (hs : ∀ y q, a ≠ .Starred y q) (ha : SndE Z X W c Ex a ma) : SndE Z X W c Ex (.Call (.Name "list" p) [a] [] pos) (eListM ma) := by
  intro σd st wd σ H Q rs rg h
  refine we_of (pe_callTy call_list_of hg hm (by decide +kernel) (pa_cons pe_w pa_nil (star_cons hs)) (by decide) (by decide) (star_cons hs) rfl) ?_
  refine ha σd st wd σ H _ rs rg (post_bind h fun x st1 v wd1 H1 e1 rs1 b1 h1 => ?_)
  split at h1
  · rename_i xs hx
    obtain ⟨a1, vs, rfl, h2, l1⟩ := (rs1.rd b1 hx).lstI
    exact ⟨a1, vs, rfl, .inl (.inl h2), new_lstM rs1 l1 h1⟩
  · rename_i xs hx
    obtain ⟨a1, vs, rfl, h2, l1⟩ := (rs1.rd b1 hx).tupI
    exact ⟨a1, vs, rfl, .inr (by rw [hK]; exact h2), new_lstM rs1 l1 h1⟩
  · exact h1.elim
def B2.nm : B2 → String
  | .min => "min" | .max => "max"
theorem snd_b2 (hc : X.calm = true) {t : B2} {x : Str} (hx : x = Str.ofString t.nm) (hg : Gl X x) (hm : X.mg x = none) (hs : ∀ y q, a ≠ .Starred y q) (hs' : ∀ y q, b ≠ .Starred y q) (ha : SndE Z X W c Ex a ma) (hb : SndE Z X W c Ex b mb) : SndE Z X W c Ex (.Call (.Name x p) [a, b] [] pos) (eB2 t ma mb) := by
  subst hx
  intro σd st wd σ H Q rs rg h
  have s2 : (backTo pos (starEach [b] X.env)).any (·.1) = false := by rw [star_cons hs'] <;> rfl
  refine we_of (pe_caB (v := .builtin t.nm) (by cases t <;> decide +kernel) (.inl ⟨_, rfl⟩) hg hm (pa_cons pe_w (pa_cons pe_w pa_nil (star_cons hs')) (star_cons hs)) (by cases t <;> decide) (by cases t <;> decide) (star_cons hs) s2) ?_
  refine ha σd st wd σ H _ rs rg (post_bind h fun x st1 v wd1 H1 e1 rs1 b1 h1 => ?_)
  refine hb σd st1 wd1 σ H1 _ rs1 (rg.ext e1) (post_bind h1 fun y st2 u wd2 H2 e2 rs2 b2 h2 => ?_)
  rcases op2_inv (α := True) _ (rfl : op2 (b2P t) x y st2 = _) with z | ⟨p1, p2, p, z1, z2, z3, z⟩
  · rw [z] at h2
    exact h2.elim
  · rw [z] at h2
    have ba := rs2.rd (b1.ext e2) z1
    have bb := rs2.rd b2 z2
    cases t <;> cases p1 <;> simp only [b2P] at z3 <;> first | cases z3 | skip
    · cases p2 <;> simp only [b2P] at z3 <;> first | cases z3 | skip
      cases ba.intI; cases bb.intI
      exact caW_of (call_min2 hc) ⟨_, _, rfl, h2 _ wd2 H2 .refl rs2 (.int _)⟩
    · cases p2 <;> simp only [b2P] at z3 <;> first | cases z3 | skip
      cases ba.intI; cases bb.intI
      exact caW_of (call_max2 hc) ⟨_, _, rfl, h2 _ wd2 H2 .refl rs2 (.int _)⟩
theorem pe_tyName {x : Str} {T : String} (hg : Gl X x) (hm : X.mg x = none) (hv : bootBuiltins x = some (.type T)) (hn : x ≠ "__name__") (hd : (x == ("__debug__" : Str)) = false) : PE X (.Name x pos) (tC (.ty T)) := pe_bltn hg hm hv rfl hn hd
theorem snd_isi (hK : X.K = Z.K) {t : Ty} {x : Str} {pt : Pos} (hx : x = Str.ofString t.s) (hg : Gl X "isinstance") (hm : X.mg "isinstance" = none) (hgt : Gl X x) (hmt : X.mg x = none) (hs : ∀ y q, a ≠ .Starred y q) (ha : SndE Z X W c Ex a ma) :
    SndE Z X W c Ex (.Call (.Name "isinstance" p) [a, .Name x pt] [] pos) (eIsi ma t) := by
  subst hx
  intro σd st wd σ H Q rs rg h
  refine we_of (pe_callB call_isi hg hm (by decide +kernel) (pa_cons pe_w (pa_cons (pe_tyName (T := t.s) hgt hmt (by cases t <;> decide +kernel) (by cases t <;> decide) (by cases t <;> decide)) pa_nil rfl) (star_cons hs)) (by decide) (by decide) (star_cons hs) rfl) ?_
  refine ha σd st wd σ H _ rs rg (post_bind h fun x st1 v wd1 H1 e1 rs1 b1 h1 => ?_)
  rcases op1_inv _ (rfl : op1 (fun p => (isiP p t).map .bl) x st1 = _) with z | ⟨p1, p, z1, z2, z⟩
  · rw [z] at h1
    exact h1.elim
  · rw [z] at h1
    rw [Option.map_eq_some_iff] at z2
    obtain ⟨k, z2, rfl⟩ := z2
    exact isiS hK t wd1 H1 v Q p1 k (rs1.rd b1 z1) z2 (h1 _ wd1 H1 .refl rs1 (.bl _))
end
end EV
end
section
/-! Ev8: methods of lists and dicts, calls of defs. -/
namespace EV
open PySem PySem.Spec PyProof.Rows L2
section
variable {Z : St0} {X : Cx} {W : WX} {c : Cl} {Ex : EXR} {a b d e : Expr} {ma mb md me : ME} {pos p apos cpos : Pos}
/-! ### methods -/
def isCallE : Expr → Bool
  | .Call .. => true
  | _ => false
theorem base_of {o : Expr} (h : isCallE o = false) (m : Str) (env : Env) (w : Sem Value) : attributeBase o m env w = w := by
  cases o <;> first | rfl | cases h
theorem lstNow_inv {x y : D} {s s' : Sto} (r : Res D) (e : lstNow x s = r) : r = .stk ∨ ∃ xs, rd s x = some (.lst xs) ∧ r = .ok x s := by
  subst e
  unfold lstNow
  split
  · rename_i xs h
    exact .inr ⟨xs, h, rfl⟩
  · exact .inl rfl
theorem tyV_lst {wd : Wd} {H : Hp} {st : Sto} {x : D} {v : V} {xs : List P} (rs : RSt Z wd H st) (b : BrD Z wd H x v) (h : rd st x = some (.lst xs)) : tyV X.K "list" v H := by
  obtain ⟨a1, vs, rfl, h2, l1⟩ := (rs.rd b h).lstI
  exact .inl ⟨rfl, vs, .inl h2⟩
theorem OR.lstI {F : Addr → Prop} {H : Hp} {a : Addr} {xs : List P} (h : OR Z F H a (.lst xs)) : ∃ vs, H a = some (.lst vs) ∧ BrL Z F H xs vs ∧ ¬ F a := h
theorem lst_ne {F : Addr → Prop} {vs : List V} : (∀ φ, some (HO.lst vs) ≠ some (HO.ext φ)) := fun φ z => by cases z
theorem RSt.putL {wd : Wd} {H : Hp} {st : Sto} {l : Nat} {a : Addr} {xs ys : List P} {vs us : List V} (r : RSt Z wd H st) (hl : st[l]? = some (.lst xs)) (ha : wd.ρ[l]? = some a) (hH : H a = some (.lst vs)) (hF : ¬ wd.F a) (bl : BrL Z wd.F H ys us) :
    RSt Z wd (upd H a (.lst us)) (st.set l (.lst ys)) ∧ XT wd H wd (upd H a (.lst us)) :=
  r.put ha ⟨_, hl, fun z => by cases z⟩ (by rw [hH]; trivial) (by rw [hH]; exact fun φ z => by cases z) hF (fun z => by cases z) fun e => ⟨us, upd_same, BrL.ext e _ _ bl, hF⟩
theorem app_run {wd : Wd} {H : Hp} {st : Sto} {dx dy : D} {x y : V} {Q : VK} {σ : L2.St} (rs : RSt Z wd H st) (bx : BrD Z wd H dx x) (bY : BrD Z wd H dy y) (h : Post Z (RD Z) W σ wd H Q (appD dx dy st)) : rAppend x [y] H Q := by
  unfold appD at h
  split at h
  · rename_i l v s1 hz
    obtain ⟨a, rfl, ha⟩ := bx
    obtain ⟨wd1, rs1, e1, bv⟩ := rs.frz bY hz
    split at h
    · rename_i xs hxs
      split at h
      · rename_i hl
        have ha1 := e1.get ha
        obtain ⟨vs, h1, l1, nf⟩ := rs1.obj l a _ ha1 hxs
        refine ⟨a, vs, y, rfl, rfl, h1, by rw [sizeL, ← l1.length]; exact hl, ?_⟩
        obtain ⟨rs2, e2⟩ := rs1.putL hxs ha1 h1 nf (BrL.append l1 (.cons bv .nil))
        exact h _ wd1 _ (e1.trans e2) rs2 .non
      · exact h.elim
    · exact h.elim
  · exact h.elim
theorem snd_app (ho : isCallE a = false) (hs : ∀ y q, e ≠ .Starred y q) (hl : (apos.endLine == cpos.line) = true) (ha : SndE Z X W c Ex a ma) (he : SndE Z X W c Ex e me) : SndE Z X W c Ex (.Call (.Attribute a "append" apos) [e] [] cpos) (eApp ma me) := by
  intro σd st wd σ H Q rs rg h
  refine we_of (pe_bm PySem.F.plainAttrs_list PySem.F.slot_list_append PySem.F.type_list_append (fun pins s σ H x xs v us Q I r rv q => mt_append pins s σ H x xs v us Q I r rv q) pe_w (pa_cons pe_w pa_nil (star_cons hs)) (base_of ho _ _ _) (by rw [star_cons hs] <;> rfl) hl (star_cons hs) rfl) ?_
  refine ha σd st wd σ H _ rs rg (post_bind h fun x st1 v wd1 H1 e1 rs1 b1 h1 => ?_)
  unfold Mo.bind at h1
  rcases lstNow_inv (y := x) (s := st1) (s' := st1) _ (rfl : lstNow x st1 = _) with z | ⟨xs, z1, z⟩
  · rw [z] at h1
    exact h1.elim
  · rw [z] at h1
    refine ⟨tyV_lst rs1 b1 z1, ?_⟩
    refine he σd st1 wd1 σ H1 _ rs1 (rg.ext e1) (post_bind h1 fun y st2 u wd2 H2 e2 rs2 b2 h2 => ?_)
    exact app_run rs2 (b1.ext e2) b2 h2
/-- xs.extend(ys), ys any list -/
def rExtG (K : PySem.W.Frag) : V → List V → Hp → VK → Prop := fun x vs H Q => ∃ l b xs zs, x = .ref l ∧ vs = [.ref b] ∧ H l = some (.lst xs) ∧ Rd H b (.lst zs) ∧ xs.length + zs.length ≤ sizeLine ∧ Q .non (upd H l (.lst (xs ++ zs)))
theorem mt_extG {X : Cx} : MtM X "list.extend" (rExtG X.K) := by
  intro pins s σ H x vs v us Q I rx rv h
  obtain ⟨l, b, xs, zs, rfl, rfl, h1, h2, hz, q⟩ := h
  cases rx
  obtain ⟨u, rfl, ru⟩ := rv.one
  cases ru
  obtain ⟨_, its, n, r, e1, ea⟩ := I.lstM h1
  obtain ⟨_, its2, n2, r2, eb⟩ := h2.ok I.hok
  have e2 := r2.length
  have t1 : its.toArray.size + its2.toArray.size ≤ sizeLine := by
    simp only [List.size_toArray]
    omega
  have t2 : ¬ (!its.toArray.isEmpty && Builtin.List.listTooLong (its.toArray.size + its2.toArray.size)) = true := by
    rw [notLongL t1, Bool.and_false]
    simp
  refine call_meets F.slot_list_extend ⟨_, ea, rfl⟩ F.entry_list_extend (F.args_list_extend_2 _ _) (AutoSeq1.list_extend_list_list_0 l its.toArray n b its2.toArray n2 t2 (by omega) (by omega)) ⟨ea, eb, .non, _, ?_, rfl, q⟩
  refine I.lset (its' := its ++ its2) h1 ea (by simp) (r.append r2) ?_
  rw [List.length_append]
  exact hz
theorem ext_run {wd : Wd} {H : Hp} {st : Sto} {dx dy : D} {x y : V} {Q : VK} {σ : L2.St} (rs : RSt Z wd H st) (bx : BrD Z wd H dx x) (bY : BrD Z wd H dy y) (h : Post Z (RD Z) W σ wd H Q (extD dx dy st)) : rExtG X.K x [y] H Q := by
  unfold extD at h
  split at h
  · rename_i l zs hz
    obtain ⟨a, rfl, ha⟩ := bx
    obtain ⟨b1, us, rfl, h2, l2⟩ := (rs.rd bY hz).lstI
    split at h
    · rename_i xs hxs
      split at h
      · rename_i hl
        obtain ⟨vs, h1, l1, nf⟩ := rs.obj l a _ ha hxs
        refine ⟨a, b1, vs, us, rfl, rfl, h1, h2, by rw [sizeL, ← l1.length, ← l2.length]; exact hl, ?_⟩
        obtain ⟨rs2, e2⟩ := rs.putL hxs ha h1 nf (BrL.append l1 l2)
        exact h _ wd _ e2 rs2 .non
      · exact h.elim
    · exact h.elim
  · exact h.elim
theorem snd_ext (ho : isCallE a = false) (hs : ∀ y q, e ≠ .Starred y q) (hl : (apos.endLine == cpos.line) = true) (ha : SndE Z X W c Ex a ma) (he : SndE Z X W c Ex e me) : SndE Z X W c Ex (.Call (.Attribute a "extend" apos) [e] [] cpos) (eExt ma me) := by
  intro σd st wd σ H Q rs rg h
  refine we_of (pe_bm PySem.F.plainAttrs_list PySem.F.slot_list_extend PySem.F.type_list_extend (fun pins s σ H x xs v us Q I r rv q => mt_extG (X := X) pins s σ H x xs v us Q I r rv q) pe_w (pa_cons pe_w pa_nil (star_cons hs)) (base_of ho _ _ _) (by rw [star_cons hs] <;> rfl) hl (star_cons hs) rfl) ?_
  refine ha σd st wd σ H _ rs rg (post_bind h fun x st1 v wd1 H1 e1 rs1 b1 h1 => ?_)
  unfold Mo.bind at h1
  rcases lstNow_inv (y := x) (s := st1) (s' := st1) _ (rfl : lstNow x st1 = _) with z | ⟨xs, z1, z⟩
  · rw [z] at h1
    exact h1.elim
  · rw [z] at h1
    refine ⟨tyV_lst rs1 b1 z1, ?_⟩
    refine he σd st1 wd1 σ H1 _ rs1 (rg.ext e1) (post_bind h1 fun y st2 u wd2 H2 e2 rs2 b2 h2 => ?_)
    exact ext_run (X := X) rs2 (b1.ext e2) b2 h2
theorem popAt_run {wd : Wd} {H : Hp} {st : Sto} {dx dy : D} {x y : V} {Q : VK} {σ : L2.St} (rs : RSt Z wd H st) (bx : BrD Z wd H dx x) (bY : BrD Z wd H dy y) (h : Post Z (RD Z) W σ wd H Q (popAtD dx dy st)) : rPopAt x [y] H Q := by
  unfold popAtD at h
  split at h
  · rename_i l i
    obtain ⟨a, rfl, ha⟩ := bx
    cases bY
    split at h
    · rename_i xs hxs
      split at h
      · rename_i j hj
        split at h
        · rename_i v hv
          split at h
          · rename_i hb
            obtain ⟨vs, h1, l1, nf⟩ := rs.obj l a _ ha hxs
            obtain ⟨u, hu, bu⟩ := l1.get hv
            rw [l1.length] at hj
            refine ⟨a, vs, i, j, u, rfl, rfl, h1, hb.1, hb.2, (ixN_seq hj).1, hu, ?_⟩
            obtain ⟨rs2, e2⟩ := rs.putL hxs ha h1 nf (BrL.erase j l1)
            exact h _ wd _ e2 rs2 (Br.ext e2.ext _ _ bu)
          · exact h.elim
        · exact h.elim
      · exact h.elim
    · exact h.elim
  · exact h.elim
theorem snd_popAt (ho : isCallE a = false) (hs : ∀ y q, e ≠ .Starred y q) (hl : (apos.endLine == cpos.line) = true) (ha : SndE Z X W c Ex a ma) (he : SndE Z X W c Ex e me) : SndE Z X W c Ex (.Call (.Attribute a "pop" apos) [e] [] cpos) (ePopAt ma me) := by
  intro σd st wd σ H Q rs rg h
  refine we_of (pe_bm PySem.F.plainAttrs_list PySem.F.slot_list_pop PySem.F.type_list_pop (fun pins s σ H x xs v us Q I r rv q => mt_popAt pins s σ H x xs v us Q I r rv q) pe_w (pa_cons pe_w pa_nil (star_cons hs)) (base_of ho _ _ _) (by rw [star_cons hs] <;> rfl) hl (star_cons hs) rfl) ?_
  refine ha σd st wd σ H _ rs rg (post_bind h fun x st1 v wd1 H1 e1 rs1 b1 h1 => ?_)
  unfold Mo.bind at h1
  rcases lstNow_inv (y := x) (s := st1) (s' := st1) _ (rfl : lstNow x st1 = _) with z | ⟨xs, z1, z⟩
  · rw [z] at h1
    exact h1.elim
  · rw [z] at h1
    refine ⟨tyV_lst rs1 b1 z1, ?_⟩
    refine he σd st1 wd1 σ H1 _ rs1 (rg.ext e1) (post_bind h1 fun y st2 u wd2 H2 e2 rs2 b2 h2 => ?_)
    exact popAt_run rs2 (b1.ext e2) b2 h2
theorem snd_pop (ho : isCallE a = false) (hl : (apos.endLine == cpos.line) = true) (ha : SndE Z X W c Ex a ma) : SndE Z X W c Ex (.Call (.Attribute a "pop" apos) [] [] cpos) (ePop ma) := by
  intro σd st wd σ H Q rs rg h
  refine we_of (pe_bm0 PySem.F.plainAttrs_list PySem.F.slot_list_pop PySem.F.type_list_pop (fun pins s σ H x xs v us Q I r rv q => mt_pop pins s σ H x xs v us Q I r rv q) pe_w (base_of ho _ _ _) hl) ?_
  refine ha σd st wd σ H _ rs rg (post_bind h fun x st1 v wd1 H1 e1 rs1 b1 h1 => ?_)
  unfold popD at h1
  split at h1
  · rename_i l
    split at h1
    · rename_i xs hxs
      split at h1
      · rename_i u hu
        obtain ⟨a1, rfl, ha1⟩ := b1
        obtain ⟨vs, h2, l1, nf⟩ := rs1.obj l a1 _ ha1 hxs
        obtain ⟨w, hw, bw⟩ := l1.get hu
        refine ⟨.inl ⟨rfl, vs, .inl (.inl h2)⟩, a1, vs, w, rfl, rfl, h2, by rw [← l1.length]; exact hw, ?_⟩
        obtain ⟨rs2, e2⟩ := rs1.putL hxs ha1 h2 nf (BrL.dropLast l1)
        exact h1 _ wd1 _ e2 rs2 (Br.ext e2.ext _ _ bw)
      · exact h1.elim
    · exact h1.elim
  · exact h1.elim
/-! xs.count(b), xs.index(b) of truth values -/
theorem flat_bls : ∀ bs : List Bool, (bs.map V.bl).all flatV = true
  | [] => rfl
  | b :: bs => by simp [flatV, flat_bls bs]
theorem mem_bls {bs : List Bool} {us : List Value} (r : Vals (bs.map V.bl) us) : us = bs.map Value.bool := Vals.bls r
theorem count_bls (k : Bool) : ∀ bs : List Bool, (bs.map Value.bool).countP (eqU (.bl k)) = bs.count k
  | [] => rfl
  | b :: bs => by
    rw [List.map_cons, List.countP_cons, List.count_cons, count_bls k bs]
    rfl
def rCntB (K : PySem.W.Frag) : V → List V → Hp → VK → Prop := fun x xs H Q => ∃ (p : Addr) (bs : List Bool) (k : Bool), x = .ref p ∧ xs = [.bl k] ∧ SqL K H p (bs.map V.bl) ∧ Q (.int (bs.count k : Nat)) H
theorem mt_bcount : MtR X "list.count" (rCntB X.K) := by
  intro pins s σ H x xs v us Q I rx rxs h
  obtain ⟨p, bs, k, rfl, rfl, hs, q⟩ := h
  cases rx
  obtain ⟨u, rfl, ru⟩ := rxs.one
  obtain ⟨its, rv, ⟨⟨cls, dd, data, sl⟩, n, ho, hc, hdn, hd⟩, hlen⟩ := I.list hs
  simp only at hc hd
  subst hc hd
  refine call_meets PySem.F.slot_list_count ⟨_, ho, rfl⟩ PySem.F.entry_list_count (PySem.F.args_list_count_2 _ _)
    (SeqAt.list_countAt p its.toArray n dd sl u (eqU (.bl k))) ⟨ho, fun y hy => mem_eqAt ru rfl rv (flat_bls bs) y (by simpa using hy), ?_⟩
  have ec : its.toArray.toList.countP (eqU (.bl k)) = bs.count k := by
    cases mem_bls rv
    exact count_bls k bs
  refine ⟨.int (bs.count k : Nat), H, I.tok _, ⟨s.toks, ?_⟩, q⟩
  show Value.int ((its.toArray.toList.countP (eqU (.bl k)) : Nat) : Int) s.toks = Value.int ((bs.count k : Nat) : Int) s.toks
  rw [ec]
theorem snd_lm {f : P → P → Option P} {nm : Str} {id : String} {r : V → List V → Hp → VK → Prop} (slot : Slot "list" nm id) (hty : typeOf (.builtin id) = pure (.type "method_descriptor")) (hm : MtR X id r)
    (hr : ∀ (wd : Wd) (H : Hp) (st : Sto) (x y : V) (Q : VK) (a b p : P), RSt Z wd H st → BrT Z wd.F H a x → BrT Z wd.F H b y → f a b = some p → (∀ z, Br Z wd.F H p z → Q z H) → r x [y] H Q)
    (ho : isCallE a = false) (hs : ∀ y q, e ≠ .Starred y q) (hl : (apos.endLine == cpos.line) = true) (ha : SndE Z X W c Ex a ma) (he : SndE Z X W c Ex e me) : SndE Z X W c Ex (.Call (.Attribute a nm apos) [e] [] cpos) (eLm f ma me) := by
  intro σd st wd σ H Q rs rg h
  refine we_of (pe_bm PySem.F.plainAttrs_list slot hty hm pe_w (pa_cons pe_w pa_nil (star_cons hs)) (base_of ho _ _ _) (by rw [star_cons hs] <;> rfl) hl (star_cons hs) rfl) ?_
  refine ha σd st wd σ H _ rs rg (post_bind h fun x st1 v wd1 H1 e1 rs1 b1 h1 => ?_)
  unfold Mo.bind at h1
  rcases lstNow_inv (y := x) (s := st1) (s' := st1) _ (rfl : lstNow x st1 = _) with z | ⟨xs, z1, z⟩
  · rw [z] at h1
    exact h1.elim
  · rw [z] at h1
    refine ⟨tyV_lst rs1 b1 z1, ?_⟩
    refine he σd st1 wd1 σ H1 _ rs1 (rg.ext e1) (post_bind h1 fun y st2 u wd2 H2 e2 rs2 b2 h2 => ?_)
    rcases op2_inv (α := True) _ (rfl : op2 f x y st2 = _) with z | ⟨p1, p2, p, z1, z2, z3, z⟩
    · rw [z] at h2
      exact h2.elim
    · rw [z] at h2
      exact hr wd2 H2 st2 _ _ Q p1 p2 p rs2 (rs2.rd (b1.ext e2) z1) (rs2.rd b2 z2) z3 fun z b => h2 z wd2 H2 .refl rs2 b
theorem snd_cnt (ho : isCallE a = false) (hs : ∀ y q, e ≠ .Starred y q) (hl : (apos.endLine == cpos.line) = true) (ha : SndE Z X W c Ex a ma) (he : SndE Z X W c Ex e me) : SndE Z X W c Ex (.Call (.Attribute a "count" apos) [e] [] cpos) (eLm cntP ma me) :=
  snd_lm PySem.F.slot_list_count PySem.F.type_list_count mt_bcount (fun wd H st x y Q a b p rs ba bb e k => by
    cases a <;> cases b <;> simp only [cntP] at e <;> first | cases e | skip
    rw [Option.map_eq_some_iff] at e
    obtain ⟨bs, e, rfl⟩ := e
    obtain ⟨a1, vs, rfl, h2, l1⟩ := ba.lstI
    cases bb.blI
    cases l1.bls e
    exact ⟨a1, bs, _, rfl, rfl, .inl h2, k _ (.int _)⟩) ho hs hl ha he
theorem idxB_spec {b : Bool} : ∀ {bs : List Bool} {k i : Nat}, idxB b k bs = some i → ∃ j, i = k + j ∧ bs[j]? = some b ∧ ∀ m, m < j → bs[m]? ≠ some b
  | [], _, _, h => by cases h
  | x :: r, k, i, h => by
    simp only [idxB] at h
    split at h
    · rename_i hx
      cases h
      subst hx
      exact ⟨0, rfl, rfl, fun m hm => absurd hm (Nat.not_lt_zero _)⟩
    · rename_i hx
      obtain ⟨j, e1, e2, e3⟩ := idxB_spec h
      refine ⟨j + 1, by omega, by simpa using e2, fun m hm => ?_⟩
      cases m with
      | zero => simpa using hx
      | succ m =>
        have := e3 m (by omega)
        simpa using this
theorem snd_idx (ho : isCallE a = false) (hs : ∀ y q, e ≠ .Starred y q) (hl : (apos.endLine == cpos.line) = true) (ha : SndE Z X W c Ex a ma) (he : SndE Z X W c Ex e me) : SndE Z X W c Ex (.Call (.Attribute a "index" apos) [e] [] cpos) (eLm ndxP ma me) :=
  snd_lm PySem.F.slot_list_index PySem.F.type_list_index mt_index (fun wd H st x y Q a b p rs ba bb e k => by
    cases a <;> cases b <;> simp only [ndxP] at e <;> first | cases e | skip
    rw [Option.map_eq_some_iff] at e
    obtain ⟨i, e, rfl⟩ := e
    rw [Option.bind_eq_some_iff] at e
    obtain ⟨bs, e, e2⟩ := e
    obtain ⟨a1, vs, rfl, h2, l1⟩ := ba.lstI
    cases bb.blI
    cases l1.bls e
    obtain ⟨j, ej, hj, hno⟩ := idxB_spec e2
    rw [Nat.zero_add] at ej
    subst ej
    rename_i b
    refine ⟨a1, _, .bl b, i, .bl b, rfl, rfl, .inl h2, rfl, flat_bls bs, by rw [List.getElem?_map, hj] <;> rfl, by simp [eqV], fun m z hm hz => ?_, k _ (.int _)⟩
    rw [List.getElem?_map, Option.map_eq_some_iff] at hz
    obtain ⟨b', hb', rfl⟩ := hz
    have := hno m hm
    rw [hb'] at this
    simpa [eqV] using this) ho hs hl ha he
theorem snd_dget2 (hu : X.A.units + 70 < cLine) {f : Expr} {mf : ME} (ho : isCallE a = false) (hs : ∀ y q, e ≠ .Starred y q) (hs' : ∀ y q, f ≠ .Starred y q) (hl : (apos.endLine == cpos.line) = true) (ha : SndE Z X W c Ex a ma) (he : SndE Z X W c Ex e me) (hf : SndE Z X W c Ex f mf) :
    SndE Z X W c Ex (.Call (.Attribute a "get" apos) [e, f] [] cpos) (eDget2 ma me mf) := by
  intro σd st wd σ H Q rs rg h
  have tr : backTo cpos (starEach [e, f] X.env) = [(false, eval e X.env), (false, eval f X.env)] := by rw [star_cons hs, star_cons hs'] <;> rfl
  refine we_of (pe_dget2 (by omega) pe_w pe_w pe_w ⟨base_of ho _ _ _, by rw [tr] <;> rfl, hl, tr⟩) ?_
  refine ha σd st wd σ H _ rs rg (post_bind h fun x st1 v wd1 H1 e1 rs1 b1 h1 => ?_)
  unfold Mo.bind dctNow at h1
  split at h1
  · rename_i x1 kvs0 hk0
    obtain ⟨l0, ad, ks, rfl, hst0, had, rfl, hH, bk, _⟩ := rs1.dctOf b1 hk0
    refine ⟨ad, rfl, .inl ⟨ks, .inl hH⟩, ?_⟩
    refine he σd st1 wd1 σ H1 _ rs1 (rg.ext e1) (post_bind h1 fun y st2 u wd2 H2 e2 rs2 b2 h2 => ?_)
    refine hf σd st2 wd2 σ H2 _ rs2 ((rg.ext e1).ext e2) (post_bind h2 fun z st3 w wd3 H3 e3 rs3 b3 h3 => ?_)
    unfold get2D at h3
    split at h3
    · rename_i kvs k w' hk hj
      obtain ⟨l, ad', ks', el, hst, had', ea, hH', bk', _⟩ := rs3.dctOf (Z := Z) ((b1.ext e2).ext e3) hk
      cases ea
      cases keyD_kV (b2.ext e3) hj
      refine ⟨_, DGet.k hH', ?_⟩
      have hv := BrK.get (k := k) bk'
      split at hv
      · rename_i q hq
        obtain ⟨v', g1, g2⟩ := hv
        rw [g1]
        rw [hq] at h3
        exact h3 _ wd3 H3 .refl rs3 g2
      · rename_i hq
        rw [hv]
        rw [hq] at h3
        exact h3 _ wd3 H3 .refl rs3 b3
    · exact h3.elim
  · exact h1.elim

/-! ### calls of defs -/
def spC (Z : St0) (C : Call) (f np : Nat) : Sp := fun vs H Q E => vs.length = np ∧ ∃ ds st wd, RSt Z wd H st ∧ BrDL Z wd H ds vs ∧ Post Z (RD Z) (fun cls dx _ H' => E cls dx H') [] wd H Q (C f ds st)
/-- the number of arguments is the def's -/
def okN (C : Call) (f np : Nat) : Prop := ∀ ds st, ds.length ≠ np → C f ds st = .stk
/-- room, and nothing's text under way -/
structure RoomG (k : Nat) (A : Around) : Prop where
  rm : Room k A
  gu : A.guards = some []
/-- a def's promise where nothing's text is under way -/
structure FnG (P : Program) (w : World) (K : PySem.W.Frag) (mg : Str → Option Value) (base : Heap) (cxt : CXT) (k : Nat) (f : Addr) (fd : FuncData) (ps : List Str) (sp : Sp) : Prop where
  np : ∀ vs H Q E, sp vs H Q E → vs.length = ps.length
  go : ∀ (A : Around) (fr : List Env) (s : Shared) (H : Hp) (ar : Args) (us : List Value) (vs : List V) (Q : VK) (E : XK), RoomG k A → Env0 P w K mg base A fr s H → BindsTo s fd ar (ps.zip us) → Vals vs us →
    sp vs H Q E → codeAny (model P w) A (.call (.ref f) ar) (CR cxt fr P w H s Q E) s
theorem RoomG.mono {j k : Nat} {A : Around} (r : RoomG k A) (h : j ≤ k) : RoomG j A := ⟨r.rm.mono h, r.gu⟩
theorem FnG.mono {P : Program} {w : World} {K : PySem.W.Frag} {mg : Str → Option Value} {base : Heap} {cxt : CXT} {j k : Nat} {f : Addr} {fd : FuncData} {ps : List Str} {sp : Sp} (F : FnG P w K mg base cxt j f fd ps sp) (h : j ≤ k) : FnG P w K mg base cxt k f fd ps sp where
  np := F.np
  go := fun A fr s H ar us vs Q E hr => F.go A fr s H ar us vs Q E (hr.mono h)
theorem run_fnG {cxt : CXT} {k : Nat} {f : Addr} {fd : FuncData} {ps : List Str} {sp : Sp} {EE : L2.St → XK} {pins : List (Addr × Obj)} {σ : L2.St} {H : Hp} {s : Shared} {Q : VK} {us : List Value} {vs : List V} (F : FnG X.prog X.w X.K X.mg X.base cxt k f fd ps sp) (hr : RoomG k X.A)
    (hb : Binds X.K fd ps []) (hx : PassesAt cxt X σ (EE σ)) (I : Inv X pins σ H s) (rv : Vals vs us) (h : sp vs H Q (EE σ)) : wpAny (model X.prog X.w) X.A (call (.ref f) us) (EP X pins σ Q) X.xe s := by
  have n1 : us.length = ps.length := by
    rw [← rv.length]
    exact F.np _ _ _ _ h
  have bd : BindsTo s fd ⟨us, []⟩ (ps.zip us) := by
    have q := hb s us I.kIn (by simpa using n1)
    simpa using q
  refine wpAny_call (codeAny_mono (F.go _ _ _ _ _ us vs Q (EE σ) hr I.env0 bd rv h) fun z sz hz => ?_)
  match z, hz with
  | .error e, hz => exact hx pins H s e sz I hz
  | .ok (.ret u), hz => exact I.after hz
  | .ok .next, hz => exact (show False from hz).elim
  | .ok .brk, hz => exact (show False from hz).elim
  | .ok .cont, hz => exact (show False from hz).elim
theorem pe_callG {cxt : CXT} {k : Nat} {f : Addr} {fd : FuncData} {ps : List Str} {sp : Sp} {EE : L2.St → XK} {x : Str} {es : List Expr} {t : TA} (F : FnG X.prog X.w X.K X.mg X.base cxt k f fd ps sp) (hr : RoomG k X.A) (hg : Gl X x) (hm : X.mg x = some (.ref f))
    (hk : PySem.W.keepIn X.K (.ref f) = true) (hb : Binds X.K fd ps []) (hx : ∀ σ, PassesAt cxt X σ (EE σ)) (ha : PA X (e :: es) t) (hdb : (x == ("__debug__" : Str)) = false) (he : starEach (e :: es) X.env = (false, eval e X.env) :: starEach es X.env)
    (hpl : (backTo pos (starEach es X.env)).any (·.1) = false) : PE X (.Call (.Name x p) (e :: es) [] pos) (tCallS sp EE t) := by
  constructor
  intro pins s σ H Q I h
  refine wpAny_Call_Name_kw (ld_glob I hg hm ?_ hdb)
  exact PySem.W.callWith_K (h₀ := X.base) I.ok.mod.kin hk (thn (ha.run pos pins s σ H _ I h) fun us s1 ⟨vs, H1, I1, r, q⟩ => And.intro I1.kIn (run_fnG F hr hb (hx σ) I1 r q)) he hpl
structure Callee (Z : St0) (X : Cx) (C : Call) (f : Nat) (fa : Addr) : Prop where
  ex : ∃ (fd : FuncData) (ps : List Str) (k : Nat), FnG X.prog X.w X.K X.mg X.base (L2.CX X.prog X.w) k fa fd ps (spC Z C f ps.length) ∧ RoomG k X.A ∧ PySem.W.keepIn X.K (.ref fa) = true ∧ Binds X.K fd ps [] ∧ Z.G f = some fa ∧ okN C f ps.length
theorem post_E {α β : Type} {R : Wd → Hp → α → β → Prop} {σ σ' : L2.St} {wd : Wd} {H : Hp} {Q : β → Hp → Prop} {r : Res α} (h : Post Z R W σ wd H Q r) : Post Z R (fun cls dx _ H' => W cls dx σ H') σ' wd H Q r := by
  cases r with
  | ok a st => exact h
  | exn k a st => exact h
  | stk => exact h
theorem spC_of {C : Call} {f np : Nat} {ds : List D} {vs : List V} {st : Sto} {wd : Wd} {H : Hp} {Q : VK} {σ : L2.St} (hl : vs.length = np) (rs : RSt Z wd H st) (bs : BrDL Z wd H ds vs) (h : Post Z (RD Z) W σ wd H Q (C f ds st)) : spC Z C f np vs H Q (L2.WE W σ) :=
  ⟨hl, ds, st, wd, rs, bs, post_E h⟩
theorem snd_call (tk : Takes X W) {f : Nat} {fa : Addr} {x : Str} {es : List Expr} {mr : MA} (F : Callee Z X c.C f fa) (hg : Gl X x) (hm : X.mg x = some (.ref fa)) (hd : (x == ("__debug__" : Str)) = false) (hs : ∀ y q, e ≠ .Starred y q) (hpl : (backTo pos (starEach es X.env)).any (·.1) = false)
    (ha : SndA Z X W c Ex (e :: es) mr) : SndE Z X W c Ex (.Call (.Name x p) (e :: es) [] pos) (eCall f mr) := by
  intro σd st wd σ H Q rs rg h
  obtain ⟨fd, ps, k, Fo, hr, hk, hb, _, hn⟩ := F.ex
  refine we_of (pe_callG (EE := L2.WE W) Fo hr hg hm hk hb (fun σ => passAt tk σ) pa_w hd (star_cons hs) hpl) ?_
  refine ha σd st wd σ H _ rs rg (post_bind h fun ds st1 vs wd1 H1 e1 rs1 b1 h1 => ?_)
  by_cases hl : ds.length = ps.length
  · exact spC_of (by rw [← b1.length]; exact hl) rs1 b1 h1
  · rw [hn ds st1 hl] at h1
    exact h1.elim
theorem snd_call0 (tk : Takes X W) {f : Nat} {fa : Addr} {x : Str} (F : Callee Z X c.C f fa) (hg : Gl X x) (hm : X.mg x = some (.ref fa)) (hd : (x == ("__debug__" : Str)) = false) : SndE Z X W c Ex (.Call (.Name x p) [] [] pos) (eCall f aNil) := by
  intro σd st wd σ H Q rs rg h pins s I
  obtain ⟨fd, ps, k, Fo, hr, hk, hb, _, hn⟩ := F.ex
  refine wpAny_Call_Name_kw (ld_glob I hg hm ?_ hd)
  refine PySem.W.callWith_K0 I.kIn hk (run_fnG (us := []) (EE := L2.WE W) Fo hr hb (passAt tk σ) I .nil ?_)
  by_cases hl : ps.length = 0
  · exact spC_of (by simp [hl]) rs .nil h
  · have z : c.C f [] st = .stk := hn [] st (by simpa using fun e => hl e.symm)
    have h' : Post Z (RD Z) W σ wd H Q (c.C f [] st) := h
    rw [z] at h'
    exact h'.elim
/-- a def held by a name -/
theorem snd_callV (tk : Takes X W) {i : Nat} {x : Str} {es : List Expr} {mr : MA} (F : ∀ f fa, Z.G f = some fa → Callee Z X c.C f fa)
    (hN : X.N[i]? = some x) (hv : Vis X.env.scope x) (hd : (x == ("__debug__" : Str)) = false) (hcd : (x == ("__classdict__" : Str)) = false) (hs : ∀ y q, e ≠ .Starred y q) (hpl : (backTo pos (starEach es X.env)).any (·.1) = false)
    (ha : SndA Z X W c Ex (e :: es) mr) : SndE Z X W c Ex (.Call (.Name x p) (e :: es) [] pos) (eCallV i mr) := by
  intro σd st wd σ H Q rs rg h
  have key : (∃ f, σd[i]? = some (some (.p (.fn f))) ∧ Post Z (RD Z) W σ wd H Q (((mr c σd).bind fun ds => c.C f ds) st)) := by
    cases hy : σd[i]? with
    | none =>
      simp only [eCallV, hy] at h
      exact h.elim
    | some o =>
      cases o with
      | none =>
        simp only [eCallV, hy] at h
        exact h.elim
      | some y =>
        cases y with
        | p x =>
          cases x with
          | fn f =>
            simp only [eCallV, hy] at h
            exact ⟨f, rfl, h⟩
          | _ =>
            simp only [eCallV, hy] at h
            exact h.elim
        | _ =>
          simp only [eCallV, hy] at h
          exact h.elim
  clear h
  obtain ⟨f, hf, h⟩ := key
  obtain ⟨v, h1, h2⟩ := rg.at_ i _ hf
  cases h2 with
  | fn hG =>
    rename_i fa
    obtain ⟨fd, ps, k, Fo, hr, hk, hb, _, hn⟩ := (F f fa hG).ex
    intro pins s I
    refine wpAny_Call_Name_kw (thn ((pe_var (pos := p) hN hv hd hcd).run pins s σ H (fun v H1 => v = .ref fa ∧ H1 = H) I ⟨.ref fa, h1, rfl, rfl⟩) fun u s1 ⟨v, H1, I1, r1, q1⟩ => ?_)
    obtain ⟨rfl, rfl⟩ := q1
    cases r1
    have ht : WA X (e :: es) σ H1 (fun vs H2 => spC Z c.C f ps.length vs H2 Q (L2.WE W σ)) := by
      refine ha σd st wd σ H1 _ rs rg (post_bind h fun ds st1 vs wd1 H2 e1 rs1 b1 h1 => ?_)
      by_cases hl : ds.length = ps.length
      · exact spC_of (by rw [← b1.length]; exact hl) rs1 b1 h1
      · rw [hn ds st1 hl] at h1
        exact h1.elim
    refine PySem.W.callWith_K (h₀ := X.base) I1.ok.mod.kin hk (thn (pa_w.run pos pins s1 σ _ _ I1 ht) fun us s2 ⟨vs, H2, I2, r, q⟩ => ⟨I2.kIn, ?_⟩) (star_cons hs) hpl
    exact run_fnG (EE := L2.WE W) Fo hr hb (passAt tk σ) I2 r q
end
end EV
end
section
/-! Ev9: tests, targets, what is walked, comprehensions. -/
namespace EV
open PySem PySem.Spec PyProof.Rows L2
section
variable {Z : St0} {X : Cx} {W : WX} {c : Cl} {Ex : EXR} {a b d e : Expr} {ma mb md me : ME} {ta tb : MT} {pos p apos cpos : Pos}
theorem Post.imp {α β : Type} {R : Wd → Hp → α → β → Prop} {W' : WX} {σ : L2.St} {wd : Wd} {H : Hp} {Q Q' : β → Hp → Prop} {r : Res α} (h : Post Z R W σ wd H Q r) (hw : ∀ c d s H, W c d s H → W' c d s H) (hq : ∀ b H, Q b H → Q' b H) : Post Z R W' σ wd H Q' r := by
  cases r with
  | ok a st => exact fun b wd' H' e rs rb => hq _ _ (h b wd' H' e rs rb)
  | exn k a st => exact fun cls dx wd' H' e rs rb => hw _ _ _ _ (h cls dx wd' H' e rs rb)
  | stk => exact h

/-! ### tests -/
theorem truV_of {K : PySem.W.Frag} (hK : K = Z.K) {F : Addr → Prop} {H : Hp} {p : P} {x : V} {k : Bool} (b : BrT Z F H p x) (e : truP p = some k) : TruV K x H k := by
  cases p <;> simp only [truP] at e <;> first | cases e | skip
  · cases b.nonI; rfl
  · cases b.blI; rfl
  · cases b.intI; rfl
  · split at e
    · rename_i z hl
      cases e
      cases b.strI
      exact ⟨by rw [sizeL]; exact hl, rfl⟩
    · cases e
  · obtain ⟨a1, vs, rfl, h1, l1⟩ := b.tupI
    rename_i ps
    refine .inr (.inl ⟨vs, by rw [hK]; exact h1, ?_⟩)
    cases l1 <;> rfl
  · obtain ⟨a1, vs, rfl, h1, l1⟩ := b.lstI
    refine .inl ⟨vs, .inl h1, ?_⟩
    cases l1 <;> rfl
def plainT : Expr → Bool
  | .Name .. | .Call .. | .Constant .. | .Subscript .. => true
  | _ => false
theorem plainT_of (h : plainT a = true) (env : Env) (whole : Sem Value) : isTrue a env whole = (do let v ← whole; standAt a.pos; holding [v] (truthy v)) := by
  cases a <;> first | rfl | cases h
theorem trum_ok (hK : X.K = Z.K) {wd : Wd} {H : Hp} {x : D} {v : V} {st : Sto} {σ : L2.St} {β : Type} {R : Wd → Hp → D → β → Prop} {Q : β → Hp → Prop} {f : Bool → Mo D} (rs : RSt Z wd H st) (bx : BrD Z wd H x v) (h : Post Z R W σ wd H Q ((truM x).bind f st)) : ∃ k, TruV X.K v H k ∧ Post Z R W σ wd H Q (f k st) := by
  unfold Mo.bind truM at h
  split at h
  · rename_i p hp
    split at h
    · rename_i k hk
      exact ⟨k, truV_of hK (rs.rd bx hp) hk, h⟩
    · exact h.elim
  · exact h.elim
theorem snd_and (hK : X.K = Z.K) {rest : List Expr} (ha : SndE Z X W c Ex a ma) (hb : SndE Z X W c Ex (.BoolOp .And (b :: rest) pos) mb) : SndE Z X W c Ex (.BoolOp .And (a :: b :: rest) pos) (eAnd ma mb) := by
  intro σd st wd σ H Q rs rg h
  refine we_of (pe_andT pe_w pe_w) ?_
  refine ha σd st wd σ H _ rs rg (post_bind h fun x st1 v wd1 H1 e1 rs1 b1 h1 => ?_)
  split at h1
  · cases b1
    exact ⟨true, rfl, by rw [if_pos rfl]; exact hb σd st1 wd1 σ H1 Q rs1 (rg.ext e1) h1⟩
  · cases b1
    exact ⟨false, rfl, by rw [if_neg Bool.false_ne_true]; exact h1 _ wd1 H1 .refl rs1 (.bl _)⟩
  · obtain ⟨k, hk, h2⟩ := trum_ok hK rs1 b1 h1
    refine ⟨k, hk, ?_⟩
    cases k
    · rw [if_neg Bool.false_ne_true] at h2 ⊢
      exact h2 _ wd1 H1 .refl rs1 b1
    · rw [if_pos rfl] at h2 ⊢
      exact hb σd st1 wd1 σ H1 Q rs1 (rg.ext e1) h2
theorem snd_or (hK : X.K = Z.K) {rest : List Expr} (ha : SndE Z X W c Ex a ma) (hb : SndE Z X W c Ex (.BoolOp .Or (b :: rest) pos) mb) : SndE Z X W c Ex (.BoolOp .Or (a :: b :: rest) pos) (eOr ma mb) := by
  intro σd st wd σ H Q rs rg h
  refine we_of (pe_orT pe_w pe_w) ?_
  refine ha σd st wd σ H _ rs rg (post_bind h fun x st1 v wd1 H1 e1 rs1 b1 h1 => ?_)
  split at h1
  · cases b1
    exact ⟨false, rfl, by rw [if_neg Bool.false_ne_true]; exact hb σd st1 wd1 σ H1 Q rs1 (rg.ext e1) h1⟩
  · cases b1
    exact ⟨true, rfl, by rw [if_pos rfl]; exact h1 _ wd1 H1 .refl rs1 (.bl _)⟩
  · obtain ⟨k, hk, h2⟩ := trum_ok hK rs1 b1 h1
    refine ⟨k, hk, ?_⟩
    cases k
    · rw [if_neg Bool.false_ne_true] at h2 ⊢
      exact hb σd st1 wd1 σ H1 Q rs1 (rg.ext e1) h2
    · rw [if_pos rfl] at h2 ⊢
      exact h2 _ wd1 H1 .refl rs1 b1
theorem snd_tv (hK : X.K = Z.K) (hp : plainT a = true) (ha : SndE Z X W c Ex a ma) : SndT Z X W c Ex a (tV ma) := by
  intro σd st wd σ H Q rs rg h
  refine wt_of (pt_truth pe_w (plainT_of hp _)) ?_
  refine ha σd st wd σ H _ rs rg (post_bind h fun x st1 v wd1 H1 e1 rs1 b1 h1 => ?_)
  unfold truM at h1
  split at h1
  · rename_i p hp
    split at h1
    · rename_i k hk
      exact ⟨k, truV_of hK (rs1.rd b1 hp) hk, h1 k wd1 H1 .refl rs1 rfl⟩
    · exact h1.elim
  · exact h1.elim
theorem snd_tnot (ha : SndT Z X W c Ex a ta) : SndT Z X W c Ex (.UnaryOp .Not a pos) (EV.tNot ta) := by
  intro σd st wd σ H Q rs rg h
  refine wt_of (pt_not pt_w) ?_
  refine ha σd st wd σ H _ rs rg (post_bind h fun x st1 v wd1 H1 e1 rs1 b1 h1 => ?_)
  cases b1
  exact h1 _ wd1 H1 .refl rs1 rfl
theorem snd_wt (h : SndW Z X W c Ex a ta) : SndT Z X W c Ex a ta := fun σd st wd σ H Q rs rg q pins s I => h σd st wd σ H Q rs rg q _ pins s I
theorem snd_wand {rest : List Expr} (ha : SndT Z X W c Ex a ta) (hb : SndW Z X W c Ex (.BoolOp .And (b :: rest) pos) tb) : SndW Z X W c Ex (.BoolOp .And (a :: b :: rest) pos) (EV.tAnd ta tb) := by
  intro σd st wd σ H Q rs rg h
  refine ww_of (pw_and pt_w pw_w) ?_
  refine ha σd st wd σ H _ rs rg (post_bind h fun x st1 v wd1 H1 e1 rs1 b1 h1 => ?_)
  cases b1
  cases x
  · rw [if_neg Bool.false_ne_true] at h1 ⊢
    exact h1 _ wd1 H1 .refl rs1 rfl
  · rw [if_pos rfl] at h1 ⊢
    exact hb σd st1 wd1 σ H1 Q rs1 (rg.ext e1) h1
theorem snd_wor {rest : List Expr} (ha : SndT Z X W c Ex a ta) (hb : SndW Z X W c Ex (.BoolOp .Or (b :: rest) pos) tb) : SndW Z X W c Ex (.BoolOp .Or (a :: b :: rest) pos) (EV.tOr ta tb) := by
  intro σd st wd σ H Q rs rg h
  refine ww_of (pw_or pt_w pw_w) ?_
  refine ha σd st wd σ H _ rs rg (post_bind h fun x st1 v wd1 H1 e1 rs1 b1 h1 => ?_)
  cases b1
  cases x
  · rw [if_neg Bool.false_ne_true] at h1 ⊢
    exact hb σd st1 wd1 σ H1 Q rs1 (rg.ext e1) h1
  · rw [if_pos rfl] at h1 ⊢
    exact h1 _ wd1 H1 .refl rs1 rfl
theorem snd_wand1 (ha : SndT Z X W c Ex a ta) : SndW Z X W c Ex (.BoolOp .And [a] pos) ta := by
  intro σd st wd σ H Q rs rg h
  exact ww_of (pw_and1 pt_w) (ha σd st wd σ H Q rs rg h)
theorem snd_wor1 (ha : SndT Z X W c Ex a ta) : SndW Z X W c Ex (.BoolOp .Or [a] pos) ta := by
  intro σd st wd σ H Q rs rg h
  exact ww_of (pw_or1 pt_w) (ha σd st wd σ H Q rs rg h)

/-! ### targets -/
/-- no error -/
def W0 : WX := fun _ _ _ _ => False
theorem post_noX {α β : Type} {R : Wd → Hp → α → β → Prop} {m : Mo α} {σ : L2.St} {wd : Wd} {H : Hp} {Q : β → Hp → Prop} {st : Sto} (h : Post Z R W σ wd H Q (noX m st)) : Post Z R W0 σ wd H Q (m st) := by
  unfold noX at h
  cases e : m st with
  | ok a s => rw [e] at h; exact h
  | exn k a s => rw [e] at h; exact h.elim
  | stk => rw [e] at h; exact h
/-- the slots that are written -/
def RG (Z : St0) (Ex : EXR) (is : List Nat) (σ : L2.St) : Wd → Hp → Sg → L2.St → Prop := fun wd H σd σ' => RSg Z wd H Ex σd σ' ∧ ∀ vs : List Nat, (∀ i ∈ is, i ∈ vs) → wipe σ' vs = wipe σ vs
variable (Z X) in
def SndG (c : Cl) (Ex : EXR) (tg : Expr) (is : List Nat) (g : MG) : Prop :=
  ∀ (σd : Sg) (st : Sto) (wd : Wd) (σ : L2.St) (H : Hp) (dd : D) (v : V) (Q : L2.St → Hp → Prop), RSt Z wd H st → RSg Z wd H Ex σd σ → BrD Z wd H dd v → Post Z (RG Z Ex is σ) W0 σ wd H Q (g c dd σd st) → WG X tg v σ H Q
variable (Z X) in
/-- several, of plain data -/
def SndGs (c : Cl) (Ex : EXR) (ts : List Expr) (is : List Nat) (gs : List MG) : Prop :=
  ∀ (σd : Sg) (st : Sto) (wd : Wd) (σ : L2.St) (H : Hp) (ps : List P) (vs : List V) (Q : L2.St → Hp → Prop), RSt Z wd H st → RSg Z wd H Ex σd σ → BrL Z wd.F H ps vs → Post Z (RG Z Ex is σ) W0 σ wd H Q (gAll gs c ps σd st) → WGs X ts vs σ H Q
theorem wipe_set (i : Nat) (x : Option V) : ∀ (vs : List Nat) (σ : L2.St), i ∈ vs → wipe (σ.set i x) vs = wipe σ vs
  | [], _, h => by cases h
  | v :: vs, σ, h => by
    simp only [wipe]
    by_cases hv : i ∈ vs
    · rw [wipe_set i x vs σ hv]
    · rcases List.mem_cons.mp h with rfl | h
      · have hw : ∀ (ws : List Nat) (τ : L2.St), i ∉ ws → wipe (τ.set i x) ws = (wipe τ ws).set i x := fun ws => by
          induction ws with
          | nil => intro τ _; rfl
          | cons w ws ih =>
            intro τ hn
            simp only [List.mem_cons, not_or] at hn
            simp only [wipe]
            rw [ih τ hn.2, List.set_comm _ _ hn.1]
        rw [hw vs σ hv, List.set_set]
      · exact absurd h hv
theorem snd_gn {i : Nat} {x : Str} (nd : X.N.Nodup) (hN : X.N[i]? = some x) (hx : Loc X.env.scope x) (hf : X.fn x = true ∨ X.env.scope.names.lookup x = some .local) : SndG Z X c Ex (.Name x pos) [i] (gN i) := by
  intro σd st wd σ H dd v Q rs rg bd h
  refine wg_of (pg_name nd hN hx hf) ?_
  exact h _ wd H .refl rs ⟨rg.set i (BrE.of bd), fun vs hv => wipe_set i _ vs σ (hv i (by simp))⟩
theorem snd_gnil : SndGs Z X c Ex [] [] [] := by
  intro σd st wd σ H ps vs Q rs rg bl h
  refine wgs_of pgs_nil ?_
  cases bl with
  | nil => exact ⟨rfl, h _ wd H .refl rs ⟨rg, fun _ _ => rfl⟩⟩
  | cons b1 b2 => exact h.elim
def isStarE : Expr → Bool
  | .Starred .. => true
  | _ => false
theorem assign_cons {e : Expr} {es : List Expr} {env : Env} (h : isStarE e = false) : assignEach (e :: es) env = (false, assign e env) :: assignEach es env := by
  cases e <;> first | rfl | cases h
theorem snd_gcons {tg : Expr} {ts : List Expr} {is js : List Nat} {g : MG} {gs : List MG} (hs : isStarE tg = false) (hg : SndG Z X c Ex tg is g) (hr : SndGs Z X c Ex ts js gs) : SndGs Z X c Ex (tg :: ts) (is ++ js) (g :: gs) := by
  intro σd st wd σ H ps vs Q rs rg bl h
  refine wgs_of (pgs_cons pg_w pgs_w (by rw [assign_cons hs] <;> rfl)) ?_
  cases bl with
  | nil => exact h.elim
  | cons b1 b2 =>
    rename_i p v ps vs
    refine ⟨_, _, rfl, ?_⟩
    refine hg σd st wd σ H (.p p) v _ rs rg b1 ?_
    simp only [gAll] at h
    refine post_bind (R := RG Z Ex is σ) h fun σd1 st1 σ1 wd1 H1 e1 rs1 r1 h1 => ?_
    refine hr σd1 st1 wd1 σ1 H1 ps vs Q rs1 r1.1 (BrL.ext e1.ext _ _ b2) ?_
    cases hz : gAll gs c ps σd1 st1 with
    | ok x s => 
      rw [hz] at h1
      exact fun b wd' H' e rs' rb => h1 b wd' H' e rs' ⟨rb.1, fun vs hv => (rb.2 vs fun i hi => hv i (by simp [hi])).trans (r1.2 vs fun i hi => hv i (by simp [hi]))⟩
    | exn k x s => rw [hz] at h1; exact h1
    | stk => rw [hz] at h1; exact h1
theorem assign_len : ∀ {es : List Expr} {env : Env}, (es.any isStarE) = false → (assignEach es env).length = es.length ∧ (assignEach es env).findIdx? (·.1) = none
  | [], _, _ => ⟨rfl, rfl⟩
  | e :: es, env, h => by
    simp only [List.any_cons, Bool.or_eq_false_iff] at h
    rw [assign_cons h.1]
    obtain ⟨h1, h2⟩ := assign_len (env := env) h.2
    refine ⟨by simp [h1], ?_⟩
    rw [List.findIdx?_cons]
    simp [h2]
/-- (a, b, ..) = a list of that length -/
def gLstU (K : PySem.W.Frag) (n : Nat) (t : TGs) : TG := fun v σ H Q => ∃ a xs, v = .ref a ∧ SqL K H a xs ∧ xs.length = n ∧ t xs σ H Q
theorem pg_lstU {es : List Expr} {k : Nat} {t : TGs} {n : Nat} (hc : X.calm = true) (h : PGs X es t) (hn : (assignEach es X.env).length = n) (hst : (assignEach es X.env).findIdx? (·.1) = none) : PG X (.Tuple es k pos) (gLstU X.K n t) := by
  refine ⟨fun pins s σ H v u Q I r hw => ?_⟩
  obtain ⟨a, xs, e1, hq, hl, hw⟩ := hw
  subst e1
  cases r
  obtain ⟨its, rv, ⟨o, m, ho, hc1, hd, hdat⟩, hz⟩ := I.list hq
  have hL : s.heap.IsList a its.toArray := ⟨o, ho, hc1, m, hdat⟩
  rw [PyProof.Rows.assign_Tuple]
  refine wpAny_bind (wpAny_standAt ?_)
  unfold unpack
  rw [show (assignEach es X.env).length = its.toArray.size from by simp [hn, ← hl, rv.length], hst]
  refine wpAny_bind (wpAny_holding (PySem.W.kun_itemsOf (I.ok.hd hc) hL fun h' hx => ?_))
  have I1 : Inv X pins σ H { s with heap := h' } := I.kept (t' := s.toks) fun b o e => hx b o (Nat.ne_of_lt (Heap.lt_size e)) e
  exact h.run pins _ σ H xs _ Q I1 (by simpa using rv) hw
theorem snd_gtup (hK : X.K = Z.K) (hc : X.calm = true) {es : List Expr} {k : Nat} {is : List Nat} {gs : List MG} (hs : es.any isStarE = false) (hl : gs.length = es.length) (hg : SndGs Z X c Ex es is gs) : SndG Z X c Ex (.Tuple es k pos) is (EV.gTup gs) := by
  intro σd st wd σ H dd v Q rs rg bd h
  have hlen := assign_len (env := X.env) hs
  cases dd with
  | p x =>
    cases x with
    | tup ps =>
      refine wg_of (pg_tup hc pgs_w (n := es.length) hlen.1 hlen.2) ?_
      simp only [EV.gTup] at h
      split at h
      · rename_i hn
        cases bd with
        | tup s l =>
          exact ⟨_, _, rfl, by rw [hK]; exact s, by rw [← l.length, hn, hl], hg σd st wd σ H ps _ Q rs rg l h⟩
      · exact h.elim
    | lst ps =>
      refine wg_of (pg_lstU hc pgs_w (n := es.length) hlen.1 hlen.2) ?_
      simp only [EV.gTup] at h
      split at h
      · rename_i hn
        cases bd with
        | lst s l =>
          exact ⟨_, _, rfl, .inl s.2, by rw [← l.length, hn, hl], hg σd st wd σ H ps _ Q rs rg l h⟩
      · exact h.elim
    | _ => exact h.elim
  | _ => exact h.elim
/-- o[i] = v, by values -/
def SeW (X : Cx) : TSet := fun o i v H Q => ∀ (pins : List (Addr × Obj)) (s : Shared) (σ : L2.St) (ov iv u : Value), Inv X pins σ H s → RelV o ov → RelV i iv → RelV v u → wpAny (model X.prog X.w) X.A (setItem ov iv u) (fun _ s' => ∃ H', Inv X pins σ H' s' ∧ Q H') X.xe s
theorem seW_set : PSet X (SeW X) := fun pins s σ H o i v ov iv u Q I ro ri rv h => h pins s σ ov iv u I ro ri rv
theorem asg_sub (h : isSl b = false) (v : Value) : assign (.Subscript a b pos) X.env v = (do
      let ov ← holding [v] (eval a X.env)
      let iv ← holding [v, ov] (eval b X.env)
      standAt pos
      holding [v, ov, iv] (setItem ov iv v)
      release [v, ov, iv] []) := by
  cases b <;> first | rfl | cases h
theorem nodup_keys {P : Program} {w : World} {H : Hp} {h : Heap} {a : Addr} {ks : List (Key × V)} (ok : HOk P w H h) (e : H a = some (.dK ks)) : (ks.map (·.1)).Nodup := by
  obtain ⟨_, _, vs, r, d⟩ := dk_of ok e
  rw [r.keys]
  obtain ⟨_, _, _, _, _, _, _, nd⟩ := d
  exact nd.2
theorem snd_gsub (hu : X.A.units + 70 < cLine) (ha : SndE Z X W0 c Ex a ma) (hb : SndE Z X W0 c Ex b mb) (hsl : isSl b = false) : SndG Z X c Ex (.Subscript a b pos) [] (EV.gSub ma mb) := by
  intro σd st wd σ H dd v Q rs rg bd h
  refine wg_of (pg_sub pe_w pe_w seW_set (asg_sub hsl)) ?_
  refine ha σd st wd σ H _ rs rg (post_bind h fun x st1 v1 wd1 H1 e1 rs1 b1 h1 => ?_)
  refine hb σd st1 wd1 σ H1 _ rs1 (rg.ext e1) (post_bind h1 fun y st2 v2 wd2 H2 e2 rs2 b2 h2 => ?_)
  unfold setD at h2
  split at h2
  · rename_i v' s1 hz
    split at h2
    · rename_i l
      obtain ⟨ad, rfl, ha⟩ := b1
      obtain ⟨wd3, rs3, e3, bv⟩ := rs2.frz ((bd.ext e1).ext e2) hz
      have ha3 := e3.get (e2.get ha)
      unfold setO at h2
      split at h2
      · rename_i xs hxs
        split at h2
        · rename_i k
          split at h2
          · rename_i j hj
            cases b2
            obtain ⟨vs, q1, l1, nf⟩ := rs3.obj l ad _ ha3 hxs
            rw [l1.length] at hj
            obtain ⟨rs4, e4⟩ := rs3.putL hxs ha3 q1 nf (BrL.set bv j l1)
            exact fun pins s σ' ov iv u I ro ri rv => set_list pins s σ' H2 _ _ v ov iv u _ I ro ri rv ⟨ad, vs, k, j, rfl, rfl, q1, hj, h2 _ wd3 _ (e3.trans e4) rs4 ⟨((rg.ext e1).ext e2).ext (e3.trans e4), fun _ _ => rfl⟩⟩
          · exact h2.elim
        · exact h2.elim
      · rename_i kvs hxs
        split at h2
        · rename_i j hj
          split at h2
          · rename_i hl
            cases keyD_kV b2 hj
            obtain ⟨ks, q1, q2, nf⟩ := rs3.obj l ad _ ha3 hxs
            intro pins s σ' ov iv u I ro ri rv
            cases ro
            have nd := nodup_keys I.hok q1
            obtain ⟨rs4, e4⟩ := rs3.put (o := .dK (putK ks j v)) (m := .dct (dput j v' kvs)) ha3 ⟨_, hxs, fun z => by cases z⟩ (by rw [q1]; trivial) (by rw [q1]; exact fun φ z => by cases z) nf (fun z => by cases z) fun e => ⟨_, upd_same, ⟨(BrK.put bv nd q2).1, BrL.ext e _ _ (BrK.put bv nd q2).2⟩, nf⟩
            refine d_setItem (by omega) I (.inl ⟨ks, j, q1, rfl, by rw [sizeL, ← q2.length]; exact hl, rfl⟩) ri rv fun s' I' => ⟨_, I', h2 _ wd3 _ (e3.trans e4) rs4 ⟨((rg.ext e1).ext e2).ext (e3.trans e4), fun _ _ => rfl⟩⟩
          · exact h2.elim
        · exact h2.elim
      · exact h2.elim
    · exact h2.elim
  · exact h2.elim

/-! ### what is walked -/
/-- an iterator that yields these -/
def RI (Z : St0) : Wd → Hp → List P × Option Nat → It → Prop := fun wd H q J => ∀ (wd' : Wd) (H' : Hp) (st' : Sto), (∃ r, wd'.ρ = wd.ρ ++ r) → Ext wd.F H wd'.F H' → RSt Z wd' H' st' → still st' q.1 q.2 = true →
  J.stop q.1.length H' ∧ ∀ (i : Nat) (p : P), q.1[i]? = some p → J.go i H' ∧ ∀ x H'', J.yld i H' x H'' → ∃ wd'', XT wd' H' wd'' H'' ∧ RSt Z wd'' H'' st' ∧ Br Z wd''.F H'' p x
variable (Z X) in
def SndI (W : WX) (c : Cl) (Ex : EXR) (tg iter : Expr) (w : Src) : Prop :=
  ∀ (σd : Sg) (st : Sto) (wd : Wd) (σ : L2.St) (H : Hp) (R : It → Hp → Prop), RSt Z wd H st → RSg Z wd H Ex σd σ → Post Z (RI Z) W σ wd H R (w c σd st) → WI X tg iter σ H R
theorem LsOk.rd {F : Addr → Prop} {H : Hp} {a : Addr} {vs : List V} (h : LsOk F H a vs) : Rd H a (.lst vs) := h.2
theorem ri_lst (hK : X.K = Z.K) {wd : Wd} {H : Hp} {xs : List P} {a : Addr} (b : Br Z wd.F H (.lst xs) (.ref a)) : RI Z wd H (xs, none) (Itl X.K a) := by
  intro wd' H' st' hp he rs hs
  have b' := Br.ext he _ _ b
  cases b' with
  | lst s l =>
    rename_i vs
    refine ⟨⟨vs, .inl s.2, by rw [l.length] <;> exact Nat.le_refl _⟩, fun i p hi => ?_⟩
    obtain ⟨v, hv, bv⟩ := l.get hi
    refine ⟨⟨vs, v, .inl s.2, hv⟩, fun x H'' y => ?_⟩
    obtain ⟨rfl, y⟩ := y
    have := y vs (.inl s.2)
    rw [hv] at this
    cases this
    exact ⟨wd', .refl, rs, bv⟩
theorem ri_loc (hK : X.K = Z.K) {wd : Wd} {H : Hp} {xs : List P} {l : Nat} {a : Addr} (ha : wd.ρ[l]? = some a) : RI Z wd H (xs, some l) (Itl X.K a) := by
  intro wd' H' st' hp he rs hs
  obtain ⟨r, hr⟩ := hp
  have ha' : wd'.ρ[l]? = some a := by
    rw [hr, List.getElem?_append_left (List.getElem?_eq_some_iff.mp ha).1]
    exact ha
  unfold still at hs
  simp only at hs
  split at hs
  · rename_i ys hy
    cases P.sameL_eq _ _ hs
    obtain ⟨vs, h1, l1, nf⟩ := rs.obj l a _ ha' hy
    refine ⟨⟨vs, .inl (.inl h1), by rw [l1.length] <;> exact Nat.le_refl _⟩, fun i p hi => ?_⟩
    obtain ⟨v, hv, bv⟩ := l1.get hi
    refine ⟨⟨vs, v, .inl (.inl h1), hv⟩, fun x H'' y => ?_⟩
    obtain ⟨rfl, y⟩ := y
    have := y vs (.inl (.inl h1))
    rw [hv] at this
    cases this
    exact ⟨wd', .refl, rs, bv⟩
  · cases hs
theorem ri_tup (hK : X.K = Z.K) {wd : Wd} {H : Hp} {xs : List P} {a : Addr} (b : Br Z wd.F H (.tup xs) (.ref a)) : RI Z wd H (xs, none) (Itt X.K a) := by
  intro wd' H' st' hp he rs hs
  have b' := Br.ext he _ _ b
  cases b' with
  | tup s l =>
    rename_i vs
    rw [← hK] at s
    refine ⟨⟨vs, s, by rw [l.length] <;> exact Nat.le_refl _⟩, fun i p hi => ?_⟩
    obtain ⟨v, hv, bv⟩ := l.get hi
    refine ⟨⟨vs, v, s, hv⟩, fun x H'' y => ?_⟩
    obtain ⟨rfl, y⟩ := y
    have := y vs s
    rw [hv] at this
    cases this
    exact ⟨wd', .refl, rs, bv⟩
theorem rng_get : ∀ (n : Nat) (lo : Int) (i : Nat) (p : P), (rngL lo n)[i]? = some p → i < n ∧ p = .int (lo + i)
  | 0, _, _, _, h => by simp [rngL] at h
  | n + 1, lo, 0, p, h => by
    simp [rngL] at h
    subst h
    simp
  | n + 1, lo, i + 1, p, h => by
    have h' : (rngL (lo + 1) n)[i]? = some p := by simpa [rngL] using h
    obtain ⟨h1, rfl⟩ := rng_get n _ i p h'
    refine ⟨by omega, ?_⟩
    congr 1
    omega
theorem rng_len : ∀ (n : Nat) (lo : Int), (rngL lo n).length = n
  | 0, _ => rfl
  | n + 1, lo => by simp [rngL, rng_len n]
theorem ri_rng {wd : Wd} {H : Hp} {lo : Int} {n : Nat} : RI Z wd H (rngL lo n, none) (Itr lo n) := by
  intro wd' H' st' hp he rs hs
  refine ⟨by rw [rng_len] <;> exact Nat.le_refl _, fun i p hi => ?_⟩
  obtain ⟨h1, rfl⟩ := rng_get n lo i p hi
  refine ⟨h1, fun x H'' y => ?_⟩
  obtain ⟨rfl, rfl⟩ := y
  exact ⟨wd', .refl, rs, .int _⟩
theorem rngC_get : ∀ (n : Nat) (lo c : Int) (i : Nat) (p : P), (rngC lo c n)[i]? = some p → i < n ∧ p = .int (lo + (i : Nat) * c)
  | 0, _, _, _, _, h => by simp [rngC] at h
  | n + 1, lo, c, 0, p, h => by
    simp [rngC] at h
    subst h
    simp
  | n + 1, lo, c, i + 1, p, h => by
    have h' : (rngC (lo + c) c n)[i]? = some p := by simpa [rngC] using h
    obtain ⟨h1, rfl⟩ := rngC_get n _ c i p h'
    refine ⟨by omega, ?_⟩
    congr 1
    rw [Int.natCast_add, Int.add_mul]
    simp
    omega
theorem rngC_len : ∀ (n : Nat) (lo c : Int), (rngC lo c n).length = n
  | 0, _, _ => rfl
  | n + 1, lo, c => by simp [rngC, rngC_len n]
theorem ri_rngC {wd : Wd} {H : Hp} {lo c : Int} {n : Nat} : RI Z wd H (rngC lo c n, none) (Itc lo c n) := by
  intro wd' H' st' hp he rs hs
  refine ⟨by rw [rngC_len] <;> exact Nat.le_refl _, fun i p hi => ?_⟩
  obtain ⟨h1, rfl⟩ := rngC_get n lo c i p hi
  refine ⟨h1, fun x H'' y => ?_⟩
  obtain ⟨rfl, rfl⟩ := y
  exact ⟨wd', .refl, rs, .int _⟩
theorem rgC_ok {i j k : Int} (h1 : -(2 ^ 62) ≤ i) (h2 : i < 2 ^ 62) (h3 : -(2 ^ 62) ≤ j) (h4 : j < 2 ^ 62) (k1 : 1 ≤ k) (k2 : k < 1000000) : RgC i j k (rngN i j k) := by
  have q0 : ∀ m : Int, 0 ≤ m → 0 ≤ m / k ∧ m / k ≤ m := fun m hm => ⟨Int.ediv_nonneg hm (by omega), Int.ediv_le_self _ hm⟩
  have e : Builtin.Range.rangeSize i j k = (rngN i j k : Nat) := by
    unfold Builtin.Range.rangeSize rngN
    rw [if_pos (by omega)]
    split
    · have := q0 (j - i - 1) (by omega)
      omega
    · rfl
  refine ⟨by omega, by omega, ?_, e⟩
  unfold Builtin.Range.small
  rw [e]
  have hn : ((rngN i j k : Nat) : Int) ≤ 2 ^ 63 - 1 := by
    unfold rngN
    split
    · have := q0 (j - i - 1) (by omega)
      omega
    · omega
  rw [if_pos (show k > 0 by omega)]
  simp only [Builtin.Range.rangeFitsLong, Bool.and_eq_true, Bool.or_eq_true, decide_eq_true_eq, beq_iff_eq]
  omega
theorem zip_get : ∀ (xs ys : List P) (i : Nat) (p : P), (zipT xs ys)[i]? = some p → ∃ x y, xs[i]? = some x ∧ ys[i]? = some y ∧ p = .tup [x, y]
  | [], _, _, _, h => by simp [zipT] at h
  | _ :: _, [], _, _, h => by simp [zipT] at h
  | x :: xs, y :: ys, 0, p, h => by
    simp [zipT] at h
    exact ⟨x, y, rfl, rfl, h.symm⟩
  | x :: xs, y :: ys, i + 1, p, h => by
    have h' : (zipT xs ys)[i]? = some p := by simpa [zipT] using h
    obtain ⟨u, v, h1, h2, h3⟩ := zip_get xs ys i p h'
    exact ⟨u, v, by simpa using h1, by simpa using h2, h3⟩
theorem zip_len : ∀ (xs ys : List P), xs.length ≤ (zipT xs ys).length ∨ ys.length ≤ (zipT xs ys).length
  | [], _ => .inl (Nat.le_refl _)
  | _ :: _, [] => .inr (Nat.le_refl _)
  | x :: xs, y :: ys => by
    simp only [zipT, List.length_cons]
    rcases zip_len xs ys with h | h
    · exact .inl (by omega)
    · exact .inr (by omega)
theorem enum_get : ∀ (xs : List P) (k : Int) (i : Nat) (p : P), (enumT k xs)[i]? = some p → ∃ x, xs[i]? = some x ∧ p = .tup [.int (k + i), x]
  | [], _, _, _, h => by simp [enumT] at h
  | x :: xs, k, 0, p, h => by
    simp [enumT] at h
    exact ⟨x, rfl, by rw [← h]; simp⟩
  | x :: xs, k, i + 1, p, h => by
    have h' : (enumT (k + 1) xs)[i]? = some p := by simpa [enumT] using h
    obtain ⟨u, h1, rfl⟩ := enum_get xs _ i p h'
    refine ⟨u, by simpa using h1, ?_⟩
    congr 3
    omega
theorem enum_len : ∀ (xs : List P) (k : Int), (enumT k xs).length = xs.length
  | [], _ => rfl
  | x :: xs, k => by simp [enumT, enum_len xs]
theorem new_pair {wd : Wd} {H : Hp} {st : Sto} {ps : List P} {vs : List V} (rs : RSt Z wd H st) (b : BrL Z wd.F H ps vs) {T : Addr} (hT : H T = none) : ∃ wd'', XT wd H wd'' (upd H T (.tup vs)) ∧ RSt Z wd'' (upd H T (.tup vs)) st ∧ Br Z wd''.F (upd H T (.tup vs)) (.tup ps) (.ref T) := by
  obtain ⟨r, e⟩ := rs.new (o := .tup vs) hT (fun ps z => by cases z) false
  exact ⟨_, e, r, .tup (.inl (.inl upd_same)) (BrL.ext e.ext _ _ b)⟩
theorem ri_zipT (hK : X.K = Z.K) {wd : Wd} {H : Hp} {xs ys : List P} {a b : Addr} (ba : Br Z wd.F H (.tup xs) (.ref a)) (bb : Br Z wd.F H (.tup ys) (.ref b)) : RI Z wd H (zipT xs ys, none) (RZ.ItzT X.K a b) := by
  intro wd' H' st' hp he rs hs
  have ba' := Br.ext he _ _ ba
  have bb' := Br.ext he _ _ bb
  cases ba' with
  | tup s l =>
    cases bb' with
    | tup s' l' =>
      rename_i vs us
      rw [← hK] at s s'
      refine ⟨⟨vs, us, s, s', by rw [← l.length, ← l'.length]; exact zip_len xs ys⟩, fun i p hi => ?_⟩
      obtain ⟨x, y, hx, hy, rfl⟩ := zip_get xs ys i p hi
      obtain ⟨v, hv, bv⟩ := l.get hx
      obtain ⟨u, hu, bu⟩ := l'.get hy
      refine ⟨⟨vs, us, v, u, s, s', hv, hu⟩, fun z H'' q => ?_⟩
      obtain ⟨T, v', u', rfl, hT, rfl, q1, q2⟩ := q
      have e1 := q1 vs s
      have e2 := q2 us s'
      rw [hv] at e1
      rw [hu] at e2
      cases e1
      cases e2
      exact new_pair rs (.cons bv (.cons bu .nil)) hT
theorem ri_zipL (hK : X.K = Z.K) {wd : Wd} {H : Hp} {xs ys : List P} {a b : Addr} (ba : Br Z wd.F H (.lst xs) (.ref a)) (bb : Br Z wd.F H (.lst ys) (.ref b)) : RI Z wd H (zipT xs ys, none) (Itz X.K a b) := by
  intro wd' H' st' hp he rs hs
  have ba' := Br.ext he _ _ ba
  have bb' := Br.ext he _ _ bb
  cases ba' with
  | lst s l =>
    cases bb' with
    | lst s' l' =>
      rename_i vs us
      have s : SqL X.K H' a vs := .inl s.2
      have s' : SqL X.K H' b us := .inl s'.2
      refine ⟨⟨vs, us, s, s', by rw [← l.length, ← l'.length]; exact zip_len xs ys⟩, fun i p hi => ?_⟩
      obtain ⟨x, y, hx, hy, rfl⟩ := zip_get xs ys i p hi
      obtain ⟨v, hv, bv⟩ := l.get hx
      obtain ⟨u, hu, bu⟩ := l'.get hy
      refine ⟨⟨vs, us, v, u, s, s', hv, hu⟩, fun z H'' q => ?_⟩
      obtain ⟨T, v', u', rfl, hT, rfl, q1, q2⟩ := q
      have e1 := q1 vs s
      have e2 := q2 us s'
      rw [hv] at e1
      rw [hu] at e2
      cases e1
      cases e2
      exact new_pair rs (.cons bv (.cons bu .nil)) hT
theorem ri_zipM (hK : X.K = Z.K) {wd : Wd} {H : Hp} {xs ys : List P} {a b : Addr} (ba : Br Z wd.F H (.tup xs) (.ref a)) (bb : Br Z wd.F H (.lst ys) (.ref b)) : RI Z wd H (zipT xs ys, none) (ItzM X.K a b) := by
  intro wd' H' st' hp he rs hs
  have ba' := Br.ext he _ _ ba
  have bb' := Br.ext he _ _ bb
  cases ba' with
  | tup s l =>
    cases bb' with
    | lst s' l' =>
      rename_i vs us
      rw [← hK] at s
      have s' : SqL X.K H' b us := .inl s'.2
      refine ⟨⟨vs, us, s, s', by rw [← l.length, ← l'.length]; exact zip_len xs ys⟩, fun i p hi => ?_⟩
      obtain ⟨x, y, hx, hy, rfl⟩ := zip_get xs ys i p hi
      obtain ⟨v, hv, bv⟩ := l.get hx
      obtain ⟨u, hu, bu⟩ := l'.get hy
      refine ⟨⟨vs, us, v, u, s, s', hv, hu⟩, fun z H'' q => ?_⟩
      obtain ⟨T, v', u', rfl, hT, rfl, q1, q2⟩ := q
      have e1 := q1 vs s
      have e2 := q2 us s'
      rw [hv] at e1
      rw [hu] at e2
      cases e1
      cases e2
      exact new_pair rs (.cons bv (.cons bu .nil)) hT
theorem ri_enum (hK : X.K = Z.K) {wd : Wd} {H : Hp} {xs : List P} {a : Addr} (ba : Br Z wd.F H (.lst xs) (.ref a)) : RI Z wd H (enumT 0 xs, none) (Ite X.K a) := by
  intro wd' H' st' hp he rs hs
  have ba' := Br.ext he _ _ ba
  cases ba' with
  | lst s l =>
    rename_i vs
    have s : SqL X.K H' a vs := .inl s.2
    refine ⟨⟨vs, s, by rw [← l.length, enum_len] <;> exact Nat.le_refl _⟩, fun i p hi => ?_⟩
    obtain ⟨x, hx, rfl⟩ := enum_get xs 0 i p hi
    obtain ⟨v, hv, bv⟩ := l.get hx
    refine ⟨⟨vs, v, s, hv⟩, fun z H'' q => ?_⟩
    obtain ⟨T, v', rfl, hT, rfl, q1⟩ := q
    have e1 := q1 vs s
    rw [hv] at e1
    cases e1
    have ei : (0 : Int) + (i : Nat) = (i : Nat) := by omega
    rw [ei]
    exact new_pair rs (.cons (.int _) (.cons bv .nil)) hT
theorem snd_wseq (hK : X.K = Z.K) {tg : Expr} (ha : SndE Z X W c Ex a ma) : SndI Z X W c Ex tg a (wSeq ma) := by
  intro σd st wd σ H R rs rg h
  unfold wSeq Mo.bind at h
  have hl : ∀ {s1 : Sto} {x : D}, ma c σd st = .ok x s1 → ∀ (Q : VK), (∀ v wd1 H1, XT wd H wd1 H1 → RSt Z wd1 H1 s1 → BrD Z wd1 H1 x v → Q v H1) → WE X a σ H Q := fun {s1 x} e Q k => ha σd st wd σ H Q rs rg (by rw [e]; exact k)
  cases e : ma c σd st with
  | stk => rw [e] at h; exact h.elim
  | exn k y s =>
    rw [e] at h
    refine wi_of (pi_list pe_w) (ha σd st wd σ H _ rs rg ?_)
    rw [e]
    exact h
  | ok x s1 =>
    rw [e] at h
    simp only [Res.bind] at h
    cases x with
    | exc k y => exact h.elim
    | loc l =>
      simp only at h
      split at h
      · rename_i xs hx
        refine wi_of (pi_list pe_w) (hl e _ fun v wd1 H1 e1 rs1 b => ?_)
        obtain ⟨ad, rfl, had⟩ := b
        obtain ⟨vs, h1, l1, nf⟩ := rs1.obj l ad _ had hx
        exact ⟨ad, rfl, ⟨vs, .inl (.inl h1)⟩, h _ wd1 H1 e1 rs1 (ri_loc hK had)⟩
      · exact h.elim
    | p x =>
      cases x with
      | tup xs =>
        refine wi_of (pi_tup pe_w) (hl e _ fun v wd1 H1 e1 rs1 b => ?_)
        have b0 := b
        cases b with
        | tup s l => exact ⟨_, rfl, ⟨_, by rw [hK]; exact s⟩, h _ wd1 H1 e1 rs1 (ri_tup hK b0)⟩
      | lst xs =>
        refine wi_of (pi_list pe_w) (hl e _ fun v wd1 H1 e1 rs1 b => ?_)
        have b0 := b
        cases b with
        | lst s l => exact ⟨_, rfl, ⟨_, .inl s.2⟩, h _ wd1 H1 e1 rs1 (ri_lst hK b0)⟩
      | _ => exact h.elim
theorem snd_wrng1 {tg : Expr} (hg : Gl X "range") (hm : X.mg "range" = none) (hs : ∀ y q, a ≠ .Starred y q) (ha : SndE Z X W c Ex a ma) : SndI Z X W c Ex tg (.Call (.Name "range" p) [a] [] pos) (wRng1 ma) := by
  intro σd st wd σ H R rs rg h
  refine wi_of (pi_range1 hg hm (pa_cons pe_w pa_nil (star_cons hs)) (by rw [star_cons hs] <;> rfl)) ?_
  refine ha σd st wd σ H _ rs rg (post_bind h fun x st1 v wd1 H1 e1 rs1 b1 h1 => ?_)
  split at h1
  · rename_i j
    cases b1
    split at h1
    · rename_i hb
      unfold bnd at hb
      simp only [Bool.and_eq_true, decide_eq_true_eq] at hb
      exact ⟨j, rfl, hb.1, hb.2, h1 _ wd1 H1 .refl rs1 ri_rng⟩
    · exact h1.elim
  · exact h1.elim
theorem snd_wrng2 {tg : Expr} (hg : Gl X "range") (hm : X.mg "range" = none) (hs : ∀ y q, a ≠ .Starred y q) (hs' : ∀ y q, b ≠ .Starred y q) (ha : SndE Z X W c Ex a ma) (hb : SndE Z X W c Ex b mb) : SndI Z X W c Ex tg (.Call (.Name "range" p) [a, b] [] pos) (wRng2 ma mb) := by
  intro σd st wd σ H R rs rg h
  refine wi_of (pi_range2 hg hm (pa_cons pe_w (pa_cons pe_w pa_nil (star_cons hs')) (star_cons hs)) (by rw [star_cons hs, star_cons hs'] <;> rfl) (by rw [star_cons hs'] <;> rfl)) ?_
  refine ha σd st wd σ H _ rs rg (post_bind h fun x st1 v wd1 H1 e1 rs1 b1 h1 => ?_)
  refine hb σd st1 wd1 σ H1 _ rs1 (rg.ext e1) (post_bind h1 fun y st2 u wd2 H2 e2 rs2 b2 h2 => ?_)
  split at h2
  · rename_i i j
    cases b1
    cases b2
    split at h2
    · rename_i hb
      unfold bnd at hb
      simp only [Bool.and_eq_true, decide_eq_true_eq] at hb
      exact ⟨i, j, rfl, ⟨hb.1.1, hb.1.2, hb.2.1, hb.2.2⟩, h2 _ wd2 H2 .refl rs2 ri_rng⟩
    · exact h2.elim
  · exact h2.elim
theorem snd_wrng3 {tg d : Expr} {md : ME} (hg : Gl X "range") (hm : X.mg "range" = none) (hs : ∀ y q, a ≠ .Starred y q) (hs' : ∀ y q, b ≠ .Starred y q) (hs2 : ∀ y q, d ≠ .Starred y q) (ha : SndE Z X W c Ex a ma) (hb : SndE Z X W c Ex b mb) (hd : SndE Z X W c Ex d md) : SndI Z X W c Ex tg (.Call (.Name "range" p) [a, b, d] [] pos) (wRng3 ma mb md) := by
  intro σd st wd σ H R rs rg h
  refine wi_of (pi_range3 hg hm (pa_cons pe_w (pa_cons pe_w (pa_cons pe_w pa_nil (star_cons hs2)) (star_cons hs')) (star_cons hs)) (star_cons hs) (by rw [star_cons hs', star_cons hs2] <;> rfl)) ?_
  refine ha σd st wd σ H _ rs rg (post_bind h fun x st1 v wd1 H1 e1 rs1 b1 h1 => ?_)
  refine hb σd st1 wd1 σ H1 _ rs1 (rg.ext e1) (post_bind h1 fun y st2 u wd2 H2 e2 rs2 b2 h2 => ?_)
  refine hd σd st2 wd2 σ H2 _ rs2 ((rg.ext e1).ext e2) (post_bind h2 fun z st3 u3 wd3 H3 e3 rs3 b3 h3 => ?_)
  split at h3
  · rename_i i j k
    cases b1
    cases b2
    cases b3
    split at h3
    · rename_i hb
      unfold bnd at hb
      simp only [Bool.and_eq_true, decide_eq_true_eq] at hb
      exact ⟨i, j, k, rngN i j k, rfl, rgC_ok hb.1.1.1 hb.1.1.2 hb.1.2.1 hb.1.2.2 hb.2.1 hb.2.2, h3 _ wd3 H3 .refl rs3 ri_rngC⟩
    · exact h3.elim
  · exact h3.elim
theorem snd_wzip (hK : X.K = Z.K) {elts : List Expr} {kk : Nat} {tpos : Pos} (hg : Gl X "zip") (hm : X.mg "zip" = none) (hs : ∀ y q, a ≠ .Starred y q) (hs' : ∀ y q, b ≠ .Starred y q) (ha : SndE Z X W c Ex a ma) (hb : SndE Z X W c Ex b mb) : SndI Z X W c Ex (.Tuple elts kk tpos) (.Call (.Name "zip" p) [a, b] [] pos) (wZip ma mb) := by
  intro σd st wd σ H R rs rg h
  refine wi_of (pi_zipM hg hm (pa_cons pe_w (pa_cons pe_w pa_nil (star_cons hs')) (star_cons hs)) (star_cons hs) (by rw [star_cons hs'] <;> rfl)) ?_
  refine ha σd st wd σ H _ rs rg (post_bind h fun x st1 v wd1 H1 e1 rs1 b1 h1 => ?_)
  refine hb σd st1 wd1 σ H1 _ rs1 (rg.ext e1) (post_bind h1 fun y st2 u wd2 H2 e2 rs2 b2 h2 => ?_)
  have b1 := BrD.ext e2 b1
  cases x with
  | p p =>
    cases y with
    | p q =>
      simp only at h2
      cases hz : zipP p q with
      | none => rw [hz] at h2; exact h2.elim
      | some zs =>
        rw [hz] at h2
        cases p <;> cases q <;> simp only [zipP] at hz <;> first | cases hz | skip
        · have c1 := b1
          have c2 := b2
          cases b1 with
          | tup s l =>
            cases b2 with
            | tup s' l' => exact ⟨_, _, _, _, rfl, .inr (.inl ⟨by rw [hK]; exact s, by rw [hK]; exact s', h2 _ wd2 H2 .refl rs2 (ri_zipT hK c1 c2)⟩)⟩
        · have c1 := b1
          have c2 := b2
          cases b1 with
          | tup s l =>
            cases b2 with
            | lst s' l' => exact ⟨_, _, _, _, rfl, .inr (.inr ⟨by rw [hK]; exact s, .inl s'.2, h2 _ wd2 H2 .refl rs2 (ri_zipM hK c1 c2)⟩)⟩
        · have c1 := b1
          have c2 := b2
          cases b1 with
          | lst s l =>
            cases b2 with
            | lst s' l' => exact ⟨_, _, _, _, rfl, .inl ⟨.inl s.2, .inl s'.2, h2 _ wd2 H2 .refl rs2 (ri_zipL hK c1 c2)⟩⟩
    | _ => exact h2.elim
  | _ => exact h2.elim
theorem snd_wenum (hK : X.K = Z.K) {elts : List Expr} {kk : Nat} {tpos : Pos} (hg : Gl X "enumerate") (hm : X.mg "enumerate" = none) (hs : ∀ y q, a ≠ .Starred y q) (ha : SndE Z X W c Ex a ma) : SndI Z X W c Ex (.Tuple elts kk tpos) (.Call (.Name "enumerate" p) [a] [] pos) (wEnum ma) := by
  intro σd st wd σ H R rs rg h
  refine wi_of (pi_enum hg hm (pa_cons pe_w pa_nil (star_cons hs)) (by rw [star_cons hs] <;> rfl)) ?_
  refine ha σd st wd σ H _ rs rg (post_bind h fun x st1 v wd1 H1 e1 rs1 b1 h1 => ?_)
  split at h1
  · rename_i xs
    have c1 := b1
    cases b1 with
    | lst s l => exact ⟨_, _, rfl, .inl s.2, h1 _ wd1 H1 .refl rs1 (ri_enum hK c1)⟩
  · exact h1.elim
end
end EV
end
section
/-! Ev10: comprehensions. -/
namespace EV
open PySem PySem.Spec PyProof.Rows L2
section
variable {Z : St0} {X : Cx} {W : WX} {c : Cl} {Ex : EXR} {a b d e : Expr} {ma mb md me : ME} {ta tb : MT} {pos p apos cpos : Pos}
theorem upd_self {H : Hp} {D : Addr} {o : HO} (h : H D = some o) : upd H D o = H := by
  funext x
  unfold upd
  split
  · rename_i e
    subst e
    exact h.symm
  · rfl
/-- something new that is not seen -/
theorem RSt.new0 {wd : Wd} {H : Hp} {st : Sto} {q : Addr} {o : HO} (r : RSt Z wd H st) (hp : H q = none) (ho : ∀ ps, o ≠ .tbl ps) : RSt Z wd (upd H q o) st ∧ XT wd H wd (upd H q o) := by
  have eF : (fun a => wd.F a ∨ (false = true ∧ a = q)) = wd.F := by
    funext a
    simp
  have h := r.new hp ho false
  rw [eF] at h
  exact h
/-- a list that is filled here stands still -/
theorem RSt.block {wd : Wd} {H : Hp} {st : Sto} {q : Addr} {o : HO} (r : RSt Z wd H st) (hq : H q = some o) (ho : ∀ ps, o ≠ .tbl ps) (nF : ¬ wd.F q) (nl : ∀ l, wd.ρ[l]? = some q → ¬ live st l) : RSt Z ⟨wd.ρ, wd.F, fun a => wd.B a ∨ a = q⟩ H st :=
  ⟨r.len, r.obj, r.inj, r.ftr, fun a h => h.elim (r.bls a) fun e => by
    subst e
    exact ⟨⟨_, hq, ho⟩, nF, nl⟩, r.tabs⟩
theorem RSt.unblock {wd : Wd} {H : Hp} {st : Sto} {q : Addr} {vs us : List V} (r : RSt Z wd H st) (hB : wd.B q) (hq : H q = some (.lst vs)) (B0 : Addr → Prop) (h0 : ∀ a, B0 a → wd.B a ∧ a ≠ q) :
    RSt Z ⟨wd.ρ, wd.F, B0⟩ (upd H q (.lst us)) st ∧ Ext wd.F H wd.F (upd H q (.lst us)) := by
  obtain ⟨_, nF, nl⟩ := r.bls q hB
  have e : Ext wd.F H wd.F (upd H q (.lst us)) := ⟨fun b h => ⟨h, upd_ne fun z => nF (z ▸ h)⟩, fun b xs h => by
      rw [upd_ne fun z => by subst z; rw [h] at hq; cases hq]
      exact h, fun b ob u h => by
      rw [upd_ne fun z => by subst z; rw [h] at hq; cases hq]
      exact h, fun b φ h => by
      rw [upd_ne fun z => by subst z; rw [h] at hq; cases hq]
      exact h⟩
  refine ⟨⟨r.len, fun l b ob h1 h2 => ?_, r.inj, fun b h => ?_, fun b h => ?_, fun t ht => ?_⟩, e⟩
  · by_cases hd : ob = .dead
    · subst hd
      trivial
    · exact (r.obj l b ob h1 h2).ext e (upd_ne fun z => by subst z; exact nl l h1 ⟨ob, h2, hd⟩) fun h => h
  · obtain ⟨u, h1, h2⟩ := r.ftr b h
    exact ⟨u, by rw [upd_ne fun z => by subst z; exact nF h]; exact h1, h2⟩
  · obtain ⟨h1, h2⟩ := h0 b h
    obtain ⟨⟨u, hu, ht⟩, h3⟩ := r.bls b h1
    exact ⟨⟨u, by rw [upd_ne h2]; exact hu, ht⟩, h3⟩
  · obtain ⟨ps, h1, h2, h3⟩ := r.tabs t ht
    refine ⟨ps, by rw [upd_ne fun z => by rw [z] at h1; rw [h1] at hq; cases hq]; exact h1, h2, fun pos cv hc => ?_⟩
    obtain ⟨cc, e1, e2⟩ := h3 pos cv hc
    exact ⟨cc, e1, e.ext _ _ e2⟩
theorem RSt.ownF {wd : Wd} {H : Hp} {st : Sto} {q : Addr} {o : HO} (r : RSt Z wd H st) (hq : H q = some o) (ho : ∀ ps, o ≠ .tbl ps) (nB : ¬ wd.B q) (nl : ∀ l, wd.ρ[l]? = some q → ¬ live st l) : RSt Z ⟨wd.ρ, fun a => wd.F a ∨ a = q, wd.B⟩ H st ∧ XT wd H ⟨wd.ρ, fun a => wd.F a ∨ a = q, wd.B⟩ H := by
  have e : Ext wd.F H (fun a => wd.F a ∨ a = q) H := ⟨fun b h => ⟨.inl h, rfl⟩, fun _ _ h => h, fun _ _ _ h => h, fun _ _ h => h⟩
  refine ⟨⟨r.len, fun l b ob h1 h2 => ?_, r.inj, fun b h => ?_, fun b h => ?_, r.tabs⟩, ⟨[], by simp⟩, e, rfl, fun _ _ => rfl⟩
  · by_cases hd : ob = .dead
    · subst hd
      trivial
    · refine (r.obj l b ob h1 h2).ext e rfl fun h => h.elim (fun z => z) fun z => ?_
      subst z
      exact absurd ⟨ob, h2, hd⟩ (nl l h1)
  · rcases h with h | h
    · exact r.ftr b h
    · subst h
      exact ⟨_, hq, ho⟩
  · obtain ⟨h1, h2, h3⟩ := r.bls b h
    exact ⟨h1, fun z => z.elim h2 fun e => nB (e ▸ h), h3⟩
theorem RSt.ownM {wd : Wd} {H : Hp} {st : Sto} {q : Addr} {m : MO} (r : RSt Z wd H st) (ho : OR Z wd.F H q m) (nB : ¬ wd.B q) (nl : ∀ l, wd.ρ[l]? = some q → ¬ live st l) :
    RSt Z ⟨wd.ρ ++ [q], wd.F, wd.B⟩ H (st ++ [m]) ∧ XT wd H ⟨wd.ρ ++ [q], wd.F, wd.B⟩ H := by
  have atl : ∀ {l : Nat} {a : Addr}, (wd.ρ ++ [q])[l]? = some a → (l < wd.ρ.length ∧ wd.ρ[l]? = some a) ∨ (l = wd.ρ.length ∧ a = q) := fun {l a} h => by
    by_cases hl : l < wd.ρ.length
    · rw [List.getElem?_append_left hl] at h
      exact .inl ⟨hl, h⟩
    · rw [List.getElem?_append_right (by omega)] at h
      obtain ⟨h1, h2⟩ := List.getElem?_eq_some_iff.mp h
      have : l - wd.ρ.length = 0 := by simp at h1; omega
      simp [this] at h2
      exact .inr ⟨by omega, h2.symm⟩
  have ats : ∀ {l : Nat} {ob : MO}, l < wd.ρ.length → (st ++ [m])[l]? = some ob → st[l]? = some ob := fun {l ob} hl h => by
    rw [List.getElem?_append_left (by rw [← r.len]; exact hl)] at h
    exact h
  refine ⟨⟨by simp [r.len], fun l a ob h1 h2 => ?_, fun l l' a h1 h2 h3 h4 => ?_, r.ftr, fun a h => ?_, r.tabs⟩, ⟨[q], rfl⟩, .refl, rfl, fun _ _ => rfl⟩
  · rcases atl h1 with ⟨hl, h1⟩ | ⟨hl, rfl⟩
    · exact r.obj l a ob h1 (ats hl h2)
    · rw [hl, r.len, List.getElem?_append_right (Nat.le_refl _)] at h2
      simp at h2
      subst h2
      exact ho
  · rcases atl h1 with ⟨hl, q1⟩ | ⟨hl, e1⟩ <;> rcases atl h2 with ⟨hl', q2⟩ | ⟨hl', e2⟩
    · obtain ⟨ob, z1, z2⟩ := h3
      obtain ⟨ob', z1', z2'⟩ := h4
      exact r.inj l l' a q1 q2 ⟨ob, ats hl z1, z2⟩ ⟨ob', ats hl' z1', z2'⟩
    · subst e2
      obtain ⟨ob, z1, z2⟩ := h3
      exact absurd ⟨ob, ats hl z1, z2⟩ (nl l q1)
    · subst e1
      obtain ⟨ob, z1, z2⟩ := h4
      exact absurd ⟨ob, ats hl' z1, z2⟩ (nl l' q2)
    · omega
  · obtain ⟨h1, h2, h3⟩ := r.bls a h
    refine ⟨h1, h2, fun l hl ⟨ob, z1, z2⟩ => ?_⟩
    rcases atl hl with ⟨hl', q1⟩ | ⟨_, e1⟩
    · exact h3 l q1 ⟨ob, ats hl' z1, z2⟩
    · exact nB (e1 ▸ h)
/-- all but the tables stays -/
theorem RSt.extN {wd : Wd} {H H' : Hp} {st : Sto} (r : RSt Z wd H st) (x : LamX.ExtN H H') (t : LamX.Tabs Z.T H') : RSt Z wd H' st ∧ XT wd H wd H' := by
  have e : Ext wd.F H wd.F H' := ⟨fun a h => ⟨h, by
      obtain ⟨o, h1, h2⟩ := r.ftr a h
      rw [h1, x a o h1 h2]⟩, fun a xs h => x a _ h fun ps z => (by cases z), fun a o u h => x a _ h fun ps z => (by cases z), fun a φ h => x a _ h fun ps z => (by cases z)⟩
  refine ⟨⟨r.len, fun l a o h1 h2 => ?_, r.inj, fun a h => ?_, fun a h => ?_, t⟩, ⟨[], by simp⟩, e, rfl, fun a h => ?_⟩
  · have q := r.obj l a o h1 h2
    cases o with
    | dead => trivial
    | lst xs =>
      obtain ⟨vs, g1, _⟩ := id q
      exact q.ext e (by rw [g1, x a _ g1 fun ps z => by cases z]) fun h => h
    | dct kvs =>
      obtain ⟨ks, g1, _⟩ := id q
      exact q.ext e (by rw [g1, x a _ g1 fun ps z => by cases z]) fun h => h
  · obtain ⟨o, h1, h2⟩ := r.ftr a h
    exact ⟨o, x a o h1 h2, h2⟩
  · obtain ⟨⟨u, hu, ht⟩, h3⟩ := r.bls a h
    exact ⟨⟨u, x a u hu ht, ht⟩, h3⟩
  · obtain ⟨⟨u, hu, ht⟩, h3⟩ := r.bls a h
    rw [hu, x a u hu ht]
theorem wipe_sub (vs : List Nat) : ∀ (ws : List Nat) (σ : L2.St), (∀ i ∈ ws, i ∈ vs) → wipe (wipe σ ws) vs = wipe σ vs
  | [], _, _ => rfl
  | w :: ws, σ, h => by
    simp only [wipe]
    rw [wipe_set w none vs _ (h w (by simp)), wipe_sub vs ws σ fun i hi => h i (by simp [hi])]
/-- the tests of a comprehension -/
def WTs (X : Cx) (ifs : List Expr) : TT := fun σ H Q => ∀ pins s, Inv X pins σ H s → wpAny (model X.prog X.w) X.A (forIn ifs true fun c r => if r = true then do let ok ← isTrue c X.env (eval c X.env); pure (ForInStep.yield ok) else pure (ForInStep.yield r)) (TP X pins σ Q) X.xe s
theorem pts_w {X : Cx} {ifs : List Expr} : PTs X ifs (WTs X ifs) := ⟨fun pins s _ _ _ I h => h pins s I⟩
variable (Z X) in
def SndTs (W : WX) (c : Cl) (Ex : EXR) (ifs : List Expr) (m : MT) : Prop :=
  ∀ (σd : Sg) (st : Sto) (wd : Wd) (σ : L2.St) (H : Hp) (Q : Bool → Hp → Prop), RSt Z wd H st → RSg Z wd H Ex σd σ → Post Z RB W σ wd H Q (m c σd st) → WTs X ifs σ H Q
theorem snd_tsnil : SndTs Z X W c Ex [] EV.tYes := fun σd st wd σ H Q rs rg h pins s I => pts_nil.run pins s σ H Q I (h true wd H .refl rs rfl)
theorem snd_tsone (ha : SndT Z X W c Ex a ta) : SndTs Z X W c Ex [a] ta := fun σd st wd σ H Q rs rg h pins s I => (pts_one pt_w).run pins s σ H Q I (ha σd st wd σ H Q rs rg h)
/-- a block's context -/
abbrev Bk (X : Cx) (scope : Scope) (s : Shared) (H : Hp) (C : Addr) (cl : List (Str × Addr)) (fp : List Addr) : Cx := X.blk s H scope (compEnvC scope cl C X.env) fp
/-- the filling, whatever is wanted behind it -/
theorem lc_fill (hK : X.K = Z.K) {tg : Expr} {ifs : List Expr} {scope : Scope} {is : List Nat} {vs : List Nat} {g : MG}
    (hi : ∀ i ∈ is, i ∈ vs)
    (hg : ∀ s H C cl fp, SndG Z (Bk X scope s H C cl fp) c Ex tg is g) (ht : ∀ s H C cl fp, SndTs Z (Bk X scope s H C cl fp) W0 c Ex ifs ta) (he : ∀ s H C cl fp, SndE Z (Bk X scope s H C cl fp) W0 c Ex e me)
    {σd : Sg} {σ : L2.St} {q : List P × Option Nat} {J : It} {st1 stE : Sto} {wd1 : Wd} {H1 : Hp} {res : List P} {Q : VK} (rs1 : RSt Z wd1 H1 st1) (rg1 : RSg Z wd1 H1 Ex σd σ) (ri : RI Z wd1 H1 q J)
    (hrun : lcT c g ta me (wipeD σd vs) q.1 q.2 q.1 [] st1 = .ok res stE)
    (hQ : ∀ D wd' H' us, XT wd1 H1 wd' H' → RSt Z wd' H' stE → H' D = some (.lst us) → BrL Z wd'.F H' res us → ¬ wd'.F D → ¬ wd'.B D → (∀ l, wd'.ρ[l]? = some D → ¬ live stE l) → Q (.ref D) H') :
    ∀ D, H1 D = none → ∃ W : Nat → Nat → Hp → Prop, (∃ m, W 0 m (upd H1 D (.lst []))) ∧ ∀ i m H, W i m H →
      (J.stop i H ∧ Q (.ref D) H) ∨ (J.go i H ∧ ∃ Nx : Hp → Prop, (∀ H', Nx H' → ∃ m', m' < m ∧ W (i + 1) m' H') ∧ ∀ x H', J.yld i H x H' → (∀ s H0 C cl fp, WG (Bk X scope s H0 C cl fp) tg x (wipe σ vs) H' fun σ2 H2 => wipe σ2 vs = wipe σ vs ∧ ∀ s H0 C cl fp, WTs (Bk X scope s H0 C cl fp) ifs σ2 H2 fun b H3 =>
        if b = true then ∀ s H0 C cl fp, WE (Bk X scope s H0 C cl fp) e σ2 H3 fun y H4 => ∃ acc, H4 D = some (.lst acc) ∧ acc.length < sizeLine ∧ Nx (upd H4 D (.lst (acc ++ [y]))) else Nx H3)) := by
  intro D hD
  let run := fun (k : List P) (acc : List P) => lcT c g ta me (wipeD σd vs) q.1 q.2 k acc
  refine ⟨fun i m H => m = q.1.length - i ∧ i ≤ q.1.length ∧ ∃ (wd' : Wd) (st' : Sto) (acc : List P) (us : List V), XT wd1 H1 wd' H ∧ RSt Z wd' H st' ∧ H D = some (.lst us) ∧ BrL Z wd'.F H acc us ∧ ¬ wd'.F D ∧ ¬ wd'.B D ∧ (∀ l, wd'.ρ[l]? = some D → ¬ live st' l) ∧ run (q.1.drop i) acc st' = .ok res stE, ?_, ?_⟩
  · have nF : ¬ wd1.F D := fun f => by
      obtain ⟨o, e, _⟩ := rs1.ftr D f
      rw [hD] at e
      cases e
    have nB : ¬ wd1.B D := fun f => by
      obtain ⟨⟨o, e, _⟩, _⟩ := rs1.bls D f
      rw [hD] at e
      cases e
    have nl : ∀ l, wd1.ρ[l]? = some D → ¬ live st1 l := fun l hl ⟨ob, z1, z2⟩ => by
      obtain ⟨u, hu⟩ := (rs1.obj l D ob hl z1).there z2
      rw [hD] at hu
      cases hu
    obtain ⟨r0, x0⟩ := rs1.new0 (o := .lst []) hD (fun ps z => by cases z)
    exact ⟨q.1.length, by simp, Nat.zero_le _, wd1, st1, [], [], x0, r0, upd_same, .nil, nF, nB, nl, hrun⟩
  · rintro i m H ⟨rfl, hile, wd', st', acc, us, xt, rs', hH, bl, nF, nB, nl, hr⟩
    by_cases hlt : i < q.1.length
    · right
      have hdrop : q.1.drop i = q.1[i] :: q.1.drop (i + 1) := List.drop_eq_getElem_cons hlt
      have hget : q.1[i]? = some q.1[i] := List.getElem?_eq_getElem hlt
      simp only [run, hdrop, lcT] at hr
      split at hr
      · rename_i hst
        obtain ⟨_, hy⟩ := ri wd' H st' xt.pre xt.ext rs' hst
        obtain ⟨hgo, _⟩ := hy i _ hget
        refine ⟨hgo, fun H' => ∃ m', m' < q.1.length - i ∧ (m' = q.1.length - (i + 1) ∧ i + 1 ≤ q.1.length ∧ ∃ (wd' : Wd) (st' : Sto) (acc : List P) (us : List V), XT wd1 H1 wd' H' ∧ RSt Z wd' H' st' ∧ H' D = some (.lst us) ∧ BrL Z wd'.F H' acc us ∧ ¬ wd'.F D ∧ ¬ wd'.B D ∧ (∀ l, wd'.ρ[l]? = some D → ¬ live st' l) ∧ run (q.1.drop (i + 1)) acc st' = .ok res stE), fun H' h => h, fun x H' y => ?_⟩
        -- the list stands still while the parts run
        have rb := rs'.block hH (fun ps z => by cases z) nF nl
        obtain ⟨_, hyb⟩ := ri ⟨wd'.ρ, wd'.F, fun a => wd'.B a ∨ a = D⟩ H st' xt.pre xt.ext rb hst
        obtain ⟨wd2, x2, r2, bx⟩ := (hyb i _ hget).2 x H' y
        have back : ∀ {wdk : Wd} {Hk : Hp} {stk : Sto} {us' : List V}, XT ⟨wd'.ρ, wd'.F, fun a => wd'.B a ∨ a = D⟩ H wdk Hk → RSt Z wdk Hk stk → XT wd1 H1 ⟨wdk.ρ, wdk.F, wd'.B⟩ (upd Hk D (.lst us')) ∧ RSt Z ⟨wdk.ρ, wdk.F, wd'.B⟩ (upd Hk D (.lst us')) stk ∧ Hk D = some (.lst us) ∧ BrL Z wdk.F (upd Hk D (.lst us')) acc us ∧ Ext wdk.F Hk wdk.F (upd Hk D (.lst us')) ∧ ¬ wdk.F D ∧ (∀ l, wdk.ρ[l]? = some D → ¬ live stk l) := fun {wdk Hk stk us'} xk rk => by
          have hDk : Hk D = some (.lst us) := (xk.bl.2 D (.inr rfl)).trans hH
          have hBD : wdk.B D := by
            rw [xk.bl.1]
            exact .inr rfl
          obtain ⟨ru, eu⟩ := rk.unblock (us := us') hBD hDk wd'.B fun a ha => ⟨by rw [xk.bl.1]; exact .inl ha, by intro z; rw [z] at ha; exact nB ha⟩
          obtain ⟨_, nFk, nlk⟩ := rk.bls D hBD
          have xu : XT wd' H ⟨wdk.ρ, wdk.F, wd'.B⟩ (upd Hk D (.lst us')) := ⟨xk.pre, xk.ext.trans eu, rfl, fun a ha => (upd_ne (by intro z; rw [z] at ha; exact nB ha)).trans (xk.bl.2 a (.inl ha))⟩
          exact ⟨xt.trans xu, ru, hDk, BrL.ext (xk.ext.trans eu) _ _ bl, eu, nFk, nlk⟩
        intro s H0 C cl fp
        have rgb : RSg Z wd2 H' Ex (wipeD σd vs) (wipe σ vs) := by
          have r0 := (rg1.ext xt).wipe vs
          have r1 : RSg Z ⟨wd'.ρ, wd'.F, fun a => wd'.B a ∨ a = D⟩ H Ex (wipeD σd vs) (wipe σ vs) := ⟨r0.len, r0.at_⟩
          exact r1.ext x2
        refine hg s H0 C cl fp (wipeD σd vs) st' wd2 (wipe σ vs) H' (.p q.1[i]) x _ r2 rgb bx ?_
        unfold Mo.bind at hr
        cases eg : g c (.p q.1[i]) (wipeD σd vs) st' with
        | stk => rw [eg] at hr; cases hr
        | exn k y s => rw [eg] at hr; cases hr
        | ok σ2d s2 =>
          rw [eg] at hr
          simp only [Res.bind] at hr
          intro σ2 wd3 H3 x3 r3 ⟨rg3, hw⟩
          refine ⟨(hw vs hi).trans (wipe_sub vs vs σ fun _ h => h), fun s H0 C cl fp => ?_⟩
          refine ht s H0 C cl fp σ2d s2 wd3 σ2 H3 _ r3 rg3 ?_
          cases et : ta c σ2d s2 with
          | stk => rw [et] at hr; cases hr
          | exn k y s => rw [et] at hr; cases hr
          | ok k s3 =>
            rw [et] at hr
            simp only at hr
            intro k' wd4 H4 x4 r4 ek
            cases ek
            cases k with
            | false =>
              simp only [Bool.false_eq_true, if_false] at hr ⊢
              obtain ⟨q1, q2, q3, q4, q5, q6, q7⟩ := back (us' := us) ((x2.trans x3).trans x4) r4
              rw [upd_self q3] at q1 q2 q4
              exact ⟨_, by omega, rfl, hlt, _, s3, acc, us, q1, q2, q3, q4, q6, nB, q7, hr⟩
            | true =>
              simp only [if_true] at hr ⊢
              intro s H0 C cl fp
              refine he s H0 C cl fp σ2d s3 wd4 σ2 H4 _ r4 (rg3.ext x4) ?_
              cases ee : me c σ2d s3 with
              | stk => rw [ee] at hr; cases hr
              | exn k y s => rw [ee] at hr; cases hr
              | ok dv s4 =>
                rw [ee] at hr
                simp only at hr
                intro y wd5 H5 x5 r5 bv
                split at hr
                · rename_i v s5 hz
                  split at hr
                  · rename_i hl
                    obtain ⟨wd6, r6, x6, bv6⟩ := r5.frz bv hz
                    obtain ⟨q1, q2, q3, q4, q5, q6, q7⟩ := back (us' := us ++ [y]) ((((x2.trans x3).trans x4).trans x5).trans x6) r6
                    refine ⟨us, q3, by rw [sizeL, ← bl.length]; exact hl, _, by omega, rfl, hlt, _, s5, acc ++ [v], us ++ [y], q1, q2, upd_same, BrL.append q4 (.cons (Br.ext q5 _ _ bv6) .nil), q6, nB, q7, hr⟩
                  · cases hr
                · cases hr
      · cases hr
    · left
      have hie : i = q.1.length := by omega
      subst hie
      simp only [run, List.drop_length, lcT] at hr
      split at hr
      · rename_i hst
        cases hr
        exact ⟨(ri wd' H _ xt.pre xt.ext rs' hst).1, hQ D wd' H us xt rs' hH bl nF nB nl⟩
      · cases hr
def AG (X : Cx) (scope : Scope) (tg : Expr) : TG := fun v σ H Q => ∀ s H0 C cl fp, WG (Bk X scope s H0 C cl fp) tg v σ H Q
def AT (X : Cx) (scope : Scope) (ifs : List Expr) : TT := fun σ H Q => ∀ s H0 C cl fp, WTs (Bk X scope s H0 C cl fp) ifs σ H Q
def AE (X : Cx) (scope : Scope) (e : Expr) : TE := fun σ H Q => ∀ s H0 C cl fp, WE (Bk X scope s H0 C cl fp) e σ H Q
theorem tLc_of (hK : X.K = Z.K) {tg iter : Expr} {ifs : List Expr} {scope : Scope} {is : List Nat} {vs : List Nat} {g : MG} {w : Src}
    (hi : ∀ i ∈ is, i ∈ vs) (hw : SndI Z X W c Ex tg iter w)
    (hg : ∀ s H C cl fp, SndG Z (Bk X scope s H C cl fp) c Ex tg is g) (ht : ∀ s H C cl fp, SndTs Z (Bk X scope s H C cl fp) W0 c Ex ifs ta) (he : ∀ s H C cl fp, SndE Z (Bk X scope s H C cl fp) W0 c Ex e me)
    {k : List P → Mo D} {σd : Sg} {st : Sto} {wd : Wd} {σ : L2.St} {H : Hp} {Q : VK} (rs : RSt Z wd H st) (rg : RSg Z wd H Ex σd σ)
    (h : Post Z (RD Z) W σ wd H Q (((w c σd).bind fun q => (noX (lcT c g ta me (wipeD σd vs) q.1 q.2 q.1 [])).bind k) st))
    (hk : ∀ (wd1 : Wd) (H1 : Hp) (res : List P) (stE : Sto) (D : Addr) (us : List V), Post Z (RD Z) W σ wd1 H1 Q (k res stE) → RSt Z wd1 H1 stE → H1 D = some (.lst us) → BrL Z wd1.F H1 res us → ¬ wd1.F D → ¬ wd1.B D → (∀ l, wd1.ρ[l]? = some D → ¬ live stE l) → Q (.ref D) H1) :
    L2.tLc (WI X tg iter) (AG X scope tg) (AT X scope ifs) (AE X scope e) vs σ H Q := by
  refine hw σd st wd σ H _ rs rg (post_bind h fun q st1 J wd1 H1 e1 rs1 ri h1 => ?_)
  unfold Mo.bind noX at h1
  cases er : lcT c g ta me (wipeD σd vs) q.1 q.2 q.1 [] st1 with
  | stk => rw [er] at h1; exact h1.elim
  | exn k y s => rw [er] at h1; exact h1.elim
  | ok res stE =>
    rw [er] at h1
    simp only [Res.bind] at h1
    exact lc_fill hK hi hg ht he rs1 (rg.ext e1) ri er fun D wd' H' us xt rs' hD bl nF nB nl => hk wd' H' res stE D us (Post.later h1 xt) rs' hD bl nF nB nl
theorem lc_p {wd1 : Wd} {H1 : Hp} {res : List P} {stE : Sto} {q : Addr} {us : List V} {σ : L2.St} {Q : VK} (h : Post Z (RD Z) W σ wd1 H1 Q (Mo.pure (D.p (.lst res)) stE)) (rs : RSt Z wd1 H1 stE) (hD : H1 q = some (.lst us)) (bl : BrL Z wd1.F H1 res us) (nF : ¬ wd1.F q) (nB : ¬ wd1.B q) (nl : ∀ l, wd1.ρ[l]? = some q → ¬ live stE l) : Q (.ref q) H1 := by
  obtain ⟨r, x⟩ := rs.ownF hD (fun ps z => by cases z) nB nl
  exact h _ _ _ x r (.lst ⟨.inr rfl, .inl hD⟩ (BrL.ext x.ext _ _ bl))
theorem lc_m {wd1 : Wd} {H1 : Hp} {res : List P} {stE : Sto} {q : Addr} {us : List V} {σ : L2.St} {Q : VK} (h : Post Z (RD Z) W σ wd1 H1 Q (newO (.lst res) stE)) (rs : RSt Z wd1 H1 stE) (hD : H1 q = some (.lst us)) (bl : BrL Z wd1.F H1 res us) (nF : ¬ wd1.F q) (nB : ¬ wd1.B q) (nl : ∀ l, wd1.ρ[l]? = some q → ¬ live stE l) : Q (.ref q) H1 := by
  obtain ⟨r, x⟩ := rs.ownM (m := .lst res) ⟨us, hD, bl, nF⟩ nB nl
  exact h _ _ _ x r ⟨q, rfl, by simp [← rs.len]⟩
theorem snd_lc (hK : X.K = Z.K) (hc : X.calm = true) (nd : X.N.Nodup) {tg iter : Expr} {ifs : List Expr} {scope : Scope} {own : List (Str × Nat)} {is : List Nat} {g : MG} {w : Src} (ok : BlkOk X.N X.env.scope scope own) (hs : ∀ x, foldedSetIterable iter X.env x = pure x)
    (hi : ∀ i ∈ is, i ∈ own.map (·.2)) (hw : SndI Z X W c Ex tg iter w)
    (hg : ∀ s H C cl fp, SndG Z (Bk X scope s H C cl fp) c Ex tg is g) (ht : ∀ s H C cl fp, SndTs Z (Bk X scope s H C cl fp) W0 c Ex ifs ta) (he : ∀ s H C cl fp, SndE Z (Bk X scope s H C cl fp) W0 c Ex e me) :
    SndE Z X W c Ex (.ListComp e [⟨tg, iter, ifs, 0⟩] scope pos) (eLc w (own.map (·.2)) g ta me) := by
  intro σd st wd σ H Q rs rg h
  refine we_of (pe_lc (g := AG X scope tg) (tt := AT X scope ifs) (te := AE X scope e) hc nd pi_w ok (fun s H C cl fp => ⟨fun pins s' σ H v u Q I r q => q s _ C cl fp pins s' u I r⟩) (fun s H C cl fp => ⟨fun pins s' σ H Q I q => q s _ C cl fp pins s' I⟩) (fun s H C cl fp => ⟨fun pins s' σ H Q I q => q s _ C cl fp pins s' I⟩) hs) ?_
  exact tLc_of hK hi hw hg ht he rs rg h fun wd1 H1 res stE D us => lc_p
theorem snd_lcM (hK : X.K = Z.K) (hc : X.calm = true) (nd : X.N.Nodup) {tg iter : Expr} {ifs : List Expr} {scope : Scope} {own : List (Str × Nat)} {is : List Nat} {g : MG} {w : Src} (ok : BlkOk X.N X.env.scope scope own) (hs : ∀ x, foldedSetIterable iter X.env x = pure x)
    (hi : ∀ i ∈ is, i ∈ own.map (·.2)) (hw : SndI Z X W c Ex tg iter w)
    (hg : ∀ s H C cl fp, SndG Z (Bk X scope s H C cl fp) c Ex tg is g) (ht : ∀ s H C cl fp, SndTs Z (Bk X scope s H C cl fp) W0 c Ex ifs ta) (he : ∀ s H C cl fp, SndE Z (Bk X scope s H C cl fp) W0 c Ex e me) :
    SndE Z X W c Ex (.ListComp e [⟨tg, iter, ifs, 0⟩] scope pos) (eLcM w (own.map (·.2)) g ta me) := by
  intro σd st wd σ H Q rs rg h
  refine we_of (pe_lc (g := AG X scope tg) (tt := AT X scope ifs) (te := AE X scope e) hc nd pi_w ok (fun s H C cl fp => ⟨fun pins s' σ H v u Q I r q => q s _ C cl fp pins s' u I r⟩) (fun s H C cl fp => ⟨fun pins s' σ H Q I q => q s _ C cl fp pins s' I⟩) (fun s H C cl fp => ⟨fun pins s' σ H Q I q => q s _ C cl fp pins s' I⟩) hs) ?_
  exact tLc_of hK hi hw hg ht he rs rg h fun wd1 H1 res stE D us => lc_m
end
end EV
end
section
/-! Ev11: statements. -/
namespace EV
open PySem PySem.Spec PyProof.Rows L2
section
variable {Z : St0} {X : Cx} {W : WX} {c : Cl} {Ex : EXR} {a b d e : Expr} {ma mb md me : ME} {ta tb : MT} {pos p apos cpos : Pos}
def PostS (Z : St0) (W : WX) (Ex : EXR) (wd : Wd) (H : Hp) (D : Ends) : SR → Prop
  | .ok (.nx σd) s => ∀ σ wd' H', XT wd H wd' H' → RSt Z wd' H' s → RSg Z wd' H' Ex σd σ → D.nx σ H'
  | .ok (.rt d) s => ∀ v wd' H', XT wd H wd' H' → RSt Z wd' H' s → BrD Z wd' H' d v → D.rt v H'
  | .ok (.bk σd) s => ∀ σ wd' H', XT wd H wd' H' → RSt Z wd' H' s → RSg Z wd' H' Ex σd σ → D.bk σ H'
  | .ok (.ct σd) s => ∀ σ wd' H', XT wd H wd' H' → RSt Z wd' H' s → RSg Z wd' H' Ex σd σ → D.ct σ H'
  | .exn k a σd s => ∀ cls dx σ wd' H', XT wd H wd' H' → RSt Z wd' H' s → RSg Z wd' H' Ex σd σ → ExO Z wd' H' k a cls dx → W cls dx σ H'
  | .stk => False
theorem PostS.later {wd wd1 : Wd} {H H1 : Hp} {D : Ends} {r : SR} (h : PostS Z W Ex wd H D r) (e : XT wd H wd1 H1) : PostS Z W Ex wd1 H1 D r := by
  cases r with
  | ok f s =>
    cases f with
    | nx σd => exact fun σ wd' H' e' => h σ wd' H' (e.trans e')
    | rt d => exact fun σ wd' H' e' => h σ wd' H' (e.trans e')
    | bk σd => exact fun σ wd' H' e' => h σ wd' H' (e.trans e')
    | ct σd => exact fun σ wd' H' e' => h σ wd' H' (e.trans e')
  | exn k a σd s => exact fun cls dx σ wd' H' e' => h cls dx σ wd' H' (e.trans e')
  | stk => exact h
/-- a part of a statement -/
theorem post_st {α β : Type} {R : Wd → Hp → α → β → Prop} {σd : Sg} {σ : L2.St} {wd : Wd} {H : Hp} {D : Ends} {Q1 : β → Hp → Prop} {r : Res α} {f : α → Sto → SR} (rg : RSg Z wd H Ex σd σ)
    (h : PostS Z W Ex wd H D (r.st σd f)) (k : ∀ a st b wd1 H1, XT wd H wd1 H1 → RSt Z wd1 H1 st → R wd1 H1 a b → PostS Z W Ex wd1 H1 D (f a st) → Q1 b H1) : Post Z R W σ wd H Q1 r := by
  cases r with
  | ok a st => exact fun b wd' H' e rs rb => k a st b wd' H' e rs rb (PostS.later h e)
  | exn c a st => exact fun cls dx wd' H' e rs ex => h cls dx σ wd' H' e rs (rg.ext e) ex
  | stk => exact h
/-- a part that raises nothing -/
theorem post_st0 {α β : Type} {R : Wd → Hp → α → β → Prop} {σd : Sg} {σ : L2.St} {wd : Wd} {H : Hp} {D : Ends} {Q1 : β → Hp → Prop} {m : Mo α} {s : Sto} {f : α → Sto → SR}
    (h : PostS Z W Ex wd H D ((noX m s).st σd f)) (k : ∀ a st b wd1 H1, XT wd H wd1 H1 → RSt Z wd1 H1 st → R wd1 H1 a b → PostS Z W Ex wd1 H1 D (f a st) → Q1 b H1) : Post Z R W0 σ wd H Q1 (m s) := by
  unfold noX at h
  cases e : m s with
  | ok a st =>
    rw [e] at h
    exact fun b wd' H' e rs rb => k a st b wd' H' e rs rb (PostS.later h e)
  | exn c a st => rw [e] at h; exact h.elim
  | stk => rw [e] at h; exact h
variable (Z X) in
def SndS (W : WX) (c : Cl) (Ex : EXR) (st : Stmt) (m : MS) : Prop :=
  ∀ (σd : Sg) (s : Sto) (wd : Wd) (σ : L2.St) (H : Hp) (D : Ends), RSt Z wd H s → RSg Z wd H Ex σd σ → PostS Z W Ex wd H D (m c σd s) → WS X st D σ H
variable (Z X) in
def SndSs (W : WX) (c : Cl) (Ex : EXR) (st : List Stmt) (m : MS) : Prop :=
  ∀ (σd : Sg) (s : Sto) (wd : Wd) (σ : L2.St) (H : Hp) (D : Ends), RSt Z wd H s → RSg Z wd H Ex σd σ → PostS Z W Ex wd H D (m c σd s) → WSs X st D σ H
variable {st : Stmt} {sts : List Stmt} {m m1 m2 : MS}
theorem snd_snil : SndSs Z X W c Ex [] sSkip := fun σd s wd σ H D rs rg h => wss_of pss_nil (h σ wd H .refl rs rg)
theorem snd_scons (h1 : SndS Z X W c Ex st m1) (h2 : SndSs Z X W c Ex sts m2) : SndSs Z X W c Ex (st :: sts) (sSeq m1 m2) := by
  intro σd s wd σ H D rs rg h
  refine wss_of (pss_cons ps_w pss_w) ?_
  refine h1 σd s wd σ H _ rs rg ?_
  unfold sSeq at h
  cases e : m1 c σd s with
  | ok f s1 =>
    rw [e] at h
    cases f with
    | nx σ1 => exact fun σ' wd' H' x rs' rg' => h2 σ1 s1 wd' σ' H' D rs' rg' (PostS.later h x)
    | rt d => exact h
    | bk σ1 => exact h
    | ct σ1 => exact h
  | exn k a σ1 s1 => rw [e] at h; exact h
  | stk => rw [e] at h; exact h
theorem snd_pass : SndS Z X W c Ex (.Pass pos) sSkip := fun σd s wd σ H D rs rg h => ws_of ps_pass (h σ wd H .refl rs rg)
theorem snd_brk : SndS Z X W c Ex (.Break pos) sBrk := fun σd s wd σ H D rs rg h => ws_of ps_break (h σ wd H .refl rs rg)
theorem snd_cnt' : SndS Z X W c Ex (.Continue pos) sCnt := fun σd s wd σ H D rs rg h => ws_of ps_continue (h σ wd H .refl rs rg)
theorem snd_doc {x : Str} {j : Nat} {pos' : Pos} : SndS Z X W c Ex (.Expr (.Constant (.str x) j pos) pos') sSkip := fun σd s wd σ H D rs rg h => ws_of ps_doc (h σ wd H .refl rs rg)
def isComp : Expr → Bool
  | .ListComp .. | .SetComp .. | .DictComp .. => true
  | _ => false
theorem swaps_no (h : isComp e = false) (t : Option Expr) (l : Nat) (env : Env) : swapsWith e t l env = pure false := by
  cases e <;> first | rfl | cases h
theorem snd_expr (hc : isComp e = false) (he : SndE Z X W c Ex e me) : SndS Z X W c Ex (.Expr e pos) (sExpr me) := by
  intro σd s wd σ H D rs rg h
  refine ws_of (ps_expr pe_w (swaps_no hc _ _ _)) ?_
  exact he σd s wd σ H _ rs rg (post_st rg h fun x st1 v wd1 H1 e1 rs1 b1 h1 => h1 σ wd1 H1 .refl rs1 (rg.ext e1))
theorem snd_ret (he : SndE Z X W c Ex e me) : SndS Z X W c Ex (.Return (some e) pos) (sRet me) := by
  intro σd s wd σ H D rs rg h
  refine ws_of (ps_ret pe_w) ?_
  exact he σd s wd σ H _ rs rg (post_st rg h fun x st1 v wd1 H1 e1 rs1 b1 h1 => h1 v wd1 H1 .refl rs1 b1)
theorem snd_retN : SndS Z X W c Ex (.Return none pos) sRetN := fun σd s wd σ H D rs rg h => ws_of ps_retN (h .non wd H .refl rs .non)
theorem snd_sif {xs ys : List Stmt} (ht : SndT Z X W c Ex a ta) (h1 : SndSs Z X W c Ex xs m1) (h2 : SndSs Z X W c Ex ys m2) : SndS Z X W c Ex (.If a xs ys pos) (sIf ta m1 m2) := by
  intro σd s wd σ H D rs rg h
  refine ws_of (ps_if pt_w pss_w pss_w) ?_
  refine ht σd s wd σ H _ rs rg (post_st rg h fun x st1 v wd1 H1 e1 rs1 b1 q => ?_)
  cases b1
  cases x
  · rw [if_neg Bool.false_ne_true] at q ⊢
    exact h2 σd st1 wd1 σ H1 D rs1 (rg.ext e1) q
  · rw [if_pos rfl] at q ⊢
    exact h1 σd st1 wd1 σ H1 D rs1 (rg.ext e1) q
/-! ### assignments -/
theorem asg_core {tg : Expr} {is : List Nat} {g : MG} (he : SndE Z X W c Ex e me) (hg : SndG Z X c Ex tg is g) {σd : Sg} {s : Sto} {wd : Wd} {σ : L2.St} {H : Hp} {D : Ends} (rs : RSt Z wd H s) (rg : RSg Z wd H Ex σd σ) (h : PostS Z W Ex wd H D (sAsg me g c σd s)) :
    tAsg (WE X e) (WG X tg) D σ H := by
  refine he σd s wd σ H _ rs rg (post_st rg h fun x st1 v wd1 H1 e1 rs1 b1 h1 => ?_)
  exact hg σd st1 wd1 σ H1 x v _ rs1 (rg.ext e1) b1 (post_st0 h1 fun σ1d st2 σ1 wd2 H2 e2 rs2 r2 h2 => h2 σ1 wd2 H2 .refl rs2 r2.1)
/-- name = e -/
theorem snd_set {i : Nat} {x : Str} {pos' : Pos} (nd : X.N.Nodup) (hN : X.N[i]? = some x) (hx : Loc X.env.scope x) (hf : X.fn x = true ∨ X.env.scope.names.lookup x = some .local) (hs : swapsWith e (some (.Name x pos')) pos.line X.env = pure false) (he : SndE Z X W c Ex e me) :
    SndS Z X W c Ex (.Assign [.Name x pos'] e pos) (sAsg me (gN i)) := by
  intro σd s wd σ H D rs rg h
  refine ws_of (ps_set nd hN hx pe_w hs hf) ?_
  refine he σd s wd σ H _ rs rg (post_st rg h fun x st1 v wd1 H1 e1 rs1 b1 h1 => ?_)
  exact h1 _ wd1 H1 .refl rs1 ((rg.ext e1).set i (BrE.of b1))
theorem snd_asg {tg : Expr} {is : List Nat} {g : MG} (hs : swapsWithSole [tg] e pos.line X.env = pure false) (hw : swappedStores [tg] e X.env = pure none) (h1 : isStarE tg = false) (he : SndE Z X W c Ex e me) (hg : SndG Z X c Ex tg is g) :
    SndS Z X W c Ex (.Assign [tg] e pos) (sAsg me g) := by
  intro σd s wd σ H D rs rg h
  exact ws_of (ps_asg pe_w pg_w hs hw (by rw [assign_cons h1] <;> rfl)) (asg_core he hg rs rg h)
/-- name = [..] on one line -/
theorem snd_setLc (hK : X.K = Z.K) (hc : X.calm = true) (nd : X.N.Nodup) {i : Nat} {y : Str} {py spos : Pos} {tg iter : Expr} {ifs : List Expr} {scope : Scope} {own : List (Str × Nat)} {is : List Nat} {g : MG} {w : Src} (hN : X.N[i]? = some y) (hyl : X.env.scope.names.lookup y = some .local)
    (hsw : swapsWith (.ListComp e [⟨tg, iter, ifs, 0⟩] scope pos) (some (.Name y py)) spos.line X.env = pure true) (ok : BlkOk X.N X.env.scope scope own) (hs : ∀ x, foldedSetIterable iter X.env x = pure x)
    (hi : ∀ i ∈ is, i ∈ own.map (·.2)) (hw : SndI Z X W c Ex tg iter w)
    (hg : ∀ s H C cl fp, SndG Z (Bk X scope s H C cl fp) c Ex tg is g) (ht : ∀ s H C cl fp, SndTs Z (Bk X scope s H C cl fp) W0 c Ex ifs ta) (he : ∀ s H C cl fp, SndE Z (Bk X scope s H C cl fp) W0 c Ex e me)
    {k : List P → Mo D} (hk : k = (fun xs => Mo.pure (.p (.lst xs))) ∨ k = fun xs => newO (.lst xs)) :
    SndS Z X W c Ex (.Assign [.Name y py] (.ListComp e [⟨tg, iter, ifs, 0⟩] scope pos) spos) (sAsg (fun c σ => (w c σ).bind fun q => (noX (lcT c g ta me (wipeD σ (own.map (·.2))) q.1 q.2 q.1 [])).bind k) (gN i)) := by
  intro σd s wd σ H D rs rg h
  refine ws_of (ps_setLc (g := AG X scope tg) (tt := AT X scope ifs) (te := AE X scope e) hc nd hN hyl hsw pi_w ok (fun s H C cl fp => ⟨fun pins s' σ H v u Q I r q => q s _ C cl fp pins s' u I r⟩) (fun s H C cl fp => ⟨fun pins s' σ H Q I q => q s _ C cl fp pins s' I⟩) (fun s H C cl fp => ⟨fun pins s' σ H Q I q => q s _ C cl fp pins s' I⟩) hs) ?_
  have hp : Post Z (RD Z) W σ wd H (fun v H1 => D.nx (σ.set i (some v)) H1) (((w c σd).bind fun q => (noX (lcT c g ta me (wipeD σd (own.map (·.2))) q.1 q.2 q.1 [])).bind k) s) :=
    post_st rg h fun x st1 v wd1 H1 e1 rs1 b1 h1 => h1 _ wd1 H1 .refl rs1 ((rg.ext e1).set i (BrE.of b1))
  refine tLc_of hK hi hw hg ht he rs rg hp fun wd1 H1 res stE D' us => ?_
  rcases hk with rfl | rfl
  · exact lc_p (Q := fun v H1 => D.nx (σ.set i (some v)) H1)
  · exact lc_m (Q := fun v H1 => D.nx (σ.set i (some v)) H1)
/-- a, b = e, f -/
theorem snd_par (hc : X.calm = true) (nd : X.N.Nodup) {i j : Nat} {x y : Str} {px py pt : Pos} {kt k2 : Nat} {pt2 : Pos} {mr : MA} (hi : X.N[i]? = some x) (hj : X.N[j]? = some y) (hij : i ≠ j) (hx : X.env.scope.names.lookup x = some .local) (hy : X.env.scope.names.lookup y = some .local)
    (hw : swappedStores [.Tuple [.Name x px, .Name y py] kt pt] (.Tuple [a, b] k2 pt2) X.env = pure (some [x, y])) (ha : SndA Z X W c Ex [a, b] mr) :
    SndS Z X W c Ex (.Assign [.Tuple [.Name x px, .Name y py] kt pt] (.Tuple [a, b] k2 pt2) pos) (sPar mr [gN i, gN j]) := by
  intro σd s wd σ H D rs rg h
  refine ws_of (ps_par hc nd hi hj hij hx hy pa_w hw rfl) ?_
  refine ha σd s wd σ H _ rs rg (post_st rg h fun ds st1 vs wd1 H1 e1 rs1 b1 h1 => ?_)
  cases b1 with
  | nil => exact h1.elim
  | cons c1 b1 =>
    cases b1 with
    | nil => exact h1.elim
    | cons c2 b1 =>
      cases b1 with
      | cons _ _ => exact h1.elim
      | nil =>
        exact ⟨_, _, rfl, h1 _ wd1 H1 .refl rs1 (((rg.ext e1).set i (BrE.of c1)).set j (BrE.of c2))⟩
theorem snd_par3 (hc : X.calm = true) (nd : X.N.Nodup) {i j l : Nat} {x y z : Str} {px py pz pt : Pos} {kt k2 : Nat} {pt2 : Pos} {mr : MA} (hi : X.N[i]? = some x) (hj : X.N[j]? = some y) (hl : X.N[l]? = some z) (hij : i ≠ j) (hil : i ≠ l) (hjl : j ≠ l) (hx : X.env.scope.names.lookup x = some .local) (hy : X.env.scope.names.lookup y = some .local) (hz : X.env.scope.names.lookup z = some .local)
    (hw : swappedStores [.Tuple [.Name x px, .Name y py, .Name z pz] kt pt] (.Tuple [a, b, d] k2 pt2) X.env = pure (some [x, y, z])) (ha : SndA Z X W c Ex [a, b, d] mr) :
    SndS Z X W c Ex (.Assign [.Tuple [.Name x px, .Name y py, .Name z pz] kt pt] (.Tuple [a, b, d] k2 pt2) pos) (sPar mr [gN i, gN j, gN l]) := by
  intro σd s wd σ H D rs rg h
  refine ws_of (ps_par3 hc nd hi hj hl hij hil hjl hx hy hz pa_w hw rfl) ?_
  refine ha σd s wd σ H _ rs rg (post_st rg h fun ds st1 vs wd1 H1 e1 rs1 b1 h1 => ?_)
  cases b1 with
  | nil => exact h1.elim
  | cons c1 b1 =>
    cases b1 with
    | nil => exact h1.elim
    | cons c2 b1 =>
      cases b1 with
      | nil => exact h1.elim
      | cons c3 b1 =>
        cases b1 with
        | cons _ _ => exact h1.elim
        | nil =>
          exact ⟨_, _, _, rfl, h1 _ wd1 H1 .refl rs1 ((((rg.ext e1).set i (BrE.of c1)).set j (BrE.of c2)).set l (BrE.of c3))⟩
/-- name op= e -/
theorem snd_aug {i : Nat} {x : Str} {pos' : Pos} {o : Operator} {f : P → P → Option P} (nd : X.N.Nodup) (hN : X.N[i]? = some x) (hx : Loc X.env.scope x) (hf : X.fn x = true ∨ X.env.scope.names.lookup x = some .local) (ho : OpS Z X (inplaceOp o) f) (he : SndE Z X W c Ex e me) :
    SndS Z X W c Ex (.AugAssign (.Name x pos') o e pos) (sAug i me f) := by
  intro σd s wd σ H D rs rg h
  refine ws_of (ps_aug (ti := fun x y H Q => ∀ (pins : List (Addr × Obj)) (s : Shared) (σ : L2.St) (v u : Value), Inv X pins σ H s → RelV x v → RelV y u → wpAny (model X.prog X.w) X.A (inplaceOp o v u) (EP X pins σ Q) X.xe s) nd hN hx pe_w (fun pins s σ H x y v u Q I rx ry q => q pins s σ v u I rx ry) hf) ?_
  cases hy : σd[i]? with
  | none => simp only [sAug, hy] at h; exact h.elim
  | some o' =>
    cases o' with
    | none => simp only [sAug, hy] at h; exact h.elim
    | some y =>
      obtain ⟨v, h1, h2⟩ := rg.at_ i _ hy
      simp only [sAug, hy] at h
      refine ⟨v, h1, ?_⟩
      refine he σd s wd σ H _ rs rg (post_st rg h fun z st1 u wd1 H1 e1 rs1 b1 h1 => ?_)
      intro pins s1 σ1 v' u' I rx ry
      rcases op2_inv (α := True) _ (rfl : op2 f y z st1 = _) with q | ⟨p1, p2, p, z1, z2, z3, q⟩
      · rw [q] at h1
        exact h1.elim
      · rw [q] at h1
        have bY : BrD Z wd1 H1 y v := by
          cases y with
          | p x => exact (BrE.ext e1 h2 : BrE Z wd1 H1 Ex (.p x) v)
          | loc l => exact (BrE.ext e1 h2 : BrE Z wd1 H1 Ex (.loc l) v)
          | exc k a => cases z1
        refine ho pins s1 σ1 wd1 H1 st1 v u v' u' _ p1 p2 p I rx ry rs1 (rs1.rd bY z1) (rs1.rd b1 z2) z3 fun w wd' H' e' rs' b => ?_
        exact h1 _ wd' H' e' rs' (((rg.ext e1).ext e').set i (BrE.of (d := .p p) b))
/-! ### raise -/
theorem pmk_own0 {x : Str} {C : Addr} {p pos : Pos} (q : PySem.W.excIn X.K C He.veBase "ValueError.__new__" = true) (gC : X.mg x = some (.ref C)) (kC : PySem.W.keepIn X.K (.ref C) = true) (r : Raises X (.ref C)) (hg : Gl X x)
    (hdb : (x == ("__debug__" : Str)) = false) : PMk X (.Call (.Name x p) [] [] pos) (fun _ H Q => Q (.ref C) none H) := by
  intro pins s σ H Q I h
  refine wpAny_Call_Name_kw (ld_glob I hg gC ?_ hdb)
  refine PySem.W.callWith_K0 I.kIn kC ?_
  obtain ⟨bm, N, nm, qn, bs, hdct, sn, sub, ab, col, dd, k0, k1, k2, k3, k5, mN, hC, hN, hni, T⟩ := exc_obj I.kIn q
  refine wpAny_call_exc_subT PySem.F.excBase_ValueError T hC hN hni (fun h' e hm => ?_) (by show 0 ≤ sizeLine; exact Nat.zero_le _)
  exact mk_of I hm r h (I.hok.gone hm.new)
/-- what is known of a class of errors -/
structure ErC (K : PySem.W.Frag) (C : Addr) : Prop where
  ex : PySem.W.excIn K C He.veBase "ValueError.__new__" = true
  kp : PySem.W.keepIn K (.ref C) = true
  sb : PySem.W.subIn K (.ref C) (.type "BaseException") = some true
  ty : PySem.W.typeIn K (.ref C) = some (.type "type")
theorem snd_raise (hc : X.calm = true) (tk : Takes X W) {k : Nat} {x : Str} {C : Addr} (hC : Z.C k = some C) (T : ErC X.K C) (gC : X.mg x = some (.ref C)) (hg : Gl X x) (hdb : (x == ("__debug__" : Str)) = false) : SndS Z X W c Ex (.Raise (some (.Call (.Name x p) [] [] cpos)) none pos) (sRaise k) := by
  intro σd s wd σ H D rs rg h
  refine ws_of (ps_raise hc tk (pmk_own0 T.ex gC T.kp (raises_own T.sb T.ty) hg hdb)) ?_
  exact h _ none σ wd H .refl rs rg ⟨C, hC, rfl, rfl⟩
/-! ### loops -/
theorem still_some {s : Sto} {all : List P} {lk : Option Nat} : still s all lk = true ∨ still s all lk = false := by cases still s all lk <;> simp
theorem snd_for (hp : PassesOwn (model X.prog X.w) X.A X.env X.xe) (hc : X.calm = true) {tg iter : Expr} {is : List Nat} {g : MG} {w : Src} (hs : ∀ x, foldedSetIterable iter X.env x = pure x) (hw : SndI Z X W c Ex tg iter w) (hg : SndG Z X c Ex tg is g) (hb : SndSs Z X W c Ex sts m) :
    SndS Z X W c Ex (.For tg iter sts [] pos) (sFor w g m) := by
  intro σd s wd σ H D rs rg h
  refine ws_of (ps_for hp hc pi_w pg_w pss_w hs) ?_
  refine hw σd s wd σ H _ rs rg (post_st rg h fun q st1 J wd1 H1 e1 rs1 ri h1 => ?_)
  refine ⟨fun i m' σ' H' => m' = q.1.length - i ∧ i ≤ q.1.length ∧ ∃ (wd' : Wd) (σd' : Sg) (st' : Sto), XT wd1 H1 wd' H' ∧ RSt Z wd' H' st' ∧ RSg Z wd' H' Ex σd' σ' ∧ PostS Z W Ex wd' H' D (forT c g m q.1 q.2 (q.1.drop i) σd' st'), ?_, ?_⟩
  · exact ⟨q.1.length, by simp, Nat.zero_le _, wd1, σd, st1, .refl, rs1, rg.ext e1, h1⟩
  · rintro i m' σ' H' ⟨rfl, hile, wd', σd', st', xt, rs', rg', hr⟩
    by_cases hlt : i < q.1.length
    · right
      have hdrop : q.1.drop i = q.1[i] :: q.1.drop (i + 1) := List.drop_eq_getElem_cons hlt
      have hget : q.1[i]? = some q.1[i] := List.getElem?_eq_getElem hlt
      rw [hdrop] at hr
      simp only [forT] at hr
      split at hr
      · rename_i hst
        obtain ⟨_, hy⟩ := ri wd' H' st' xt.pre xt.ext rs' hst
        obtain ⟨hgo, hy⟩ := hy i _ hget
        refine ⟨hgo, fun σ'' H'' => ∃ m'', m'' < q.1.length - i ∧ (m'' = q.1.length - (i + 1) ∧ i + 1 ≤ q.1.length ∧ ∃ (wd' : Wd) (σd' : Sg) (st' : Sto), XT wd1 H1 wd' H'' ∧ RSt Z wd' H'' st' ∧ RSg Z wd' H'' Ex σd' σ'' ∧ PostS Z W Ex wd' H'' D (forT c g m q.1 q.2 (q.1.drop (i + 1)) σd' st')), fun σ'' H'' h => h, fun x H2 y => ?_⟩
        obtain ⟨wd2, x2, r2, bx⟩ := hy x H2 y
        refine hg σd' st' wd2 σ' H2 (.p q.1[i]) x _ r2 (rg'.ext x2) bx (post_st0 (PostS.later hr x2) fun σ3d st3 σ3 wd3 H3 e3 rs3 r3 h3 => ?_)
        refine hb σ3d st3 wd3 σ3 H3 _ rs3 r3.1 ?_
        have x3 : XT wd1 H1 wd3 H3 := (xt.trans x2).trans e3
        cases em : m c σ3d st3 with
        | ok f s4 =>
          rw [em] at h3
          cases f with
          | nx σ4 => exact fun σ5 wd5 H5 x5 r5 g5 => ⟨_, by omega, rfl, hlt, wd5, σ4, s4, x3.trans x5, r5, g5, PostS.later h3 x5⟩
          | ct σ4 => exact fun σ5 wd5 H5 x5 r5 g5 => ⟨_, by omega, rfl, hlt, wd5, σ4, s4, x3.trans x5, r5, g5, PostS.later h3 x5⟩
          | bk σ4 => exact h3
          | rt d => exact h3
        | exn k a σ4 s4 => rw [em] at h3; exact h3
        | stk => rw [em] at h3; exact h3
      · exact hr.elim
    · left
      have hie : i = q.1.length := by omega
      subst hie
      rw [List.drop_length] at hr
      simp only [forT] at hr
      split at hr
      · rename_i hst
        exact ⟨(ri wd' H' _ xt.pre xt.ext rs' hst).1, hr σ' wd' H' .refl rs' rg'⟩
      · exact hr.elim
theorem snd_while (hp : PassesOwn (model X.prog X.w) X.A X.env X.xe) (ht : SndT Z X W c Ex a ta) (hb : SndSs Z X W c Ex sts m) : SndS Z X W c Ex (.While a sts [] pos) (sWhile ta m) := by
  intro σd s wd σ H D rs rg h
  refine ws_of (ps_while hp pt_w pss_w) ?_
  refine ⟨fun n σ' H' => ∃ (wd' : Wd) (σd' : Sg) (st' : Sto), RSt Z wd' H' st' ∧ RSg Z wd' H' Ex σd' σ' ∧ PostS Z W Ex wd' H' D (whileT c ta m n σd' st'), ⟨L, wd, σd, s, rs, rg, h⟩, ?_⟩
  rintro n σ' H' ⟨wd', σd', st', rs', rg', hr⟩
  cases n with
  | zero => exact hr.elim
  | succ n =>
    simp only [whileT] at hr
    refine ht σd' st' wd' σ' H' _ rs' rg' (post_st rg' hr fun k st1 k' wd1 H1 e1 rs1 b1 h1 => ?_)
    cases b1
    cases k with
    | false =>
      simp only [Bool.false_eq_true, if_false] at h1 ⊢
      exact h1 σ' wd1 H1 .refl rs1 (rg'.ext e1)
    | true =>
      simp only [if_true] at h1 ⊢
      refine ⟨fun σ'' H'' => ∃ m', m' < n + 1 ∧ ∃ (wd' : Wd) (σd' : Sg) (st' : Sto), RSt Z wd' H'' st' ∧ RSg Z wd' H'' Ex σd' σ'' ∧ PostS Z W Ex wd' H'' D (whileT c ta m m' σd' st'), fun σ'' H'' h => h, ?_⟩
      refine hb σd' st1 wd1 σ' H1 _ rs1 (rg'.ext e1) ?_
      cases em : m c σd' st1 with
      | ok f s4 =>
        rw [em] at h1
        cases f with
        | nx σ4 => exact fun σ5 wd5 H5 x5 r5 g5 => ⟨n, Nat.lt_succ_self _, wd5, σ4, s4, r5, g5, PostS.later h1 x5⟩
        | ct σ4 => exact fun σ5 wd5 H5 x5 r5 g5 => ⟨n, Nat.lt_succ_self _, wd5, σ4, s4, r5, g5, PostS.later h1 x5⟩
        | bk σ4 => exact h1
        | rt d => exact h1
      | exn k a σ4 s4 => rw [em] at h1; exact h1
      | stk => rw [em] at h1; exact h1
end
end EV
end
section
/-! Ev12: try, caught errors, defs. -/
namespace EV
open PySem PySem.Spec PyProof.Rows L2
section
variable {Z : St0} {X : Cx} {W : WX} {c : Cl} {Ex : EXR} {a b d e : Expr} {ma mb md me : ME} {ta tb : MT} {pos p apos cpos : Pos} {st : Stmt} {sts : List Stmt} {m m1 m2 : MS}
/-! ### caught errors -/
def E0 : EXR := ⟨fun _ _ _ _ _ _ => False, fun _ _ h => h⟩
/-- the error at ad, of the class C -/
def ExOf (Z : St0) (ad C : Addr) : EXR := ⟨fun _ _ _ k p v => v = .ref ad ∧ Z.C k = some C ∧ p = none, fun _ _ h => h⟩
theorem clean_at : ∀ {σd : Sg} {i : Nat} {k : Nat} {a : Option P}, clean σd = true → σd[i]? ≠ some (some (.exc k a))
  | [], i, k, a, _, e => by simp at e
  | none :: r, 0, k, a, h, e => by simp at e
  | some (.p x) :: r, 0, k, a, h, e => by simp at e
  | some (.loc x) :: r, 0, k, a, h, e => by simp at e
  | some (.exc _ _) :: r, _, k, a, h, e => by simp [clean] at h
  | none :: r, i + 1, k, a, h, e => clean_at (σd := r) (i := i) (by simpa [clean] using h) (by simpa using e)
  | some (.p x) :: r, i + 1, k, a, h, e => clean_at (σd := r) (i := i) (by simpa [clean] using h) (by simpa using e)
  | some (.loc x) :: r, i + 1, k, a, h, e => clean_at (σd := r) (i := i) (by simpa [clean] using h) (by simpa using e)
theorem RSg.clean {wd : Wd} {H : Hp} {Ex' : EXR} {σd : Sg} {σ : L2.St} (r : RSg Z wd H Ex' σd σ) (hc : EV.clean σd = true) : RSg Z wd H Ex σd σ := ⟨r.len, fun i d h => by
  obtain ⟨v, h1, h2⟩ := r.at_ i d h
  refine ⟨v, h1, ?_⟩
  cases d with
  | p x => exact h2
  | loc l => exact h2
  | exc k a => exact absurd h (clean_at hc)⟩
theorem snd_try {x n : Str} {cv : Value} {i : Nat} {b₀ : Stmt} {suite body : List Stmt} {np pos' : Pos} {cs : List Nat} {mb mh : MS} (hs : X.stack = X.env :: X.outer) (hf : X.env.frame = some X.env.locals) (nd : X.N.Nodup) (hN : X.N[i]? = some n) (hln : X.env.kindOf n = some .local) (hc : Names X x cv) (tk : Takes X W)
    (hx : ∀ k C, Z.C k = some C → PySem.W.exmOne X.K (.ref C) cv = some (cs.contains k))
    (hb : ∀ (W' : WX) (pn : List (Addr × Obj)) (xe : Value → Shared → Prop), Takes (X.tr pn xe) W' → PassesOwn (model X.prog X.w) X.A X.env xe → SndSs Z (X.tr pn xe) W' c Ex body mb)
    (hsu : ∀ (ad : Addr) (oe : Obj) (C : Addr) (pn : List (Addr × Obj)), (∃ k, Z.C k = some C) → Zc (.ref C) none oe → (∃ vs, oe.data = .fields vs) → SndSs Z (X.suite ad ((ad, oe) :: pn)) W0 c (ExOf Z ad C) (b₀ :: suite) mh) :
    SndS Z X W c Ex (.Try body [.ExceptHandler (some (.Name x np)) (some n) (b₀ :: suite) pos'] [] [] pos) (sTry mb cs i mh) := by
  intro σd s wd σ H D rs rg h
  refine ws_of (ps_try_as (tb := fun W' D σ H => ∀ pn xe, Takes (X.tr pn xe) W' → PassesOwn (model X.prog X.w) X.A X.env xe → WSs (X.tr pn xe) body D σ H)
    (ts := fun ad cls dx D σ H => ∀ oe pn, Zc cls dx oe → (∃ vs, oe.data = .fields vs) → WSs (X.suite ad ((ad, oe) :: pn)) (b₀ :: suite) D σ H) hs hf nd hN hln hc tk
    (fun W' pn xe tk' po => ⟨fun pins s σ H D I q => q pn xe tk' po pins s I⟩) (fun ad oe cls dx pn hz hv => ⟨fun pins s σ H D I q => q oe pn hz hv pins s I⟩)) ?_
  intro pn xe tk' po
  refine hb _ pn xe tk' po σd s wd σ H D rs rg ?_
  unfold sTry at h
  cases e : mb c σd s with
  | ok f s1 =>
    rw [e] at h
    cases f <;> exact h
  | stk => rw [e] at h; exact h
  | exn k a σ1 s1 =>
    rw [e] at h
    simp only at h
    intro cls dx σ' wd' H' x rs' rg' ex
    obtain ⟨C, hC, rfl, hdx⟩ := ex
    refine ⟨cs.contains k, hx k C hC, fun ht ad had => ?_, fun hf => ?_⟩
    · simp only [ht, if_true] at h
      cases a with
      | some pa => exact h.elim
      | none =>
        simp only at h hdx
        subst hdx
        split at h
        case isFalse => exact h.elim
        rename_i hc1
        intro oe pn' hz hv
        have rg2 : RSg Z wd' H' (ExOf Z ad C) (σ1.set i (some (.exc k none))) (σ'.set i (some (.ref ad))) := (RSg.clean rg' hc1).set i (d := .exc k none) (v := .ref ad) ⟨rfl, hC, rfl⟩
        refine hsu ad oe C pn' ⟨k, hC⟩ hz hv _ s1 wd' _ H' _ rs' rg2 ?_
        cases eh : mh c (σ1.set i (some (.exc k none))) s1 with
        | ok f s2 =>
          rw [eh] at h
          cases f with
          | nx σ2 =>
            simp only at h
            split at h
            · rename_i hcl
              exact fun σ3 wd3 H3 x3 rs3 rg3 => h _ wd3 H3 (x.trans x3) rs3 ((rg3.unset i).clean hcl)
            · exact h.elim
          | rt d => exact fun v wd3 H3 x3 rs3 bv => h v wd3 H3 (x.trans x3) rs3 bv
          | bk σ2 => exact h.elim
          | ct σ2 => exact h.elim
        | exn k' a' σ2 s2 => rw [eh] at h; exact h.elim
        | stk => rw [eh] at h; exact h.elim
    · rw [hf] at h
      simp only [Bool.false_eq_true, if_false] at h
      exact h (.ref C) dx σ' wd' H' x rs' rg' ⟨C, hC, rfl, hdx⟩
/-- isinstance(e, X) of the caught error -/
theorem snd_isE {ad C : Addr} {oe : Obj} {pn : List (Addr × Obj)} {i : Nat} {n x : Str} {cs : List Nat} {cvV : V} {cv : Value} {q1 q2 : Pos} (T : ExcC X.K C) (hz : Zc (.ref C) none oe) (hv : ∃ vs, oe.data = .fields vs) (hN : X.N[i]? = some n) (hvis : Vis X.env.scope n) (hd : (n == ("__debug__" : Str)) = false) (hcd : (n == ("__classdict__" : Str)) = false)
    (hg : Gl X "isinstance") (hm : X.mg "isinstance" = none) (hp : PE (X.suite ad ((ad, oe) :: pn)) (.Name x q2) (tC cvV)) (hu : ∀ u, RelV cvV u → u = cv) (hk : ∀ k, Z.C k = some C → PySem.W.kitOne X.K (.ref C) cv = some (cs.contains k)) :
    SndE Z (X.suite ad ((ad, oe) :: pn)) W c (ExOf Z ad C) (.Call (.Name "isinstance" p) [.Name n q1, .Name x q2] [] pos) (eIsE i cs) := by
  intro σd st wd σ H Q rs rg h
  refine we_of (pe_callB (X := X.suite ad ((ad, oe) :: pn)) (call_isE T hz hv) hg hm (by decide +kernel) (pa_cons (pe_var (i := i) hN hvis hd hcd) (pa_cons hp pa_nil rfl) rfl) (by decide) (by decide) rfl rfl) ?_
  cases hy : σd[i]? with
  | none => simp only [eIsE, hy] at h; exact h.elim
  | some o =>
    cases o with
    | none => simp only [eIsE, hy] at h; exact h.elim
    | some y =>
      obtain ⟨v, h1, h2⟩ := rg.at_ i _ hy
      cases y with
      | p x => simp only [eIsE, hy] at h; exact h.elim
      | loc x => simp only [eIsE, hy] at h; exact h.elim
      | exc k a =>
        simp only [eIsE, hy] at h
        obtain ⟨rfl, hC, rfl⟩ := h2
        exact ⟨_, h1, cvV, cv, _, rfl, hu, hk k hC, h _ wd H .refl rs (.bl _)⟩
/-! ### what a def hands back -/
theorem RSt.take {wd wd' : Wd} {H H' : Hp} {s s' : Sto} (r0 : RSt Z wd H s) (x : XT wd H wd' H') (r : RSt Z wd' H' s') : RSt Z ⟨wd.ρ, wd'.F, wd'.B⟩ H' (s'.take s.length) ∧ XT wd H ⟨wd.ρ, wd'.F, wd'.B⟩ H' := by
  obtain ⟨t, ht⟩ := x.pre
  have hl : s.length ≤ s'.length := by rw [← r0.len, ← r.len, ht, List.length_append]; omega
  have at1 : ∀ {l : Nat} {a : Addr}, wd.ρ[l]? = some a → wd'.ρ[l]? = some a := fun h => x.get h
  have at2 : ∀ {l : Nat} {o : MO}, (s'.take s.length)[l]? = some o → s'[l]? = some o := fun {l o} h => by
    rw [List.getElem?_take] at h
    split at h
    · exact h
    · cases h
  refine ⟨⟨by rw [List.length_take, r0.len]; exact (Nat.min_eq_left hl).symm, fun l a o h1 h2 => r.obj l a o (at1 h1) (at2 h2), fun l l' a h1 h2 ⟨o, h3, h4⟩ ⟨o', h5, h6⟩ => r.inj l l' a (at1 h1) (at1 h2) ⟨o, at2 h3, h4⟩ ⟨o', at2 h5, h6⟩, r.ftr, fun a h => ?_, r.tabs⟩, ⟨[], by simp⟩, x.ext, x.bl⟩
  obtain ⟨h1, h2, h3⟩ := r.bls a h
  exact ⟨h1, h2, fun l hl' ⟨o, h4, h5⟩ => h3 l (at1 hl') ⟨o, at2 h4, h5⟩⟩
theorem fin_ok {wd : Wd} {H : Hp} {s : Sto} {Q : VK} {rl : Bool} {σ0 : L2.St} {r : SR} {W' : WX} (rs : RSt Z wd H s) (hW : ∀ cls dx σ H', W cls dx σ0 H' → W' cls dx σ H') (h : Post Z (RD Z) W σ0 wd H Q (fin s.length rl r)) : PostS Z W' Ex wd H { nx := fun _ H' => Q .non H', rt := Q } r := by
  cases r with
  | stk => exact h
  | exn k a σd s' =>
    intro cls dx σ wd' H' x rs' rg ex
    obtain ⟨rt, xt⟩ := rs.take x rs'
    refine hW cls dx σ H' (h cls dx _ H' xt rt ?_)
    obtain ⟨C, hC, rfl, ha⟩ := ex
    exact ⟨C, hC, rfl, ha⟩
  | ok f s' =>
    cases f with
    | bk σd => exact h.elim
    | ct σd => exact h.elim
    | nx σd =>
      intro σ wd' H' x rs' rg
      obtain ⟨rt, xt⟩ := rs.take x rs'
      exact h .non _ H' xt rt .non
    | rt d =>
      intro v wd' H' x rs' bv
      obtain ⟨rt, xt⟩ := rs.take x rs'
      cases d with
      | exc k a => exact h.elim
      | p y => exact h v _ H' xt rt bv
      | loc l =>
        simp only [fin, retF] at h
        obtain ⟨ad, rfl, had⟩ := bv
        split at h
        · rename_i hl
          refine h _ _ H' xt rt ⟨ad, rfl, ?_⟩
          obtain ⟨t, ht⟩ := x.pre
          rw [ht, List.getElem?_append_left (by rw [rs.len]; exact hl)] at had
          exact had
        · rename_i hl
          -- the thing at ad is not among the first ones
          have nl : ∀ {m : MO}, s'[l]? = some m → m ≠ .dead → ∀ l', (⟨wd.ρ, wd'.F, wd'.B⟩ : Wd).ρ[l']? = some ad → ¬ live (s'.take s.length) l' := fun {m} hm hd l' hl' ⟨o, h1, h2⟩ => by
            rw [List.getElem?_take] at h1
            split at h1
            · rename_i hlt
              have := rs'.inj l' l ad (x.get hl') had ⟨o, h1, h2⟩ ⟨m, hm, hd⟩
              omega
            · cases h1
          have nB : ∀ {m : MO}, s'[l]? = some m → m ≠ .dead → ¬ wd'.B ad := fun {m} hm hd hB => (rs'.bls ad hB).2.2 l had ⟨m, hm, hd⟩
          have hlen : (s'.take s.length).length = wd.ρ.length := by rw [← rt.len]
          have hwl : wd.ρ.length = s.length := rs.len
          split at h
          · rename_i xs hx
            obtain ⟨vs, g1, g2, g3⟩ := rs'.obj l ad _ had hx
            cases rl with
            | true =>
              simp only [if_true] at h
              obtain ⟨r2, x2⟩ := rt.ownM (m := .lst xs) ⟨vs, g1, g2, g3⟩ (nB hx fun z => by cases z) (nl hx fun z => by cases z)
              refine h _ _ H' (xt.trans x2) r2 ⟨ad, rfl, ?_⟩
              rw [List.getElem?_append_right (Nat.le_of_eq hwl)]
              simp [hwl]
            | false =>
              simp only [Bool.false_eq_true, if_false] at h
              obtain ⟨r2, x2⟩ := rt.ownF g1 (fun ps z => by cases z) (nB hx fun z => by cases z) (nl hx fun z => by cases z)
              exact h _ _ H' (xt.trans x2) r2 (.lst ⟨.inr rfl, .inl g1⟩ (BrL.ext x2.ext _ _ g2))
          · rename_i hx
            obtain ⟨ks, g1, g2, g3⟩ := rs'.obj l ad _ had hx
            cases rl with
            | true =>
              simp only [if_true] at h
              obtain ⟨r2, x2⟩ := rt.ownM (m := .dct []) ⟨ks, g1, g2, g3⟩ (nB hx fun z => by cases z) (nl hx fun z => by cases z)
              refine h _ _ H' (xt.trans x2) r2 ⟨ad, rfl, ?_⟩
              rw [List.getElem?_append_right (Nat.le_of_eq hwl)]
              simp [hwl]
            | false =>
              have ek : ks = [] := by
                have := g2.1
                simp at this
                exact this
              subst ek
              simp only [Bool.false_eq_true, if_false] at h
              obtain ⟨r2, x2⟩ := rt.ownF g1 (fun ps z => by cases z) (nB hx fun z => by cases z) (nl hx fun z => by cases z)
              exact h _ _ H' (xt.trans x2) r2 (.ed (.inr rfl) g1)
          · rename_i kvs hne hx
            obtain ⟨ks, g1, g2, g3⟩ := rs'.obj l ad _ had hx
            cases rl with
            | true =>
              simp only [if_true] at h
              obtain ⟨r2, x2⟩ := rt.ownM (m := .dct kvs) ⟨ks, g1, g2, g3⟩ (nB hx fun z => by cases z) (nl hx fun z => by cases z)
              refine h _ _ H' (xt.trans x2) r2 ⟨ad, rfl, ?_⟩
              rw [List.getElem?_append_right (Nat.le_of_eq hwl)]
              simp [hwl]
            | false => exact h.elim
          · exact h.elim
end
end EV
end
section
/-! EvL: f(lambda: body), f(lambda x=0: body). -/
namespace EV
open PySem PySem.Spec PyProof.Rows L2
/-- no parameter, one parameter that stands for an int -/
inductive LP : Arguments → Option (Str × Int) → Prop
  | z : LP ⟨[], [], none, [], [], none, []⟩ none
  | o (i : Int) (j : Nat) (an : Option Expr) (ap cp : Pos) : LP ⟨[], [⟨"of", an, ap⟩], none, [], [], none, [.Constant (.int i) j cp]⟩ (some ("of", i))
def DfV (df : Option (Str × Int)) (H : Hp) (dV : Value) : Prop := match df with
  | none => dV = .none
  | some q => ∃ t, dV = .ref t ∧ H t = some (.tup [.int q.2])
/-- the names of the lambda -/
structure LamN (N : List Str) (df : Option (Str × Int)) (sc scope : Scope) : Prop where
  kd : scope.kind = .function
  co : scope.isCoroutine = false
  ge : scope.isGenerator = false
  cl : ∀ y ∈ scope.names, y.2 ≠ .cell
  lo : ∀ y, scope.names.lookup y = some .local → y ∉ N
  fr : ∀ y ∈ scope.names, y.2 = .free → sc.names.lookup y.1 = some .cell ∨ sc.names.lookup y.1 = some .free
  df : ∀ q, df = some q → scope.names.lookup q.1 = some .local
section
variable {X : Cx} {pins : List (Addr × Obj)} {σ : L2.St} {H H' : Hp} {s : Shared} {T : List (Addr × Str)} {cc P : Addr} {params : Arguments} {body : Expr} {scope : Scope} {pos : Pos} {E : Value → Shared → Prop} {Q : Value → Shared → Prop} {df : Option (Str × Int)}
theorem nofrs (I : Inv X pins σ H s) {f : Addr} (hf : s.heap.objs.size ≤ f) : f ∉ frs X.stack := fun z => by
  rcases List.mem_cons.mp (I.stkSub _ z) with e | e
  · rw [e] at hf
    exact absurd I.lt (Nat.not_lt.mpr hf)
  · exact I.nofs hf e
/-- the lambda's object: its code object is new, or stands in the table -/
theorem lam_tail {dV : Value} (I : Inv X pins σ H s) (TB : LamX.TabB X.base X.mg cc P) (hcode : X.env.code = .ref cc) (hm : (P, X.env.qual ++ "<lambda>") ∈ T) (hu : ∀ p ∈ T, p.1 = P → p.2 = X.env.qual ++ "<lambda>") (hT : LamX.Tabs T H) (hfree : ∀ y ∈ scope.names, y.2 = .free → ∃ c, X.env.cells.lookup y.1 = some c)
    (h : ∀ (f c' : Addr) (pm doc ctv : Value) (H1 : Hp) (s' : Shared), Inv X pins σ H1 s' → LamX.ExtN H H1 → LamX.Tabs T H1 → s'.heap.get? f = some (PySem.W.kdv_obj "<lambda>" (X.env.qual ++ "<lambda>") params (.expr body) scope (cloFrom X.env.cells scope.names []) dV doc pm c' ctv) →
      H1 f = none → f ∉ frs X.stack → H1 c' = some (LamX.CodeO c' (X.env.qual ++ "<lambda>")) → Q (.ref f) s') :
    wpAny (model X.prog X.w) X.A (makeTail "<lambda>" (X.env.qual ++ "<lambda>") params (.expr body) scope X.env dV .none none pos pos.line) Q E s := by
  obtain ⟨ps, a1, a2, a3⟩ := hT _ hm
  have hpt : s.heap.get? P = some (PySem.W.tabObj ps) := I.hok P _ a1
  have hbi := TB.bm.keeps I.bk
  have hhd := TB.code.keeps I.bk
  have hgl := I.mod.glob.keeps I.bk
  cases hc : codeAmong pos ps.toList with
  | some cv =>
    obtain ⟨c', rfl, hco⟩ := a3 pos cv hc
    refine PySem.W.kdv_makeTailHit (mg := X.mg) (c := cc) (P := P) (ps := ps) (closure_ok hfree) I.ok.glob hgl hcode hhd hpt a2 hc hbi fun ctv doc h' tk hx hsz => ?_
    have kp : ∀ b u, s.heap.get? b = some u → (h'.push (PySem.W.kdv_obj "<lambda>" (X.env.qual ++ "<lambda>") params (.expr body) scope (cloFrom X.env.cells scope.names []) dV doc ((X.mg "__name__").getD .none) c' ctv)).get? b = some u := fun b u e => Heap.get?_push_of_some _ (hx b u e)
    exact h _ c' _ doc ctv H _ (I.kept (t' := tk) kp) (LamX.ExtN.refl H) hT (Heap.get?_push_size _ rfl) (I.hok.fresh hsz) (nofrs I hsz) hco
  | none =>
    refine PySem.W.kdv_makeTail (mg := X.mg) (c := cc) (P := P) (ps := ps) (closure_ok hfree) I.ok.glob hgl hcode hhd hpt a2 hc TB.gP hbi fun c' ctv doc h' tk hx hge hlt hrec htb => ?_
    obtain ⟨c2, oc, vs, t, e2, hoc, hd, hv⟩ := hrec
    cases e2
    have hsz : s.heap.objs.size ≤ h'.objs.size := Nat.le_trans hge (Nat.le_of_lt hlt)
    have nC : H c' = none := I.hok.fresh hge
    let o : Obj := PySem.W.kdv_obj "<lambda>" (X.env.qual ++ "<lambda>") params (.expr body) scope (cloFrom X.env.cells scope.names []) dV doc ((X.mg "__name__").getD .none) c' ctv
    have J := LamX.inv_table (t' := tk) (more := #[rawInt pos.line, rawInt pos.col, .ref c']) (h' := h'.push o) I a1 (fun b u hb e => Heap.get?_push_of_some _ (hx b u hb e)) (Heap.get?_push_of_some _ htb) hge ⟨oc, vs, t, Heap.get?_push_of_some _ hoc, hd, hv⟩
    have xN : LamX.ExtN H (upd (upd H P (.tbl (ps ++ #[rawInt pos.line, rawInt pos.col, .ref c']))) c' (LamX.CodeO c' (X.env.qual ++ "<lambda>"))) := fun b u e n => by
      have nb : b ≠ P := fun z => n ps (Option.some.inj (e.symm.trans (z ▸ a1)))
      rw [upd_ne (ne_of_none e nC), upd_ne nb]
      exact e
    have el : (ps ++ #[rawInt pos.line, rawInt pos.col, .ref c']).toList = ps.toList ++ [rawInt pos.line, rawInt pos.col, .ref c'] := by simp
    have t1 : LamX.Tabs T (upd (upd H P (.tbl (ps ++ #[rawInt pos.line, rawInt pos.col, .ref c']))) c' (LamX.CodeO c' (X.env.qual ++ "<lambda>"))) := fun p hp => by
      by_cases hb : p.1 = P
      · rw [hu p hp hb, hb]
        refine ⟨_, by rw [upd_ne (ne_of_none a1 nC), upd_same], by rw [el]; exact PySem.TriplesOk_snoc _ _ _ _ a2, fun p' cv hcv => ?_⟩
        rw [el] at hcv
        rcases LamX.among_app _ a2 hcv with z | z
        · obtain ⟨c0, z1, z2⟩ := a3 p' cv z
          exact ⟨c0, z1, xN _ _ z2 LamX.codeO_ne⟩
        · exact ⟨c', z, upd_same⟩
      · obtain ⟨ps2, b1, b2, b3⟩ := hT p hp
        refine ⟨ps2, by rw [upd_ne (ne_of_none b1 nC), upd_ne hb]; exact b1, b2, fun p' cv hcv => ?_⟩
        obtain ⟨c0, z1, z2⟩ := b3 p' cv hcv
        exact ⟨c0, z1, xN _ _ z2 LamX.codeO_ne⟩
    have n1 : h'.objs.size ≠ c' := Nat.ne_of_gt hlt
    have n2 : h'.objs.size ≠ P := Nat.ne_of_gt (Nat.lt_of_lt_of_le (Heap.lt_size hpt) hsz)
    exact h h'.objs.size c' _ doc ctv _ _ J xN t1 (Heap.get?_push_size _ rfl) (by rw [upd_ne n1, upd_ne n2]; exact I.hok.fresh hsz) (nofrs I hsz) upd_same
theorem lam_mk (I : Inv X pins σ H s) (lp : LP params df) (TB : LamX.TabB X.base X.mg cc P) (hcode : X.env.code = .ref cc) (hm : (P, X.env.qual ++ "<lambda>") ∈ T) (hu : ∀ p ∈ T, p.1 = P → p.2 = X.env.qual ++ "<lambda>") (hT : LamX.Tabs T H) (hfree : ∀ y ∈ scope.names, y.2 = .free → ∃ c, X.env.cells.lookup y.1 = some c)
    (h : ∀ (f c' : Addr) (pm doc ctv dV : Value) (H1 : Hp) (s' : Shared), Inv X pins σ H1 s' → LamX.ExtN H H1 → LamX.Tabs T H1 → s'.heap.get? f = some (PySem.W.kdv_obj "<lambda>" (X.env.qual ++ "<lambda>") params (.expr body) scope (cloFrom X.env.cells scope.names []) dV doc pm c' ctv) →
      H1 f = none → f ∉ frs X.stack → H1 c' = some (LamX.CodeO c' (X.env.qual ++ "<lambda>")) → DfV df H1 dV → Q (.ref f) s') :
    wpAny (model X.prog X.w) X.A (eval (.Lambda params body scope pos) X.env) Q E s := by
  cases lp with
  | z =>
    refine PySem.W.kla_eval rfl ?_
    rw [makeFunction_eq]
    simp only [List.zip_nil_right, List.filterMap_nil, List.isEmpty_nil, if_true, pure_bind]
    exact lam_tail I TB hcode hm hu hT hfree fun f c' pm doc ctv H1 s' J x t1 e1 e2 e3 e4 => h f c' pm doc ctv .none H1 s' J x t1 e1 e2 e3 e4 rfl
  | o i j an ap cp =>
    refine PySem.W.kdv_lam rfl rfl (PySem.W.kdv_all1 (wpAny_Constant_int (PySem.W.kdv_all0 ?_)))
    rw [makeFunction_eq]
    simp only [List.zip_nil_right, List.filterMap_nil, List.isEmpty_nil, List.isEmpty_cons, if_true, pure_bind, Bool.false_eq_true, if_false]
    refine wpAny_bind (wpAny_newTextTuple ?_)
    have J : Inv X pins σ (upd H s.heap.objs.size (.tup [.int i])) { s with heap := s.heap.push { cls := .type "tuple", data := .seq [Value.int i s.toks].toArray }, toks := s.toks + 1 } :=
      I.laid (o := .tup [.int i]) (fun b u q => Heap.get?_push_of_some _ q) (Nat.le_refl _) ⟨by show 1 ≤ sizeLine; rw [sizeL]; decide, _, .cons ⟨s.toks, rfl⟩ .nil, _, Heap.get?_push_size _ rfl, rfl, _, rfl⟩
    have x0 : LamX.ExtN H (upd H s.heap.objs.size (.tup [.int i])) := fun b u e _ => by
      rw [upd_ne (ne_of_none e I.fresh)]
      exact e
    have t0 : LamX.Tabs T (upd H s.heap.objs.size (.tup [.int i])) := hT.ext fun b u e => by
      rw [upd_ne (ne_of_none e I.fresh)]
      exact e
    refine lam_tail J TB hcode hm hu t0 hfree fun f c' pm doc ctv H1 s' J1 x1 t1 e1 e2 e3 e4 => h f c' pm doc ctv _ H1 s' J1 (x0.trans x1) t1 e1 e2 e3 e4 ?_
    exact ⟨_, rfl, x1 _ _ upd_same fun ps z => by cases z⟩
/-- the lambda's frame -/
theorem lam_in {A : Around} {outer : List Env} {E : XK} {f c' : Addr} {h₁ : Heap} {tk : Nat} {s1 : Shared} {bl : List (Str × Value)} (I : Inv X pins σ H s) (L : LamN X.N df X.env.scope scope) (e0 : Env0 X.prog X.w X.K X.mg X.base A outer s1 H') (hd : A.handled = none)
    (un : Un (frs X.stack) [] H H' s.heap s1.heap) (hns : h₁.Ns s1.heap.objs.size fun y => bl.reverse.lookup y) (kp : ∀ b o, s1.heap.get? b = some o → h₁.get? b = some o) :
    Inv (LamX.lamCx X A outer s1 H' E scope f c') [] σ H' { s1 with heap := h₁, toks := tk } := by
  have hfree : ∀ y ∈ scope.names, y.2 = .free → ∃ c, X.env.cells.lookup y.1 = some c := fun y hy e => (L.fr y hy e).elim (fun k => I.ok.has _ (.inl k)) fun k => I.ok.has _ (.inr k)
  have up : ∀ {y c}, (cloFrom X.env.cells scope.names []).lookup y = some c → X.env.cells.lookup y = some c := fun {y c} e => by
    rcases cloFrom_mem (PySem.mem_of_lookup e) with hm | ⟨h1, h2⟩
    · cases hm
    · obtain ⟨c1, hc⟩ := hfree _ h1 rfl
      have hc' : X.env.cells.lookup y = some c1 := hc
      rw [hc', h2, hc'] <;> rfl
  have fnd : ∀ {y}, scope.names.lookup y = some .free → ∃ c, (cloFrom X.env.cells scope.names []).lookup y = some c := fun {y} hl => mem_lookup (cloFrom_has (cells := X.env.cells) (acc := []) (PySem.mem_of_lookup hl))
  have cellK : ∀ {c : Addr} {v : Option Value}, H c = none → s.heap.IsCell c v → h₁.IsCell c v := fun {c v} n ⟨o, ho, hd⟩ => by
    obtain ⟨sl, q⟩ := un.any ho n (by simp)
    exact ⟨_, kp _ _ q, hd⟩
  have noex : ∀ b : Addr, b ∉ (LamX.lamCx X A outer s1 H' E scope f c').ex := fun b z => absurd (show b ∈ ([] : List Addr) from z) (by simp)
  have hcl : ∀ y, (scope.names.lookup y = some .cell ∨ scope.names.lookup y = some .free) → ∃ c, (cloFrom X.env.cells scope.names []).lookup y = some c := fun y hy => by
    rcases hy with hy | hy
    · exact absurd rfl (L.cl _ (PySem.mem_of_lookup hy))
    · exact fnd hy
  have okk : (LamX.lamCx X A outer s1 H' E scope f c').Ok := ⟨e0.mod, L.kd, rfl, rfl, Nat.le_refl _, fun y z c e1 e2 => I.ok.inj y z c (up e1) (up e2), hcl, fun y c z _ => (by cases (show false = true from z)), fun _ => hd, Around.frames_deeper e0.frames, .inr ⟨rfl, rfl⟩, fun b z => absurd z (noex b), e0.bs, e0.bsz, fun b _ _ => noex b, fun b z => absurd z (noex b), e0.funs, e0.frf⟩
  refine ⟨okk, rfl, e0.bare, Un.kept kp, ⟨_, hns, fun i y v e1 e2 e3 => ?_⟩, fun y c e => ?_, e0.hok.fresh (Nat.le_refl _), fun y c e => ?_, fun q hq => absurd (show q ∈ ([] : List (Addr × Obj)) ++ [] from hq) (by simp), e0.hok.kept kp, I.len⟩
  · rcases (show Vis scope y from e3) with k | k | k
    · exact absurd (List.mem_of_getElem? (show X.N[i]? = some y from e1)) (L.lo y k)
    · exact absurd rfl (L.cl _ (PySem.mem_of_lookup k))
    · obtain ⟨m, hn, hl⟩ := I.loc
      have fr := L.fr _ (PySem.mem_of_lookup k) rfl
      have hvis : Vis X.env.scope y := fr.elim (fun k => .inr (.inl k)) fun k => .inr (.inr k)
      obtain ⟨w', r, q⟩ := hl i y v e1 e2 hvis
      obtain ⟨c2, h2⟩ := fnd k
      refine ⟨w', r, .inr ⟨.inr k, c2, h2, ?_⟩⟩
      rcases q with ⟨k', _⟩ | ⟨_, c3, e', z⟩
      · have k' : X.env.scope.names.lookup y = some .local := k'
        rcases fr with k2 | k2 <;> rw [show X.env.scope.names.lookup y = _ from k2] at k' <;> cases k'
      · have c1 := up h2
        rw [c1] at e'
        cases e'
        exact cellK (I.freeC y _ c1) z
  · obtain ⟨w', z⟩ := I.cell y c (up e)
    exact ⟨w', cellK (I.freeC y c (up e)) z⟩
  · obtain ⟨v, o, ho, hd⟩ := I.cell y c (up e)
    exact un.free c o ho (I.freeC y c (up e)) (by simp)
/-- what the call binds -/
theorem lam_binds {s1 : Shared} {pm doc ctv dV : Value} {c' : Addr} {qn : Str} {cl : List (Str × Addr)} (lp : LP params df) (hok : HOk X.prog X.w H s1.heap) (hv : DfV df H dV) (L : LamN X.N df X.env.scope scope) :
    ∃ bl : List (Str × Value), BindsTo s1 (PySem.W.kdv_fn "<lambda>" qn params (.expr body) scope cl dV doc pm (.ref c') ctv) ⟨[], []⟩ bl ∧ ∀ y ∈ bl, scope.names.lookup y.1 = some .local := by
  cases lp with
  | z =>
    cases hv
    exact ⟨[], BindsTo.of_eq rfl, fun y hy => by cases hy⟩
  | o i j an ap cp =>
    obtain ⟨t, rfl, ht⟩ := hv
    obtain ⟨z, its, r, o, ho, hc, n, hd⟩ := hok t _ ht
    cases r with
    | cons r1 r2 =>
      cases r2
      rename_i u
      exact ⟨[("of", u)], BindsTo.of_defaults rfl ho hd rfl rfl, fun y hy => by
        cases List.mem_singleton.mp hy
        exact L.df _ rfl⟩
end
/-! ### the call in the def that was handed the lambda -/
def ExL (f : Addr) (ρ0 : List Addr) (F0 : Addr → Prop) (H0 : Hp) : EXR := ⟨fun ρ F H k p v => v = .ref f ∧ k = lamK ∧ p = none ∧ (∃ t, ρ = ρ0 ++ t) ∧ Ext F0 H0 F H, fun ⟨t, e⟩ x ⟨h1, h2, h3, ⟨t', e'⟩, h4⟩ => ⟨h1, h2, h3, ⟨t' ++ t, by rw [e, e', List.append_assoc]⟩, h4.trans x⟩⟩
theorem blank_at : ∀ {σd : Sg} {i : Nat} {d : D}, blank σd = true → σd[i]? ≠ some (some d)
  | [], i, d, _, e => by simp at e
  | none :: r, 0, d, h, e => by simp at e
  | none :: r, i + 1, d, h, e => blank_at (σd := r) (i := i) h (by simpa using e)
  | some _ :: r, i, d, h, e => by simp [blank] at h
theorem rsg_blank {Z : St0} {wd : Wd} {H : Hp} {Ex : EXR} {σd : Sg} {σ : L2.St} (hb : blank σd = true) (hl : σd.length = σ.length) : RSg Z wd H Ex σd σ := ⟨hl, fun i d h => absurd h (blank_at hb)⟩
theorem RSg.ext0 {Z : St0} {wd wd' : Wd} {H H' : Hp} {Ex : EXR} {σd : Sg} {σ : L2.St} (r : RSg Z wd H Ex σd σ) (hp : ∃ t, wd'.ρ = wd.ρ ++ t) (hx : Ext wd.F H wd'.F H') : RSg Z wd' H' Ex σd σ := by
  have x : XT ⟨wd.ρ, wd.F, fun _ => False⟩ H ⟨wd'.ρ, wd'.F, fun _ => False⟩ H' := ⟨hp, hx, rfl, fun _ h => h.elim⟩
  have r0 : RSg Z ⟨wd.ρ, wd.F, fun _ => False⟩ H Ex σd σ := ⟨r.len, r.at_⟩
  have r1 := r0.ext x
  exact ⟨r1.len, r1.at_⟩
theorem takes_len {X : Cx} {W : WX} (tk : Takes X W) : Takes X (fun cls d σ H => σ.length = X.N.length → W cls d σ H) := fun u s' ⟨a, B, sI, pins, σ, H, cls, d, e, I, nb, up, sky, na, os, ag, w⟩ => tk u s' ⟨a, B, sI, pins, σ, H, cls, d, e, I, nb, up, sky, na, os, ag, w I.len⟩
abbrev GX (X : Cx) (Ng : List Str) (qg : Str) (sg : Scope) (g : Addr) (cdg : Value) (s : Shared) (H : Hp) : Cx := cxOf C8.CX0 X.prog X.w X.K X.mg X.base Ng qg sg g cdg X.A X.stack s H C8.E0
theorem snd_act {Z : St0} {X : Cx} {pins : List (Addr × Obj)} {σ : L2.St} {H : Hp} {s : Shared} {df : Option (Str × Int)} {params : Arguments} {body : Expr} {scope : Scope} {f c' g : Addr} {pm doc ctv dV cdg : Value} {wd0 : Wd} {σd0 : Sg} {Ex : EXR} {k : Nat} {b : ME} {cb cA : Cl} {Ng : List Str} {qg a : Str} {sg : Scope}
    (I : Inv X pins σ H s) (L : LamN X.N df X.env.scope scope) (lp : LP params df) (hf : s.heap.get? f = some (PySem.W.kdv_obj "<lambda>" (X.env.qual ++ "<lambda>") params (.expr body) scope (cloFrom X.env.cells scope.names []) dV doc pm c' ctv)) (hfn : H f = none) (hfr : f ∉ frs X.stack)
    (hco : H c' = some (LamX.CodeO c' (X.env.qual ++ "<lambda>"))) (hv : DfV df H dV) (rg : RSg Z wd0 H Ex σd0 σ) (hr : RoomG (k + 1) (X.A.deeper (envOfC qg sg s.heap.objs.size g cdg)))
    (hbody : ∀ (A : Around) (outer : List Env) (s1 : Shared) (H1 : Hp) (E : XK), RoomG k (A.deeper (LamX.lamEnv X scope s1.heap.objs.size f c')) → SndE Z (LamX.lamCx X A outer s1 H1 E scope f c') (fun cls d _ H => E cls d H) cb Ex body b)
    (hN : Ng[0]? = some a) (hva : Vis sg a) (hd : (a == ("__debug__" : Str)) = false) (hcd : (a == ("__classdict__" : Str)) = false) (hact : cA.act = b cb σd0)
    (pn : List (Addr × Obj)) (xe : Value → Shared → Prop) (W' : WX) (p1 p2 pos : Pos) (tk : Takes ((GX X Ng qg sg g cdg s H).tr pn xe) W') :
    SndS Z ((GX X Ng qg sg g cdg s H).tr pn xe) W' cA (ExL f wd0.ρ wd0.F H) (.Expr (.Call (.Name a p1) [] [] p2) pos) sAct := by
  intro σd st wd σg Hg D rs rgg h
  refine ws_of (ps_expr pe_w (swaps_no rfl _ _ _)) ?_
  -- the slot holds the lambda, nothing else is set
  have key : ∃ r, σd = some (.exc lamK none) :: r ∧ blank r = true ∧ PostS Z W' (ExL f wd0.ρ wd0.F H) wd Hg D (match b cb σd0 st with
      | .ok _ s1 => .ok (.nx σd) s1
      | .exn k a s1 => .exn k a (none :: r) s1
      | .stk => .stk) := by
    cases σd with
    | nil => exact h.elim
    | cons x r =>
      cases x with
      | none => exact h.elim
      | some d =>
        cases d with
        | p y => exact h.elim
        | loc l => exact h.elim
        | exc kk aa =>
          cases aa with
          | some _ => exact h.elim
          | none =>
            simp only [sAct] at h
            split at h
            · rename_i hb
              rw [hact] at h
              obtain ⟨rfl, hb⟩ := hb
              exact ⟨r, rfl, hb, h⟩
            · exact h.elim
  clear h
  obtain ⟨r, rfl, hb, h⟩ := key
  obtain ⟨v0, hs, h2⟩ := rgg.at_ 0 (.exc lamK none) rfl
  obtain ⟨rfl, _, _, hpre, hext⟩ := h2
  intro pinsZ sZ IZ
  refine wpAny_Call_Name_kw (thn ((pe_var (pos := p1) (i := 0) hN hva hd hcd).run pinsZ sZ σg Hg (fun v H1 => v = .ref f ∧ H1 = Hg) IZ ⟨.ref f, hs, rfl, rfl⟩) fun u s1 ⟨v, H1, I1, r1, q1⟩ => ?_)
  obtain ⟨rfl, rfl⟩ := q1
  cases r1
  have of1 : s1.heap.get? f = some (PySem.W.kdv_obj "<lambda>" (X.env.qual ++ "<lambda>") params (.expr body) scope (cloFrom X.env.cells scope.names []) dV doc pm c' ctv) := I1.base.keep f _ hf hfn hfr (fun z => nomatch (show f ∈ ([] : List Addr) from z))
  refine PySem.W.callWith_F0 ⟨_, _, _, _, of1⟩ ?_
  have un : Un (frs X.stack) [] H H1 s.heap s1.heap := I1.base
  have hcZ := hext.ext _ _ hco
  obtain ⟨⟨oc, vs, t, hoc, hdc, hvc⟩, _, _⟩ := I1.hok c' _ hcZ
  have hv1 : DfV df H1 dV := by
    cases df with
    | none => exact hv
    | some q =>
      obtain ⟨tt, e1, e2⟩ := hv
      exact ⟨tt, e1, hext.tup _ _ e2⟩
  obtain ⟨bl, hbind, hloc⟩ := lam_binds (pm := pm) (doc := doc) (ctv := ctv) (c' := c') (qn := X.env.qual ++ "<lambda>") (body := body) (cl := cloFrom X.env.cells scope.names []) (scope := scope) (X := X) lp I1.hok hv1 L
  let E : XK := fun cls dx H' => ∀ σ', σ'.length = Ng.length → W' cls dx σ' H'
  have hlen : σg.length = Ng.length := IZ.len
  have rc : codeAny (model X.prog X.w) (X.A.deeper (envOfC qg sg s.heap.objs.size g cdg)) (.call (.ref f) ⟨[], []⟩) (CR (L2.CX X.prog X.w) (envOfC qg sg s.heap.objs.size g cdg :: X.stack) X.prog X.w H1 s1 (fun _ H' => D.nx σg H') E) s1 := by
    refine PySem.W.kla_callFunE hr.rm.depth of1 rfl L.co L.ge rfl ⟨c', oc, vs, t, rfl, hoc, hdc, hvc⟩ (hbind _ _ _ _ ?_)
    refine wpAny_newFunctionEnv (fun y hy => L.cl y hy) hloc (fun h₁ hns hsb => ⟨I1.nolimit.fresh _ hsb, ?_⟩) L.kd
    have kp : ∀ b o, s1.heap.get? b = some o → h₁.get? b = some o := fun b o e => hsb.extBut b o (Nat.ne_of_lt (Heap.lt_size e)) (Heap.get?_push_of_some _ e)
    have J : Inv (LamX.lamCx X (X.A.deeper (envOfC qg sg s.heap.objs.size g cdg)) (envOfC qg sg s.heap.objs.size g cdg :: X.stack) s1 H1 E scope f c') [] σ H1 { s1 with heap := h₁, toks := s1.toks + bl.length } := lam_in I L I1.env0 hr.rm.hd un hns kp
    have body_ok := hbody (X.A.deeper (envOfC qg sg s.heap.objs.size g cdg)) (envOfC qg sg s.heap.objs.size g cdg :: X.stack) s1 H1 E ⟨hr.rm.deeper _, hr.gu⟩ σd0 st wd σ H1 (fun _ H' => D.nx σg H') rs (rg.ext0 hpre hext) (by
      cases e : b cb σd0 st with
      | ok d s2 =>
        rw [e] at h
        exact fun v wd' H' x rs' _ => h σg wd' H' x rs' (rgg.ext x)
      | exn kk aa s2 =>
        rw [e] at h
        exact fun cls dx wd' H' x rs' ex σ' hl => h cls dx σ' wd' H' x rs' (rsg_blank (σd := none :: r) hb (by rw [hl, ← hlen, ← rgg.len] <;> rfl)) ex
      | stk => rw [e] at h; exact h)
    refine PySem.W.kla_codeExpr (wpAny_mono (body_ok [] _ J) (fun v s' hq => ?_) fun e s' hq => hq)
    obtain ⟨w', H', J', rv, q⟩ := hq
    exact ⟨w', H', J'.os, J'.bare, J'.base, J'.hok, rv, q⟩
  have hx := passes_call (takes_len tk) (E := E) fun cls d σ' H' hE hl => hE σ' hl
  refine wpAny_call (codeAny_mono rc fun r s' hq => ?_)
  cases r with
  | error e => exact hx pinsZ σg H1 s1 e s' I1 hq
  | ok fl =>
    cases fl with
    | ret u => exact I1.after hq
    | next => exact False.elim hq
    | brk => exact False.elim hq
    | cont => exact False.elim hq
def lamNB (N : List Str) (df : Option (Str × Int)) (sc scope : Scope) : Bool :=
  decide (scope.kind = .function) && !scope.isCoroutine && !scope.isGenerator && (scope.names.all fun y => !decide (y.2 = .cell) && (!decide (y.2 = .local) || !N.contains y.1) && (!decide (y.2 = .free) || decide (sc.names.lookup y.1 = some .cell) || decide (sc.names.lookup y.1 = some .free))) &&
    (match df with | none => true | some q => decide (scope.names.lookup q.1 = some .local))
theorem lamN_by {N : List Str} {df : Option (Str × Int)} {sc scope : Scope} (h : lamNB N df sc scope = true) : LamN N df sc scope := by
  unfold lamNB at h
  simp only [Bool.and_eq_true, Bool.or_eq_true, Bool.not_eq_true', decide_eq_true_eq, decide_eq_false_iff_not, List.all_eq_true] at h
  obtain ⟨⟨⟨⟨h1, h2⟩, h3⟩, h4⟩, h5⟩ := h
  refine ⟨h1, h2, h3, fun y hy => (h4 y hy).1.1, fun y hy hm => ?_, fun y hy e => ?_, fun q hq => ?_⟩
  · rcases (h4 _ (PySem.mem_of_lookup hy)).1.2 with z | z
    · exact z rfl
    · have : N.contains y = true := by simpa using hm
      rw [this] at z
      cases z
  · rcases (h4 y hy).2 with (z | z) | z
    · exact absurd e z
    · exact .inl z
    · exact .inr z
  · subst hq
    simpa using h5
end EV
end
section
/-! Ev13: the text turned into combinators, each step with its proof. -/
namespace EV
open PySem PySem.Spec PyProof.Rows L2
/-- the module's names -/
structure NM where
  fn : List (Str × Nat)
  cls : List (Str × Nat)
  isa : List (Str × List Nat)
  cst : List (Str × P)
  free : List Str
  lam : List (Str × Nat)
/-- where a piece of the text stands: the scope, the slots, which names may be stored, an except suite?, which names hold changing things, the name of the caught error, of the lambda -/
structure SC where
  sc : Scope
  N : List Str
  fnB : Str → Bool
  hot : Bool
  mu : List Str
  act : Option Str
  lamB : Bool
  ret : Bool
structure IsaOk (Z : St0) (X : Cx) (x : Str) (cs : List Nat) : Prop where
  ex : ∃ (cvV : V) (cv : Value), RelV cvV cv ∧ (∀ u, RelV cvV u → u = cv) ∧ (X.mg x = some cv ∨ (X.mg x = none ∧ bootBuiltins x = some cv ∧ x ≠ "__name__")) ∧
    (∀ k C, Z.C k = some C → PySem.W.kitOne X.K (.ref C) cv = some (cs.contains k)) ∧ (∀ k C, Z.C k = some C → PySem.W.exmOne X.K (.ref C) cv = some (cs.contains k))
/-- f(lambda: body), where f stands in such a place -/
def LamOk (Z : St0) (X : Cx) (S : SC) (W : WX) (c : Cl) (Ex : EXR) (x : Str) (f : Nat) : Prop := ∀ (params : Arguments) (df : Option (Str × Int)) (body : Expr) (scope : Scope) (lpos p pos : Pos) (b : ME), LP params df → LamN S.N df S.sc scope → S.sc.names.lookup x = some .globalImplicit →
  (∀ (X' : Cx) (W' : WX), X'.prog = X.prog → X'.w = X.w → X'.K = X.K → X'.mg = X.mg → X'.base = X.base → X'.env.scope = scope → X'.N = X.N → X'.calm = true → (∃ k, RoomG k X'.A) → Takes X' W' → (∀ f fa, Callee Z X c.C f fa → Callee Z X' c.lo f fa) → SndE Z X' W' ⟨c.lo, noC, Mo.stk, noL⟩ Ex body b) →
  SndE Z X W c Ex (.Call (.Name x p) [.Lambda params body scope lpos] [] pos) (eLam f b)
structure Gd (nm : NM) (S : SC) (Z : St0) (X : Cx) (W : WX) (c : Cl) (Ex : EXR) : Prop where
  hK : X.K = Z.K
  sc : X.env.scope = S.sc
  hN : X.N = S.N
  nd : X.N.Nodup
  fnc : ∀ x, S.fnB x = true → X.fn x = true
  hu : X.A.units + 70 < cLine
  gu : X.A.guards = some []
  calm : S.hot = false → X.calm = true
  tk : Takes X W
  free : ∀ x, nm.free.contains x = true → X.mg x = none
  fns : S.hot = false → ∀ x f, nm.fn.lookup x = some f → ∃ fa, X.mg x = some (.ref fa) ∧ Callee Z X c.C f fa
  fnv : S.hot = false → ∀ f fa, Z.G f = some fa → Callee Z X c.C f fa
  cst : ∀ x p, nm.cst.lookup x = some p → ∃ u v, X.mg x = some u ∧ RelV v u ∧ ∀ F H, Br Z F H p v
  cls : ∀ x k, nm.cls.lookup x = some k → ∃ C, X.mg x = some (.ref C) ∧ Z.C k = some C ∧ ErC X.K C
  isa : ∀ x cs, nm.isa.lookup x = some cs → IsaOk Z X x cs
  hot : S.hot = true → ∃ X0 ad oe C pn, X = Cx.suite X0 ad ((ad, oe) :: pn) ∧ Zc (.ref C) none oe ∧ (∃ vs, oe.data = .fields vs) ∧ Ex = ExOf Z ad C ∧ ExcC X0.K C ∧ ∃ k, Z.C k = some C
  exc : ∀ k C, Z.C k = some C → ExcC X.K C
  lam : S.lamB = true → ∀ x f, nm.lam.lookup x = some f → LamOk Z X S W c Ex x f
variable {nm : NM}
section
variable {S : SC} {Z : St0} {X : Cx} {W : WX} {c : Cl} {Ex : EXR}
def glB (S : SC) (x : Str) : Bool := S.sc.names.lookup x == some .globalImplicit
def okNm (x : Str) : Bool := !(x == ("__debug__" : Str)) && !(x == ("__classdict__" : Str))
def visB (S : SC) (x : Str) : Bool := match S.sc.names.lookup x with
  | some .local | some .cell | some .free => true
  | _ => false
def locB (S : SC) (x : Str) : Bool := match S.sc.names.lookup x with
  | some .local => true
  | some .cell => S.fnB x
  | _ => false
theorem Gd.gl (g : Gd nm S Z X W c Ex) {x : Str} (h : glB S x = true) : Gl X x := by
  unfold Gl Env.kindOf
  rw [g.sc]
  unfold glB at h
  exact eq_of_beq h
theorem okNm_d {x : Str} (h : okNm x = true) : (x == ("__debug__" : Str)) = false ∧ (x == ("__classdict__" : Str)) = false := by
  unfold okNm at h
  simp only [Bool.and_eq_true, Bool.not_eq_true'] at h
  exact h
theorem Gd.vis (g : Gd nm S Z X W c Ex) {x : Str} (h : visB S x = true) : Vis X.env.scope x := by
  unfold Vis
  rw [g.sc]
  unfold visB at h
  split at h
  · rename_i e; exact .inl e
  · rename_i e; exact .inr (.inl e)
  · rename_i e; exact .inr (.inr e)
  · cases h
theorem Gd.loc (g : Gd nm S Z X W c Ex) {x : Str} (h : locB S x = true) : L2.Loc X.env.scope x ∧ (X.fn x = true ∨ X.env.scope.names.lookup x = some .local) := by
  unfold L2.Loc
  rw [g.sc]
  unfold locB at h
  split at h
  · rename_i e; exact ⟨.inl e, .inr e⟩
  · rename_i e; exact ⟨.inr e, .inl (g.fnc x h)⟩
  · cases h
/-- a name's slot -/
def ixOf (x : Str) : Nat → List Str → Option Nat
  | _, [] => none
  | i, y :: r => if x = y then some i else ixOf x (i + 1) r
theorem ixOf_ok {x : Str} : ∀ {N : List Str} {k i : Nat}, ixOf x k N = some i → ∃ j, i = k + j ∧ N[j]? = some x
  | [], _, _, h => by cases h
  | y :: r, k, i, h => by
    simp only [ixOf] at h
    split at h
    · rename_i e
      cases h
      subst e
      exact ⟨0, rfl, rfl⟩
    · obtain ⟨j, e1, e2⟩ := ixOf_ok h
      exact ⟨j + 1, by omega, by simpa using e2⟩
theorem Gd.ix (g : Gd nm S Z X W c Ex) {x : Str} {i : Nat} (h : ixOf x 0 S.N = some i) : X.N[i]? = some x := by
  obtain ⟨j, e1, e2⟩ := ixOf_ok h
  rw [Nat.zero_add] at e1
  subst e1
  rw [g.hN]
  exact e2
theorem star_of {a : Expr} (h : isStarE a = false) : ∀ y q, a ≠ .Starred y q := fun y q e => by
  subst e
  cases h
theorem star_all : ∀ {es : List Expr} {pos : Pos} {env : Env}, es.any isStarE = false → (backTo pos (starEach es env)).any (·.1) = false
  | [], _, _, _ => rfl
  | e :: es, pos, env, h => by
    simp only [List.any_cons, Bool.or_eq_false_iff] at h
    rw [star_cons (star_of h.1)]
    have ih := star_all (pos := pos) (env := env) h.2
    simp only [backTo, List.map_cons, List.any_cons, Bool.or_eq_false_iff]
    exact ⟨trivial, ih⟩
theorem folded_no {iter : Expr} (h : (match iter with | .Set .. => true | _ => false) = false) (env : Env) (x : Value) : foldedSetIterable iter env x = pure x := by
  cases iter <;> first | rfl | cases h
def isSetE : Expr → Bool
  | .Set .. => true
  | _ => false
theorem folded_of {iter : Expr} (h : isSetE iter = false) (env : Env) (x : Value) : foldedSetIterable iter env x = pure x := by
  cases iter <;> first | rfl | cases h
/-! ### the promise of each kind -/
end
variable (nm)
abbrev OE (S : SC) (e : Expr) := Option { m : ME // ∀ (Z : St0) (X : Cx) (W : WX) (c : Cl) (Ex : EXR), Gd nm S Z X W c Ex → SndE Z X W c Ex e m }
abbrev OA (S : SC) (es : List Expr) := Option { m : MA // ∀ (Z : St0) (X : Cx) (W : WX) (c : Cl) (Ex : EXR), Gd nm S Z X W c Ex → SndA Z X W c Ex es m }
abbrev OT (S : SC) (e : Expr) := Option { m : MT // ∀ (Z : St0) (X : Cx) (W : WX) (c : Cl) (Ex : EXR), Gd nm S Z X W c Ex → SndT Z X W c Ex e m }
abbrev OW (S : SC) (e : Expr) := Option { m : MT // ∀ (Z : St0) (X : Cx) (W : WX) (c : Cl) (Ex : EXR), Gd nm S Z X W c Ex → SndW Z X W c Ex e m }
abbrev OI (S : SC) (tg e : Expr) := Option { m : Src // ∀ (Z : St0) (X : Cx) (W : WX) (c : Cl) (Ex : EXR), Gd nm S Z X W c Ex → SndI Z X W c Ex tg e m }
abbrev OG (S : SC) (e : Expr) := Option { m : MG × List Nat // ∀ (Z : St0) (X : Cx) (W : WX) (c : Cl) (Ex : EXR), Gd nm S Z X W c Ex → SndG Z X c Ex e m.2 m.1 }
abbrev OGs (S : SC) (es : List Expr) := Option { m : List MG × List Nat // (∀ (Z : St0) (X : Cx) (W : WX) (c : Cl) (Ex : EXR), Gd nm S Z X W c Ex → SndGs Z X c Ex es m.2 m.1) ∧ m.1.length = es.length }
/-- a statement; errors of an except suite stay in it -/
structure GdS (S : SC) (Z : St0) (X : Cx) (W : WX) (c : Cl) (Ex : EXR) : Prop where
  g : Gd nm S Z X W c Ex
  po : S.hot = false → PassesOwn (model X.prog X.w) X.A X.env X.xe
  stk : S.hot = false → X.stack = X.env :: X.outer ∧ X.env.frame = some X.env.locals
  act : ∀ a, S.act = some a → ∀ (pn : List (Addr × Obj)) (xe : Value → Shared → Prop) (W' : WX) (p1 p2 pos : Pos), Takes (X.tr pn xe) W' → SndS Z (X.tr pn xe) W' c Ex (.Expr (.Call (.Name a p1) [] [] p2) pos) sAct
abbrev OS (S : SC) (st : Stmt) := Option { m : MS // ∀ (Z : St0) (X : Cx) (W : WX) (c : Cl) (Ex : EXR), GdS nm S Z X W c Ex → SndS Z X W c Ex st m }
abbrev OSs (S : SC) (st : List Stmt) := Option { m : MS // ∀ (Z : St0) (X : Cx) (W : WX) (c : Cl) (Ex : EXR), GdS nm S Z X W c Ex → SndSs Z X W c Ex st m }
structure Rc where
  E : ∀ (S : SC) (e : Expr), OE nm S e
  M : ∀ (S : SC) (e : Expr), OE nm S e
  A : ∀ (S : SC) (es : List Expr), OA nm S es
  T : ∀ (S : SC) (e : Expr), OT nm S e
  W : ∀ (S : SC) (e : Expr), OW nm S e
  I : ∀ (S : SC) (tg e : Expr), OI nm S tg e
  G : ∀ (S : SC) (e : Expr), OG nm S e
  Gs : ∀ (S : SC) (es : List Expr), OGs nm S es
  St : ∀ (S : SC) (st : Stmt), OS nm S st
  Ss : ∀ (S : SC) (st : List Stmt), OSs nm S st
variable {nm}
variable (r : Rc nm) (S : SC)
def stA : (es : List Expr) → OA nm S es
  | [] => some ⟨aNil, fun Z X W c Ex g => snd_anil⟩
  | e :: es => if h : isStarE e = false then match r.E S e, r.A S es with
    | some ⟨m, hm⟩, some ⟨ms, hms⟩ => some ⟨aCons m ms, fun Z X W c Ex g => snd_acons (hm Z X W c Ex g) (hms Z X W c Ex g) (star_of h)⟩
    | _, _ => none
    else none
/-- operators -/
def opF : Operator → Option (P → P → Option P)
  | .Add => some addP | .Sub => some subP | .Mult => some mulP | .FloorDiv => some divP | .Mod => some modP | .Pow => some powP
  | _ => none
theorem opF_ok {o : Operator} {f : P → P → Option P} (h : opF o = some f) {Z : St0} {X : Cx} (hK : X.K = Z.K) : OpS Z X (binaryOp o) f := by
  cases o <;> simp only [opF] at h <;> cases h
  · exact opS_add hK
  · exact opS_sub
  · exact opS_mul hK
  · exact opS_mod
  · exact opS_pow
  · exact opS_div
def iaddP : P → P → Option P := fun a b => match a, b with | .int i, .int j => some (.int (i + j)) | _, _ => none
def iopF : Operator → Option (P → P → Option P)
  | .Add => some iaddP | .Sub => some subP
  | _ => none
theorem iopF_ok {o : Operator} {f : P → P → Option P} (h : iopF o = some f) {Z : St0} {X : Cx} : OpS Z X (inplaceOp o) f := by
  cases o <;> simp only [iopF] at h <;> cases h
  · exact opS_iadd
  · exact opS_isub
def isNoneE : Expr → Bool
  | .Constant .none .. => true
  | _ => false
def copF (o : CmpOp) (b : Expr) : Option Cop := match o with
  | .Lt => some .lt | .LtE => some .le | .Gt => some .gt | .GtE => some .ge | .Eq => some .eq | .NotEq => some .ne
  | .Is => if isNoneE b then some .isn else some .isb
  | .IsNot => if isNoneE b then some .notn else some .notb
  | .In => some .inn | .NotIn => some .notin
theorem copF_ok {o : CmpOp} {b : Expr} {q : Cop} (h : copF o b = some q) : q.op = o := by
  cases o <;> simp only [copF] at h <;> first | (cases h; rfl) | (split at h <;> cases h <;> rfl)
def bm (o : Cop) (b : Expr) : Bool := !(behindInMarks o.op b)
def stCmp (a : Expr) (ops : List CmpOp) (bs : List Expr) (pos : Pos) : OE nm S (.Compare a ops bs pos) := match ops, bs with
  | [o], [b] => match h : copF o b, r.E S a, r.E S b with
    | some q, some ⟨ma, ha⟩, some ⟨mb, hb⟩ => if h2 : behindInMarks q.op b = false then some ⟨eCmp q ma mb, fun Z X W c Ex g => copF_ok h ▸ snd_cmp g.hK g.hu h2 (ha Z X W c Ex g) (hb Z X W c Ex g)⟩ else none
    | _, _, _ => none
  | [o, o'], [b, d] => match h : copF o b, h' : copF o' d, r.E S a, r.E S b, r.E S d with
    | some q, some q', some ⟨ma, ha⟩, some ⟨mb, hb⟩, some ⟨md, hd⟩ => if h2 : lastMarks [q.op, q'.op] [b, d] = false then some ⟨eChain q q' ma mb md, fun Z X W c Ex g => copF_ok h ▸ copF_ok h' ▸ snd_chain g.hK g.hu h2 (ha Z X W c Ex g) (hb Z X W c Ex g) (hd Z X W c Ex g)⟩ else none
    | _, _, _, _, _ => none
  | _, _ => none
def stCmpT (a : Expr) (ops : List CmpOp) (bs : List Expr) (pos : Pos) : OT nm S (.Compare a ops bs pos) := match ops, bs with
  | [o], [b] => match h : copF o b, r.E S a, r.E S b with
    | some q, some ⟨ma, ha⟩, some ⟨mb, hb⟩ => if h2 : behindInMarks q.op b = false then some ⟨EV.tCmp q ma mb, fun Z X W c Ex g => copF_ok h ▸ snd_tcmp g.hK g.hu h2 (ha Z X W c Ex g) (hb Z X W c Ex g)⟩ else none
    | _, _, _ => none
  | [o, o'], [b, d] => match h : copF o b, h' : copF o' d, r.E S a, r.E S b, r.E S d with
    | some q, some q', some ⟨ma, ha⟩, some ⟨mb, hb⟩, some ⟨md, hd⟩ => if h2 : lastMarks [q.op, q'.op] [b, d] = false then some ⟨EV.tChain q q' ma mb md, fun Z X W c Ex g => copF_ok h ▸ copF_ok h' ▸ snd_tchain g.hK g.hu h2 (ha Z X W c Ex g) (hb Z X W c Ex g) (hd Z X W c Ex g)⟩ else none
    | _, _, _, _, _ => none
  | _, _ => none
def stName (x : Str) (pos : Pos) : OE nm S (.Name x pos) :=
  if h0 : okNm x = true then
    if h1 : visB S x = true then match h : ixOf x 0 S.N with
      | some i => some ⟨eVar i, fun Z X W c Ex g => snd_var (g.ix h) (g.vis h1) (okNm_d h0).1 (okNm_d h0).2⟩
      | none => none
    else if h1 : glB S x = true then match h : nm.cst.lookup x with
      | some p => some ⟨eC p, fun Z X W c Ex g => by
          obtain ⟨u, v, e1, e2, e3⟩ := g.cst x p h
          exact snd_pe (pe_glob (g.gl h1) e1 e2 (okNm_d h0).1) e3⟩
      | none => match h : nm.fn.lookup x with
        | some f => if h3 : S.hot = false then some ⟨eC (.fn f), fun Z X W c Ex g => by
            obtain ⟨fa, e1, e2⟩ := g.fns h3 x f h
            obtain ⟨_, _, _, _, _, _, _, e3, _⟩ := e2.ex
            exact snd_pe (v := .ref fa) (pe_glob (g.gl h1) e1 rfl (okNm_d h0).1) fun _ _ => .fn e3⟩ else none
        | none => none
    else none
  else none
def stBool (o : BoolOp) (es : List Expr) (pos : Pos) : OE nm S (.BoolOp o es pos) := match o, es with
  | .And, a :: b :: rest => match r.E S a, r.E S (.BoolOp .And (b :: rest) pos) with
    | some ⟨ma, ha⟩, some ⟨mb, hb⟩ => some ⟨eAnd ma mb, fun Z X W c Ex g => snd_and g.hK (ha Z X W c Ex g) (hb Z X W c Ex g)⟩
    | _, _ => none
  | .Or, a :: b :: rest => match r.E S a, r.E S (.BoolOp .Or (b :: rest) pos) with
    | some ⟨ma, ha⟩, some ⟨mb, hb⟩ => some ⟨eOr ma mb, fun Z X W c Ex g => snd_or g.hK (ha Z X W c Ex g) (hb Z X W c Ex g)⟩
    | _, _ => none
  | _, [a] => match r.E S a with
    | some ⟨ma, ha⟩ => some ⟨ma, fun Z X W c Ex g => snd_one (ha Z X W c Ex g)⟩
    | none => none
  | _, [] => none
abbrev OO (S : SC) (e : Option Expr) := Option { m : MO' // ∀ (Z : St0) (X : Cx) (W : WX) (c : Cl) (Ex : EXR), Gd nm S Z X W c Ex → SndO Z X W c Ex e m }
def stO : (e : Option Expr) → OO (nm := nm) S e
  | none => some ⟨oNone, fun Z X W c Ex g => sndo_none⟩
  | some e => match r.E S e with
    | some ⟨m, hm⟩ => some ⟨oSome m, fun Z X W c Ex g => sndo_some (hm Z X W c Ex g)⟩
    | none => none
def stSub (a b : Expr) (pos : Pos) : OE nm S (.Subscript a b pos) := match r.E S a with
  | none => none
  | some ⟨ma, ha⟩ => match b with
    | .Slice none none (some (.UnaryOp .USub (.Constant (.int i) k p1) p2)) p3 => if h : i = 1 then some ⟨eRev ma, fun Z X W c Ex g => by subst h; exact snd_rev g.hK (ha Z X W c Ex g)⟩ else none
    | .Slice lo hi none p2 => match stO r S lo, stO r S hi with
      | some ⟨ml, hl⟩, some ⟨mh, hh⟩ => some ⟨eSl ma ml mh, fun Z X W c Ex g => snd_sl g.hK (ha Z X W c Ex g) (hl Z X W c Ex g) (hh Z X W c Ex g)⟩
      | _, _ => none
    | b => if h : isSl b = false then match r.E S b with
      | some ⟨mb, hb⟩ => some ⟨eIx ma mb, fun Z X W c Ex g => snd_ix g.hK g.hu h (ha Z X W c Ex g) (hb Z X W c Ex g)⟩
      | none => none
      else none
/-! ### calls -/
def b1s : List B1 := [.len, .abs, .sum, .any, .all, .min, .max, .sorted, .tuple, .list, .int, .str, .repr]
def b1Of (x : Str) : Option B1 := b1s.find? fun t => decide (x = Str.ofString t.nm)
theorem b1Of_ok {x : Str} {t : B1} (h : b1Of x = some t) : x = Str.ofString t.nm := by
  have := List.find?_some h
  exact of_decide_eq_true this
def b2Of (x : Str) : Option B2 := [B2.min, B2.max].find? fun t => decide (x = Str.ofString t.nm)
theorem b2Of_ok {x : Str} {t : B2} (h : b2Of x = some t) : x = Str.ofString t.nm := by
  have := List.find?_some h
  exact of_decide_eq_true this
def tyOf (x : Str) : Option Ty := [Ty.int, .bool, .str, .tuple, .list, .dict].find? fun t => decide (x = Str.ofString t.s)
theorem tyOf_ok {x : Str} {t : Ty} (h : tyOf x = some t) : x = Str.ofString t.s := by
  have := List.find?_some h
  exact of_decide_eq_true this
def freeB (nm : NM) (S : SC) (x : Str) : Bool := glB S x && nm.free.contains x
theorem free_gl {S : SC} {x : Str} (h : freeB nm S x = true) {Z : St0} {X : Cx} {W : WX} {c : Cl} {Ex : EXR} (g : Gd nm S Z X W c Ex) : Gl X x ∧ X.mg x = none := by
  unfold freeB at h
  rw [Bool.and_eq_true] at h
  exact ⟨g.gl h.1, g.free x h.2⟩
def isLen : B1 → Bool
  | .len => true
  | _ => false
theorem isLen_ok {t : B1} (h : isLen t = true) : t = .len := by cases t <;> first | rfl | cases h
/-- a built-in of one thing -/
def stB1 (x : Str) (p : Pos) (a : Expr) (pos : Pos) : OE nm S (.Call (.Name x p) [a] [] pos) := match h : b1Of x with
  | some t => if h1 : freeB nm S x = true ∧ isStarE a = false ∧ (S.hot = false ∨ isLen t = true) then match r.E S a with
    | some ⟨m, hm⟩ => some ⟨eB1 t m, fun Z X W c Ex g => snd_b1 g.hK ⟨g.gu, g.hu⟩ (b1Of_ok h) (h1.2.2.elim (fun z => .inl (g.calm z)) fun z => .inr (isLen_ok z)) (free_gl h1.1 g).1 (free_gl h1.1 g).2 (star_of h1.2.1) (hm Z X W c Ex g)⟩
    | none => none
    else none
  | none => none
def stIsi (p : Pos) (a : Expr) (x : Str) (pt pos : Pos) : OE nm S (.Call (.Name "isinstance" p) [a, .Name x pt] [] pos) := match h : tyOf x with
  | some t => if h1 : freeB nm S "isinstance" = true ∧ freeB nm S x = true ∧ isStarE a = false then match r.E S a with
    | some ⟨m, hm⟩ => some ⟨eIsi m t, fun Z X W c Ex g => snd_isi g.hK (tyOf_ok h) (free_gl h1.1 g).1 (free_gl h1.1 g).2 (free_gl h1.2.1 g).1 (free_gl h1.2.1 g).2 (star_of h1.2.2) (hm Z X W c Ex g)⟩
    | none => none
    else none
  | none => match a with
    | .Name n q1 => match h : nm.isa.lookup x, h2 : ixOf n 0 S.N with
      | some cs, some i => if h1 : S.hot = true ∧ freeB nm S "isinstance" = true ∧ glB S x = true ∧ visB S n = true ∧ okNm n = true ∧ okNm x = true then
          some ⟨eIsE i cs, fun Z X W c Ex g => by
            obtain ⟨X0, ad, oe, C, pn, rfl, hz, hv, rfl, T, hk⟩ := g.hot h1.1
            obtain ⟨cvV, cv, e1, e2, e3, e4, _⟩ := (g.isa x cs h).ex
            have hp : PE (Cx.suite X0 ad ((ad, oe) :: pn)) (.Name x pt) (tC cvV) := by
              rcases e3 with e3 | ⟨e3, e5, e6⟩
              · exact pe_glob (g.gl h1.2.2.1) e3 e1 (okNm_d h1.2.2.2.2.2).1
              · exact pe_bltn (g.gl h1.2.2.1) e3 e5 e1 e6 (okNm_d h1.2.2.2.2.2).1
            exact snd_isE T hz hv (g.ix h2) (g.vis h1.2.2.2.1) (okNm_d h1.2.2.2.2.1).1 (okNm_d h1.2.2.2.2.1).2 (free_gl h1.2.1 g).1 (free_gl h1.2.1 g).2 hp e2 fun k hk => e4 k C hk⟩ else none
      | _, _ => none
    | _ => none
/-- a call of a def, of a def held by a name -/
def stFn (x : Str) (p : Pos) (es : List Expr) (pos : Pos) : OE nm S (.Call (.Name x p) es [] pos) :=
  if h0 : okNm x = true ∧ S.hot = false then
    if h1 : visB S x = true then match es, h : ixOf x 0 S.N with
      | e :: es, some i => if h2 : isStarE e = false ∧ es.any isStarE = false then match r.A S (e :: es) with
        | some ⟨m, hm⟩ => some ⟨eCallV i m, fun Z X W c Ex g => snd_callV g.tk (g.fnv h0.2) (g.ix h) (g.vis h1) (okNm_d h0.1).1 (okNm_d h0.1).2 (star_of h2.1) (star_all h2.2) (hm Z X W c Ex g)⟩
        | none => none
        else none
      | _, _ => none
    else if h1 : glB S x = true then match h : nm.fn.lookup x with
      | some f => match es with
        | [] => some ⟨eCall f aNil, fun Z X W c Ex g => by
            obtain ⟨fa, e1, e2⟩ := g.fns h0.2 x f h
            exact snd_call0 g.tk e2 (g.gl h1) e1 (okNm_d h0.1).1⟩
        | e :: es => if h2 : isStarE e = false ∧ es.any isStarE = false then match r.A S (e :: es) with
          | some ⟨m, hm⟩ => some ⟨eCall f m, fun Z X W c Ex g => by
              obtain ⟨fa, e1, e2⟩ := g.fns h0.2 x f h
              exact snd_call g.tk e2 (g.gl h1) e1 (okNm_d h0.1).1 (star_of h2.1) (star_all h2.2) (hm Z X W c Ex g)⟩
          | none => none
          else none
      | none => none
    else none
  else none
def stB2 (x : Str) (p : Pos) (a b : Expr) (pos : Pos) : OE nm S (.Call (.Name x p) [a, b] [] pos) := match h : b2Of x with
  | some t => if h1 : S.hot = false ∧ freeB nm S x = true ∧ isStarE a = false ∧ isStarE b = false then match r.E S a, r.E S b with
    | some ⟨m, hm⟩, some ⟨m', hm'⟩ => some ⟨eB2 t m m', fun Z X W c Ex g => snd_b2 (g.calm h1.1) (b2Of_ok h) (free_gl h1.2.1 g).1 (free_gl h1.2.1 g).2 (star_of h1.2.2.1) (star_of h1.2.2.2) (hm Z X W c Ex g) (hm' Z X W c Ex g)⟩
    | _, _ => none
    else none
  | none => none
/-- the lambda's place -/
def lamSC (S : SC) (scope : Scope) : SC := ⟨scope, S.N, fun _ => false, false, [], none, false, false⟩
abbrev lpOf : (params : Arguments) → Option { df : Option (Str × Int) // LP params df }
  | ⟨[], [], none, [], [], none, []⟩ => some ⟨none, .z⟩
  | ⟨[], [⟨x, an, ap⟩], none, [], [], none, [.Constant (.int i) j cp]⟩ => if h : x = "of" then some ⟨some ("of", i), by subst h; exact .o i j an ap cp⟩ else none
  | _ => none
def stLam (x : Str) (p : Pos) (params : Arguments) (body : Expr) (scope : Scope) (lpos pos : Pos) : OE nm S (.Call (.Name x p) [.Lambda params body scope lpos] [] pos) := match h : nm.lam.lookup x, lpOf params with
  | some f, some ⟨df, lp⟩ => if h1 : (S.hot = false ∧ S.lamB = true) ∧ lamNB S.N df S.sc scope = true ∧ glB S x = true then match r.E (lamSC S scope) body with
    | some ⟨m, hm⟩ => some ⟨eLam f m, fun Z X W c Ex g => by
        refine g.lam h1.1.2 x f h params df body scope lpos p pos m lp (lamN_by h1.2.1) (eq_of_beq h1.2.2) fun X' W' e1 e2 e3 e4 e5 e6 e7 e8 e9 e10 e11 => hm Z X' W' _ Ex ?_
        obtain ⟨k, hk⟩ := e9
        refine ⟨e3.trans g.hK, e6, e7.trans g.hN, by rw [e7]; exact g.nd, fun x z => (by cases z), by have := hk.rm.un; omega, hk.gu, fun _ => e8, e10, fun x hx => by rw [e4]; exact g.free x hx, fun _ x f hf => ?_, fun _ f fa hf => e11 f fa (g.fnv h1.1.1 f fa hf), fun x p hp => ?_, fun x k hk => ?_, fun x cs hcs => ?_, fun z => (by cases z), fun k C hC => by rw [e3]; exact g.exc k C hC, fun z => by cases z⟩
        · obtain ⟨fa, q1, q2⟩ := g.fns h1.1.1 x f hf
          exact ⟨fa, by rw [e4]; exact q1, e11 f fa q2⟩
        · obtain ⟨u, v, q1, q2⟩ := g.cst x p hp
          exact ⟨u, v, by rw [e4]; exact q1, q2⟩
        · obtain ⟨C, q1, q2, q3⟩ := g.cls x k hk
          exact ⟨C, by rw [e4]; exact q1, q2, by rw [e3]; exact q3⟩
        · obtain ⟨cvV, cv, q1, q2, q3, q4, q5⟩ := (g.isa x cs hcs).ex
          exact ⟨⟨cvV, cv, q1, q2, by rw [e4]; exact q3, by rw [e3]; exact q4, by rw [e3]; exact q5⟩⟩⟩
    | none => none
    else none
  | _, _ => none
end EV
end
section
/-! Ev14: .. statements; the whole. -/
namespace EV
open PySem PySem.Spec PyProof.Rows L2
variable {nm : NM}
section
variable {S : SC} {Z : St0} {X : Cx} {W : WX} {c : Cl} {Ex : EXR} {e : Expr} {me : ME}
theorem SndE.w0 (h : SndE Z X W c Ex e me) : SndE Z X W0 c Ex e me := fun σd st wd σ H Q rs rg q => h σd st wd σ H Q rs rg (q.imp (fun _ _ _ _ z => z.elim) fun _ _ z => z)
theorem takes0 {X : Cx} : Takes X W0 := fun _ _ x => by
  obtain ⟨_, _, _, _, _, _, _, _, _, _, _, _, _, _, _, _, z⟩ := x
  exact z.elim
/-- in a block -/
def blkSC (S : SC) (scope : Scope) : SC := ⟨relS scope S.sc, S.N, fun x => scope.names.lookup x == some .cell, false, [], none, false, false⟩
theorem Gd.blk (g : Gd nm S Z X W c Ex) (hh : S.hot = false) (scope : Scope) (s : Shared) (H : Hp) (C : Addr) (cl : List (Str × Addr)) (fp : List Addr) : Gd nm (blkSC S scope) Z (Bk X scope s H C cl fp) W0 c Ex where
  hK := g.hK
  sc := by
    show relS scope X.env.scope = relS scope S.sc
    rw [g.sc]
  hN := g.hN
  nd := g.nd
  fnc := fun x h => h
  hu := g.hu
  gu := g.gu
  calm := fun _ => g.calm hh
  tk := takes0
  free := g.free
  fns := fun _ x f h => by
    obtain ⟨fa, h1, h2⟩ := g.fns hh x f h
    exact ⟨fa, h1, ⟨h2.ex⟩⟩
  fnv := fun _ f fa h => ⟨(g.fnv hh f fa h).ex⟩
  cst := g.cst
  cls := g.cls
  isa := fun x cs h => ⟨(g.isa x cs h).ex⟩
  hot := fun z => by cases z
  exc := g.exc
  lam := fun z => by cases z
/-- in a try's body -/
def tryS (S : SC) : SC := ⟨S.sc, S.N, S.fnB, S.hot, S.mu, S.act, false, S.ret⟩
theorem Gd.tr (g : Gd nm S Z X W c Ex) (hh : S.hot = false) (pn : List (Addr × Obj)) (xe : Value → Shared → Prop) {W' : WX} (tk : Takes (X.tr pn xe) W') : Gd nm (tryS S) Z (X.tr pn xe) W' c Ex where
  hK := g.hK
  sc := g.sc
  hN := g.hN
  nd := g.nd
  fnc := g.fnc
  hu := g.hu
  gu := g.gu
  calm := g.calm
  tk := tk
  free := g.free
  fns := fun _ x f h => by
    obtain ⟨fa, h1, h2⟩ := g.fns hh x f h
    exact ⟨fa, h1, ⟨h2.ex⟩⟩
  fnv := fun _ f fa h => ⟨(g.fnv hh f fa h).ex⟩
  cst := g.cst
  cls := g.cls
  isa := fun x cs h => ⟨(g.isa x cs h).ex⟩
  hot := fun z => by
    have z : S.hot = true := z
    rw [hh] at z
    cases z
  exc := g.exc
  lam := fun z => by cases z
/-- in an except suite -/
def hotS (S : SC) : SC := ⟨S.sc, S.N, S.fnB, true, [], none, false, false⟩
theorem Gd.suite (g : Gd nm S Z X W c Ex) {ad : Addr} {oe : Obj} {C : Addr} {pn : List (Addr × Obj)} (hC : ∃ k, Z.C k = some C) (hz : Zc (.ref C) none oe) (hv : ∃ vs, oe.data = .fields vs) : Gd nm (hotS S) Z (Cx.suite X ad ((ad, oe) :: pn)) W0 c (ExOf Z ad C) where
  hK := g.hK
  sc := g.sc
  hN := g.hN
  nd := g.nd
  fnc := g.fnc
  hu := g.hu
  gu := g.gu
  calm := fun z => by cases z
  tk := takes0
  free := g.free
  fns := fun z => by cases z
  fnv := fun z => by cases z
  cst := g.cst
  cls := g.cls
  isa := fun x cs h => ⟨(g.isa x cs h).ex⟩
  hot := fun _ => by
    obtain ⟨k, hk⟩ := hC
    exact ⟨X, ad, oe, C, pn, rfl, hz, hv, rfl, g.exc k C hk, k, hk⟩
  exc := g.exc
  lam := fun z => by cases z
end
variable (r : Rc nm) (S : SC)
/-! ### calls -/
def stSrt (x : Str) (p : Pos) (y : Str) (p2 : Pos) (a : Expr) (q pos : Pos) : OE nm S (.Call (.Name x p) [.Call (.Name y p2) [a] [] q] [] pos) :=
  if h : x = "sorted" ∧ y = "set" ∧ freeB nm S "sorted" = true ∧ freeB nm S "set" = true ∧ isStarE a = false ∧ S.hot = false then match r.E S a with
    | some ⟨m, hm⟩ => some ⟨eSrt m, fun Z X W c Ex g => by
        obtain ⟨h1, h2, h3, h4, h5, h6⟩ := h
        subst h1
        subst h2
        exact snd_srt g.hK (g.calm h6) (free_gl h3 g).1 (free_gl h3 g).2 (free_gl h4 g).1 (free_gl h4 g).2 (star_of h5) (hm Z X W c Ex g)⟩
    | none => none
  else none
def stLrg (x : Str) (p : Pos) (y : Str) (p2 : Pos) (a : Expr) (q pos : Pos) : OE nm S (.Call (.Name x p) [.Call (.Name y p2) [a] [] q] [] pos) :=
  if h : x = "list" ∧ y = "range" ∧ freeB nm S "list" = true ∧ freeB nm S "range" = true ∧ isStarE a = false ∧ S.hot = false then match r.E S a with
    | some ⟨m, hm⟩ => some ⟨eLrg m, fun Z X W c Ex g => by
        obtain ⟨h1, h2, h3, h4, h5, h6⟩ := h
        subst h1
        subst h2
        exact snd_lrg (g.calm h6) (free_gl h3 g).1 (free_gl h3 g).2 (free_gl h4 g).1 (free_gl h4 g).2 (star_of h5) (hm Z X W c Ex g)⟩
    | none => none
  else none
def stCall (x : Str) (p : Pos) (es : List Expr) (pos : Pos) : OE nm S (.Call (.Name x p) es [] pos) := match es with
  | [.Lambda params body scope lpos] => stLam r S x p params body scope lpos pos
  | es => match stFn r S x p es pos with
    | some q => some q
    | none => match es with
      | [.Call (.Name y p2) [a] [] q] => match stSrt r S x p y p2 a q pos with
        | some z => some z
        | none => match stLrg r S x p y p2 a q pos with
          | some z => some z
          | none => stB1 r S x p (.Call (.Name y p2) [a] [] q) pos
      | [a] => stB1 r S x p a pos
      | [a, .Name y pt] => if h : x = "isinstance" then h ▸ stIsi r S p a y pt pos else stB2 r S x p a (.Name y pt) pos
      | [a, b] => stB2 r S x p a b pos
      | _ => none
def stMeth (o : Expr) (m : Str) (apos : Pos) (es : List Expr) (pos : Pos) : OE nm S (.Call (.Attribute o m apos) es [] pos) :=
  if h0 : isCallE o = false ∧ (apos.endLine == pos.line) = true then match r.E S o with
    | none => none
    | some ⟨mo, ho⟩ => match es with
      | [] => if h : m = "pop" then some ⟨ePop mo, fun Z X W c Ex g => by subst h; exact snd_pop h0.1 h0.2 (ho Z X W c Ex g)⟩ else none
      | [e] => if h1 : isStarE e = false then match r.E S e with
        | none => none
        | some ⟨m1, he⟩ => if h : m = "append" then some ⟨eApp mo m1, fun Z X W c Ex g => by subst h; exact snd_app h0.1 (star_of h1) h0.2 (ho Z X W c Ex g) (he Z X W c Ex g)⟩
          else if h : m = "extend" then some ⟨eExt mo m1, fun Z X W c Ex g => by subst h; exact snd_ext h0.1 (star_of h1) h0.2 (ho Z X W c Ex g) (he Z X W c Ex g)⟩
          else if h : m = "pop" then some ⟨ePopAt mo m1, fun Z X W c Ex g => by subst h; exact snd_popAt h0.1 (star_of h1) h0.2 (ho Z X W c Ex g) (he Z X W c Ex g)⟩
          else if h : m = "count" then some ⟨eLm cntP mo m1, fun Z X W c Ex g => by subst h; exact snd_cnt h0.1 (star_of h1) h0.2 (ho Z X W c Ex g) (he Z X W c Ex g)⟩
          else if h : m = "index" then some ⟨eLm ndxP mo m1, fun Z X W c Ex g => by subst h; exact snd_idx h0.1 (star_of h1) h0.2 (ho Z X W c Ex g) (he Z X W c Ex g)⟩
          else none
        else none
      | [e, f] => if h1 : m = "get" ∧ isStarE e = false ∧ isStarE f = false then match r.E S e, r.E S f with
        | some ⟨m1, he⟩, some ⟨m2, hf⟩ => some ⟨eDget2 mo m1 m2, fun Z X W c Ex g => by
            obtain ⟨h, h2, h3⟩ := h1
            subst h
            exact snd_dget2 g.hu h0.1 (star_of h2) (star_of h3) h0.2 (ho Z X W c Ex g) (he Z X W c Ex g) (hf Z X W c Ex g)⟩
        | _, _ => none
        else none
      | _ => none
    else none
/-! ### comprehensions -/
def ownOf (N : List Str) (scope : Scope) : List (Str × Nat) := scope.names.filterMap fun y => match y.2 with
  | .local | .cell => (ixOf y.1 0 N).map fun i => (y.1, i)
  | _ => none
structure LcP (nm : NM) (S : SC) (tg iter : Expr) (ifs : List Expr) (scope : Scope) (e : Expr) where
  w : Src
  g : MG
  is : List Nat
  t : MT
  m : ME
  ok : blkC S.N S.sc scope (ownOf S.N scope) = true
  hs : isSetE iter = false
  hi : ∀ i ∈ is, i ∈ (ownOf S.N scope).map (·.2)
  hot : S.hot = false
  hw : ∀ (Z : St0) (X : Cx) (W : WX) (c : Cl) (Ex : EXR), Gd nm S Z X W c Ex → SndI Z X W c Ex tg iter w
  hg : ∀ (Z : St0) (X : Cx) (W : WX) (c : Cl) (Ex : EXR), Gd nm (blkSC S scope) Z X W c Ex → SndG Z X c Ex tg is g
  ht : ∀ (Z : St0) (X : Cx) (W : WX) (c : Cl) (Ex : EXR), Gd nm (blkSC S scope) Z X W c Ex → SndTs Z X W c Ex ifs t
  he : ∀ (Z : St0) (X : Cx) (W : WX) (c : Cl) (Ex : EXR), Gd nm (blkSC S scope) Z X W c Ex → SndE Z X W c Ex e m
abbrev OTs (nm : NM) (S : SC) (ifs : List Expr) := Option { m : MT // ∀ (Z : St0) (X : Cx) (W : WX) (c : Cl) (Ex : EXR), Gd nm S Z X W c Ex → SndTs Z X W c Ex ifs m }
def stTs : (ifs : List Expr) → OTs nm S ifs
  | [] => some ⟨EV.tYes, fun Z X W c Ex g => snd_tsnil⟩
  | [a] => match r.T S a with
    | some ⟨m, hm⟩ => some ⟨m, fun Z X W c Ex g => snd_tsone (hm Z X W c Ex g)⟩
    | none => none
  | _ => none
def stLcP (tg iter : Expr) (ifs : List Expr) (scope : Scope) (e : Expr) : Option (LcP nm S tg iter ifs scope e) :=
  if h : blkC S.N S.sc scope (ownOf S.N scope) = true ∧ isSetE iter = false ∧ S.hot = false then
    match r.I S tg iter, r.G (blkSC S scope) tg, stTs r (blkSC S scope) ifs, r.E (blkSC S scope) e with
    | some ⟨w, hw⟩, some ⟨g, hg⟩, some ⟨t, ht⟩, some ⟨m, hm⟩ => if h2 : (g.2.all fun i => decide (i ∈ (ownOf S.N scope).map (·.2))) = true then
        some ⟨w, g.1, g.2, t, m, h.1, h.2.1, fun i hi => of_decide_eq_true (List.all_eq_true.mp h2 i hi), h.2.2, hw, hg, ht, hm⟩ else none
    | _, _, _, _ => none
  else none
theorem LcP.snd {S : SC} {tg iter e : Expr} {ifs : List Expr} {scope : Scope} {pos : Pos} (q : LcP nm S tg iter ifs scope e) {Z : St0} {X : Cx} {W : WX} {c : Cl} {Ex : EXR} (g : Gd nm S Z X W c Ex) : SndE Z X W c Ex (.ListComp e [⟨tg, iter, ifs, 0⟩] scope pos) (eLc q.w ((ownOf S.N scope).map (·.2)) q.g q.t q.m) :=
  snd_lc g.hK (g.calm q.hot) g.nd (blkOk_by (by rw [g.hN, g.sc]; exact q.ok)) (folded_of q.hs _) q.hi (q.hw Z X W c Ex g) (fun s H C cl fp => q.hg _ _ _ _ _ (g.blk q.hot scope s H C cl fp)) (fun s H C cl fp => q.ht _ _ _ _ _ (g.blk q.hot scope s H C cl fp)) (fun s H C cl fp => q.he _ _ _ _ _ (g.blk q.hot scope s H C cl fp))
theorem LcP.sndM {S : SC} {tg iter e : Expr} {ifs : List Expr} {scope : Scope} {pos : Pos} (q : LcP nm S tg iter ifs scope e) {Z : St0} {X : Cx} {W : WX} {c : Cl} {Ex : EXR} (g : Gd nm S Z X W c Ex) : SndE Z X W c Ex (.ListComp e [⟨tg, iter, ifs, 0⟩] scope pos) (eLcM q.w ((ownOf S.N scope).map (·.2)) q.g q.t q.m) :=
  snd_lcM g.hK (g.calm q.hot) g.nd (blkOk_by (by rw [g.hN, g.sc]; exact q.ok)) (folded_of q.hs _) q.hi (q.hw Z X W c Ex g) (fun s H C cl fp => q.hg _ _ _ _ _ (g.blk q.hot scope s H C cl fp)) (fun s H C cl fp => q.ht _ _ _ _ _ (g.blk q.hot scope s H C cl fp)) (fun s H C cl fp => q.he _ _ _ _ _ (g.blk q.hot scope s H C cl fp))
def stLc (e : Expr) (gs : List Comprehension) (scope : Scope) (pos : Pos) : OE nm S (.ListComp e gs scope pos) := match gs with
  | [⟨tg, iter, ifs, k⟩] => if h : k = 0 then match stLcP r S tg iter ifs scope e with
    | some q => some ⟨eLc q.w ((ownOf S.N scope).map (·.2)) q.g q.t q.m, fun Z X W c Ex g => by subst h; exact q.snd g⟩
    | none => none
    else none
  | _ => none
def stLcM (e : Expr) (gs : List Comprehension) (scope : Scope) (pos : Pos) : OE nm S (.ListComp e gs scope pos) := match gs with
  | [⟨tg, iter, ifs, k⟩] => if h : k = 0 then match stLcP r S tg iter ifs scope e with
    | some q => some ⟨eLcM q.w ((ownOf S.N scope).map (·.2)) q.g q.t q.m, fun Z X W c Ex g => by subst h; exact q.sndM g⟩
    | none => none
    else none
  | _ => none
/-! ### expressions -/
def stE : (e : Expr) → OE nm S e
  | .Constant (.int i) j pos => some ⟨eC (.int i), fun Z X W c Ex g => snd_int⟩
  | .Constant (.bool b) j pos => some ⟨eC (.bl b), fun Z X W c Ex g => snd_bl⟩
  | .Constant (.str x) j pos => some ⟨eC (.str x), fun Z X W c Ex g => snd_str⟩
  | .Constant .none j pos => some ⟨eC .non, fun Z X W c Ex g => snd_non⟩
  | .Name x pos => stName S x pos
  | .Tuple es k pos => match r.A S es with
    | some ⟨m, hm⟩ => some ⟨eTup m, fun Z X W c Ex g => snd_tup (hm Z X W c Ex g)⟩
    | none => none
  | .List es pos => match r.A S es with
    | some ⟨m, hm⟩ => some ⟨eLst m, fun Z X W c Ex g => snd_lst (hm Z X W c Ex g)⟩
    | none => none
  | .Dict [] [] pos => some ⟨eEd, fun Z X W c Ex g => snd_ed⟩
  | .BinOp a o b pos => match h : opF o, r.E S a, r.E S b with
    | some f, some ⟨ma, ha⟩, some ⟨mb, hb⟩ => some ⟨eOp f ma mb, fun Z X W c Ex g => snd_op (opF_ok h g.hK) (ha Z X W c Ex g) (hb Z X W c Ex g)⟩
    | _, _, _ => none
  | .UnaryOp .USub a pos => match r.E S a with
    | some ⟨ma, ha⟩ => some ⟨eNeg ma, fun Z X W c Ex g => snd_neg (ha Z X W c Ex g)⟩
    | none => none
  | .UnaryOp .Not a pos => match r.E S a with
    | some ⟨ma, ha⟩ => some ⟨eNot ma, fun Z X W c Ex g => snd_not (ha Z X W c Ex g)⟩
    | none => none
  | .BoolOp o es pos => stBool r S o es pos
  | .Compare a ops bs pos => stCmp r S a ops bs pos
  | .IfExp t a b pos => match r.T S t, r.E S a, r.E S b with
    | some ⟨mt, ht⟩, some ⟨ma, ha⟩, some ⟨mb, hb⟩ => some ⟨EV.eIf mt ma mb, fun Z X W c Ex g => snd_if (ht Z X W c Ex g) (ha Z X W c Ex g) (hb Z X W c Ex g)⟩
    | _, _, _ => none
  | .Subscript a b pos => stSub r S a b pos
  | .Call (.Name x p) es [] pos => stCall r S x p es pos
  | .Call (.Attribute o m apos) es [] pos => stMeth r S o m apos es pos
  | .ListComp e gs scope pos => stLc r S e gs scope pos
  | _ => none
/-- .. that is to change -/
def stM : (e : Expr) → OE nm S e
  | .List es pos => match r.A S es with
    | some ⟨m, hm⟩ => some ⟨eLstM m, fun Z X W c Ex g => snd_lstM (hm Z X W c Ex g)⟩
    | none => none
  | .Dict [] [] pos => some ⟨eDctM, fun Z X W c Ex g => snd_dctM⟩
  | .ListComp e gs scope pos => stLcM r S e gs scope pos
  | .IfExp t a b pos => match r.T S t, r.M S a, r.M S b with
    | some ⟨mt, ht⟩, some ⟨ma, ha⟩, some ⟨mb, hb⟩ => some ⟨EV.eIf mt ma mb, fun Z X W c Ex g => snd_if (ht Z X W c Ex g) (ha Z X W c Ex g) (hb Z X W c Ex g)⟩
    | _, _, _ => none
  | .Call (.Name x p) [a] [] pos => if h : x = "list" ∧ freeB nm S "list" = true ∧ isStarE a = false then match r.E S a with
    | some ⟨m, hm⟩ => some ⟨eListM m, fun Z X W c Ex g => by
        obtain ⟨h, h1, h2⟩ := h
        subst h
        exact snd_listM g.hK (free_gl h1 g).1 (free_gl h1 g).2 (star_of h2) (hm Z X W c Ex g)⟩
    | none => none
    else r.E S (.Call (.Name x p) [a] [] pos)
  | e => r.E S e
def stT : (e : Expr) → OT nm S e
  | .BoolOp o es pos => match r.W S (.BoolOp o es pos) with
    | some ⟨m, hm⟩ => some ⟨m, fun Z X W c Ex g => snd_wt (hm Z X W c Ex g)⟩
    | none => none
  | .UnaryOp .Not a pos => match r.T S a with
    | some ⟨m, hm⟩ => some ⟨EV.tNot m, fun Z X W c Ex g => snd_tnot (hm Z X W c Ex g)⟩
    | none => none
  | .Compare a ops bs pos => stCmpT r S a ops bs pos
  | e => if h : plainT e = true then match r.E S e with
    | some ⟨m, hm⟩ => some ⟨tV m, fun Z X W c Ex g => snd_tv g.hK h (hm Z X W c Ex g)⟩
    | none => none
    else none
def stW : (e : Expr) → OW nm S e
  | .BoolOp .And (a :: b :: rest) pos => match r.T S a, r.W S (.BoolOp .And (b :: rest) pos) with
    | some ⟨ma, ha⟩, some ⟨mb, hb⟩ => some ⟨EV.tAnd ma mb, fun Z X W c Ex g => snd_wand (ha Z X W c Ex g) (hb Z X W c Ex g)⟩
    | _, _ => none
  | .BoolOp .Or (a :: b :: rest) pos => match r.T S a, r.W S (.BoolOp .Or (b :: rest) pos) with
    | some ⟨ma, ha⟩, some ⟨mb, hb⟩ => some ⟨EV.tOr ma mb, fun Z X W c Ex g => snd_wor (ha Z X W c Ex g) (hb Z X W c Ex g)⟩
    | _, _ => none
  | .BoolOp .And [a] pos => match r.T S a with
    | some ⟨m, hm⟩ => some ⟨m, fun Z X W c Ex g => snd_wand1 (hm Z X W c Ex g)⟩
    | none => none
  | .BoolOp .Or [a] pos => match r.T S a with
    | some ⟨m, hm⟩ => some ⟨m, fun Z X W c Ex g => snd_wor1 (hm Z X W c Ex g)⟩
    | none => none
  | _ => none
/-! ### what is walked -/
def stSeq (tg e : Expr) : OI nm S tg e := match r.E S e with
  | some ⟨m, hm⟩ => some ⟨wSeq m, fun Z X W c Ex g => snd_wseq g.hK (hm Z X W c Ex g)⟩
  | none => none
def stI (tg : Expr) : (e : Expr) → OI nm S tg e
  | .Call (.Name x p) [a] [] pos => if h : x = "range" ∧ freeB nm S "range" = true ∧ isStarE a = false then match r.E S a with
      | some ⟨m, hm⟩ => some ⟨wRng1 m, fun Z X W c Ex g => by
          obtain ⟨h, h1, h2⟩ := h
          subst h
          exact snd_wrng1 (free_gl h1 g).1 (free_gl h1 g).2 (star_of h2) (hm Z X W c Ex g)⟩
      | none => none
    else if h : x = "enumerate" ∧ freeB nm S "enumerate" = true ∧ isStarE a = false then match tg, r.E S a with
      | .Tuple elts kk tpos, some ⟨m, hm⟩ => some ⟨wEnum m, fun Z X W c Ex g => by
          obtain ⟨h, h1, h2⟩ := h
          subst h
          exact snd_wenum g.hK (free_gl h1 g).1 (free_gl h1 g).2 (star_of h2) (hm Z X W c Ex g)⟩
      | _, _ => none
    else stSeq r S tg _
  | .Call (.Name x p) [a, b] [] pos => if h : x = "range" ∧ freeB nm S "range" = true ∧ isStarE a = false ∧ isStarE b = false then match r.E S a, r.E S b with
      | some ⟨m, hm⟩, some ⟨m', hm'⟩ => some ⟨wRng2 m m', fun Z X W c Ex g => by
          obtain ⟨h, h1, h2, h3⟩ := h
          subst h
          exact snd_wrng2 (free_gl h1 g).1 (free_gl h1 g).2 (star_of h2) (star_of h3) (hm Z X W c Ex g) (hm' Z X W c Ex g)⟩
      | _, _ => none
    else if h : x = "zip" ∧ freeB nm S "zip" = true ∧ isStarE a = false ∧ isStarE b = false then match tg, r.E S a, r.E S b with
      | .Tuple elts kk tpos, some ⟨m, hm⟩, some ⟨m', hm'⟩ => some ⟨wZip m m', fun Z X W c Ex g => by
          obtain ⟨h, h1, h2, h3⟩ := h
          subst h
          exact snd_wzip g.hK (free_gl h1 g).1 (free_gl h1 g).2 (star_of h2) (star_of h3) (hm Z X W c Ex g) (hm' Z X W c Ex g)⟩
      | _, _, _ => none
    else stSeq r S tg _
  | .Call (.Name x p) [a, b, d] [] pos => if h : x = "range" ∧ freeB nm S "range" = true ∧ isStarE a = false ∧ isStarE b = false ∧ isStarE d = false then match r.E S a, r.E S b, r.E S d with
      | some ⟨m, hm⟩, some ⟨m', hm'⟩, some ⟨m2, hm2⟩ => some ⟨wRng3 m m' m2, fun Z X W c Ex g => by
          obtain ⟨h, h1, h2, h3, h4⟩ := h
          subst h
          exact snd_wrng3 (free_gl h1 g).1 (free_gl h1 g).2 (star_of h2) (star_of h3) (star_of h4) (hm Z X W c Ex g) (hm' Z X W c Ex g) (hm2 Z X W c Ex g)⟩
      | _, _, _ => none
    else stSeq r S tg _
  | e => stSeq r S tg e
/-! ### targets -/
def stG : (e : Expr) → OG nm S e
  | .Name x pos => if h1 : locB S x = true then match h : ixOf x 0 S.N with
      | some i => some ⟨(gN i, [i]), fun Z X W c Ex g => snd_gn g.nd (g.ix h) (g.loc h1).1 (g.loc h1).2⟩
      | none => none
    else none
  | .Tuple es k pos => if h1 : S.hot = false ∧ es.any isStarE = false then match r.Gs S es with
      | some ⟨q, hq⟩ => some ⟨(EV.gTup q.1, q.2), fun Z X W c Ex g => snd_gtup g.hK (g.calm h1.1) h1.2 hq.2 (hq.1 Z X W c Ex g)⟩
      | none => none
    else none
  | .Subscript a b pos => if h1 : isSl b = false then match r.E S a, r.E S b with
      | some ⟨ma, ha⟩, some ⟨mb, hb⟩ => some ⟨(EV.gSub ma mb, []), fun Z X W c Ex g => snd_gsub g.hu (ha Z X W c Ex g).w0 (hb Z X W c Ex g).w0 h1⟩
      | _, _ => none
    else none
  | _ => none
def stGs : (es : List Expr) → OGs nm S es
  | [] => some ⟨([], []), fun Z X W c Ex g => snd_gnil, rfl⟩
  | e :: es => if h : isStarE e = false then match r.G S e, r.Gs S es with
      | some ⟨q, hq⟩, some ⟨q', hq'⟩ => some ⟨(q.1 :: q'.1, q.2 ++ q'.2), fun Z X W c Ex g => snd_gcons h (hq Z X W c Ex g) (hq'.1 Z X W c Ex g), by simp [hq'.2]⟩
      | _, _ => none
    else none
end EV
end
section
/-! Ev15: statements compiled; the compiler. -/
namespace EV
open PySem PySem.Spec PyProof.Rows L2
variable {nm : NM}
section
variable {S : SC} {Z : St0} {X : Cx} {W : WX} {c : Cl} {Ex : EXR}
theorem GdS.tr (g : GdS nm S Z X W c Ex) (hh : S.hot = false) (pn : List (Addr × Obj)) (xe : Value → Shared → Prop) {W' : WX} (tk : Takes (X.tr pn xe) W') (po : PassesOwn (model X.prog X.w) X.A X.env xe) : GdS nm (tryS S) Z (X.tr pn xe) W' c Ex where
  g := g.g.tr hh pn xe tk
  po := fun _ => po
  stk := fun _ => g.stk hh
  act := fun a h pn' xe' W'' p1 p2 pos tk' => g.act a h pn' xe' W'' p1 p2 pos tk'
theorem GdS.suite (g : GdS nm S Z X W c Ex) {ad : Addr} {oe : Obj} {C : Addr} {pn : List (Addr × Obj)} (hC : ∃ k, Z.C k = some C) (hz : Zc (.ref C) none oe) (hv : ∃ vs, oe.data = .fields vs) : GdS nm (hotS S) Z (Cx.suite X ad ((ad, oe) :: pn)) W0 c (ExOf Z ad C) where
  g := g.g.suite hC hz hv
  po := fun z => by cases z
  stk := fun z => by cases z
  act := fun a h => by cases h
end
variable (r : Rc nm) (S : SC)
/-! ### assignments -/
/-- is the name stored by the comprehension's own store? -/
def lcB (S : SC) (y : Str) (py lp : Pos) (scope : Scope) : Bool := S.sc.names.lookup y == some NameKind.local && py.line == lp.line && !scope.names.any fun (n, k) => n == y && (k == .local || k == .cell)
theorem lc_swaps {env : Env} (hk : env.scope.kind = .function) (e : Expr) (gs : List Comprehension) (s : Scope) (p : Pos) (x : Str) (q : Pos) (l : Nat) :
    swapsWith (.ListComp e gs s p) (some (.Name x q)) l env = pure (env.scope.names.lookup x == some NameKind.local && q.line == p.line && !s.names.any fun (n, k) => n == x && (k == .local || k == .cell)) := by
  unfold swapsWith
  simp only [Env.blockKind, hk, Env.kindOf]
  rfl
def stAsgN (y : Str) (py : Pos) (e : Expr) (pos : Pos) : OS nm S (.Assign [.Name y py] e pos) :=
  if h0 : locB S y = true then match h : ixOf y 0 S.N with
    | none => none
    | some i => match e with
      | .ListComp e [⟨tg, iter, ifs, k⟩] scope lp => if h1 : k = 0 ∧ S.sc.kind = .function then match stLcP r S tg iter ifs scope e with
          | none => none
          | some q => if hb : lcB S y py lp scope = true then
              (if S.mu.contains y then some ⟨sAsg (eLcM q.w ((ownOf S.N scope).map (·.2)) q.g q.t q.m) (gN i), fun Z X W c Ex g => by
                obtain ⟨h1, h2⟩ := h1
                subst h1
                refine snd_setLc g.g.hK (g.g.calm q.hot) g.g.nd (g.g.ix h) ?_ ?_ (blkOk_by (by rw [g.g.hN, g.g.sc]; exact q.ok)) (folded_of q.hs _) q.hi (q.hw Z X W c Ex g.g) (fun s H C cl fp => q.hg _ _ _ _ _ (g.g.blk q.hot scope s H C cl fp)) (fun s H C cl fp => q.ht _ _ _ _ _ (g.g.blk q.hot scope s H C cl fp)) (fun s H C cl fp => q.he _ _ _ _ _ (g.g.blk q.hot scope s H C cl fp)) (.inr rfl)
                · unfold lcB at hb
                  simp only [Bool.and_eq_true] at hb
                  rw [g.g.sc]
                  exact eq_of_beq hb.1.1
                · rw [lc_swaps (by rw [g.g.sc]; exact h2), g.g.sc]
                  exact congrArg pure hb⟩
              else some ⟨sAsg (eLc q.w ((ownOf S.N scope).map (·.2)) q.g q.t q.m) (gN i), fun Z X W c Ex g => by
                obtain ⟨h1, h2⟩ := h1
                subst h1
                refine snd_setLc g.g.hK (g.g.calm q.hot) g.g.nd (g.g.ix h) ?_ ?_ (blkOk_by (by rw [g.g.hN, g.g.sc]; exact q.ok)) (folded_of q.hs _) q.hi (q.hw Z X W c Ex g.g) (fun s H C cl fp => q.hg _ _ _ _ _ (g.g.blk q.hot scope s H C cl fp)) (fun s H C cl fp => q.ht _ _ _ _ _ (g.g.blk q.hot scope s H C cl fp)) (fun s H C cl fp => q.he _ _ _ _ _ (g.g.blk q.hot scope s H C cl fp)) (.inl rfl)
                · unfold lcB at hb
                  simp only [Bool.and_eq_true] at hb
                  rw [g.g.sc]
                  exact eq_of_beq hb.1.1
                · rw [lc_swaps (by rw [g.g.sc]; exact h2), g.g.sc]
                  exact congrArg pure hb⟩)
              else none
          else none
      | e => if h1 : isComp e = false then match (if S.mu.contains y then r.M S e else r.E S e) with
          | some ⟨m, hm⟩ => some ⟨sAsg m (gN i), fun Z X W c Ex g => snd_set g.g.nd (g.g.ix h) (g.g.loc h0).1 (g.g.loc h0).2 (swaps_no h1 _ _ _) (hm Z X W c Ex g.g)⟩
          | none => none
          else none
    else none
/-- mutable or not, by the target's name -/
def byMu (y : Str) (e : Expr) : OE nm S e := if S.mu.contains y then r.M S e else r.E S e
theorem not_star (e : Expr) : isStarE e = false → (match e with | .Starred _ _ => true | _ => false) = false := by
  intro h
  cases e <;> first | rfl | cases h
theorem sw_two {env : Env} {x y : Str} {px py pt : Pos} {kt k2 : Nat} {pt2 : Pos} {a b : Expr} (hk : env.scope.kind = .function) (hx : env.scope.names.lookup x = some .local) (hy : env.scope.names.lookup y = some .local) (hxy : x ≠ y) (hl : (py.line == px.line) = true) (ha : isStarE a = false) (hb : isStarE b = false) (hf : [a, b].all (foldedForSure 8) = false) (hc : [a, b].all (constantsAlone 8) = false) :
    swappedStores [.Tuple [.Name x px, .Name y py] kt pt] (.Tuple [a, b] k2 pt2) env = pure (some [x, y]) := by
  have hl' : py.line = px.line := eq_of_beq hl
  have hyx : (y == x) = false := beq_eq_false_iff_ne.mpr fun e => hxy e.symm
  have hk2 : (if env.scope.kind.isAnnotationScope = true then ScopeKind.function else env.scope.kind) = .function := by rw [hk] <;> rfl
  unfold swappedStores
  simp only [Env.blockKind, Env.kindOf, hk2]
  rw [if_neg (by simp), if_neg (by simp; exact ⟨not_star a ha, not_star b hb⟩)]
  have hN : List.filterMap (fun z => match z with | .Name id pos => if (List.lookup id env.scope.names == some .local && pos.line == px.line) = true then some id else none | _ => none) [Expr.Name x px, Expr.Name y py] = [x, y] := by
    simp [List.filterMap_cons, hx, hy, hl']
  have hD : [x, y].eraseDups = [x, y] := by simp [List.eraseDups_cons, hyx]
  have hP : (Option.map (fun z => (Expr.pos z).line) [Expr.Name x px, Expr.Name y py].head?).getD 0 = px.line := rfl
  simp only [hP]
  generalize hF : List.filterMap _ [Expr.Name x px, Expr.Name y py] = l
  have el : l = [x, y] := hF.symm.trans hN
  subst el
  simp only [hD, hf, hc]
  rfl
theorem sw_two0 {env : Env} {x y : Str} {px py pt : Pos} {kt k2 : Nat} {pt2 : Pos} {a b : Expr} (hk : env.scope.kind = .function) (hx : env.scope.names.lookup x = some .local) (hy : env.scope.names.lookup y = some .local) (hxy : x ≠ y) (hl : (py.line == px.line) = true) (ha : isStarE a = false) (hb : isStarE b = false) (hf : [a, b].all (foldedForSure 8) = true) :
    swappedStores [.Tuple [.Name x px, .Name y py] kt pt] (.Tuple [a, b] k2 pt2) env = pure none := by
  have hl' : py.line = px.line := eq_of_beq hl
  have hyx : (y == x) = false := beq_eq_false_iff_ne.mpr fun e => hxy e.symm
  have hk2 : (if env.scope.kind.isAnnotationScope = true then ScopeKind.function else env.scope.kind) = .function := by rw [hk] <;> rfl
  unfold swappedStores
  simp only [Env.blockKind, Env.kindOf, hk2]
  rw [if_neg (by simp), if_neg (by simp; exact ⟨not_star a ha, not_star b hb⟩)]
  have hN : List.filterMap (fun z => match z with | .Name id pos => if (List.lookup id env.scope.names == some .local && pos.line == px.line) = true then some id else none | _ => none) [Expr.Name x px, Expr.Name y py] = [x, y] := by
    simp [List.filterMap_cons, hx, hy, hl']
  have hD : [x, y].eraseDups = [x, y] := by simp [List.eraseDups_cons, hyx]
  have hP : (Option.map (fun z => (Expr.pos z).line) [Expr.Name x px, Expr.Name y py].head?).getD 0 = px.line := rfl
  simp only [hP]
  generalize hF : List.filterMap _ [Expr.Name x px, Expr.Name y py] = l
  have el : l = [x, y] := hF.symm.trans hN
  subst el
  simp only [hD, hf]
  rfl
theorem sw_three {env : Env} {x y z : Str} {px py pz pt : Pos} {kt k2 : Nat} {pt2 : Pos} {a b d : Expr} (hk : env.scope.kind = .function) (hx : env.scope.names.lookup x = some .local) (hy : env.scope.names.lookup y = some .local) (hz : env.scope.names.lookup z = some .local) (hxy : x ≠ y) (hxz : x ≠ z) (hyz : y ≠ z) (hl : (py.line == px.line) = true) (hl3 : (pz.line == px.line) = true) (ha : isStarE a = false) (hb : isStarE b = false) (hd : isStarE d = false) (hf : [a, b, d].all (foldedForSure 8) = false) (hc : [a, b, d].all (constantsAlone 8) = false) :
    swappedStores [.Tuple [.Name x px, .Name y py, .Name z pz] kt pt] (.Tuple [a, b, d] k2 pt2) env = pure (some [x, y, z]) := by
  have hl' : py.line = px.line := eq_of_beq hl
  have hl3' : pz.line = px.line := eq_of_beq hl3
  have hzx : (z == x) = false := beq_eq_false_iff_ne.mpr fun e => hxz e.symm
  have hzy : (z == y) = false := beq_eq_false_iff_ne.mpr fun e => hyz e.symm
  have hyx : (y == x) = false := beq_eq_false_iff_ne.mpr fun e => hxy e.symm
  have hk2 : (if env.scope.kind.isAnnotationScope = true then ScopeKind.function else env.scope.kind) = .function := by rw [hk] <;> rfl
  unfold swappedStores
  simp only [Env.blockKind, Env.kindOf, hk2]
  rw [if_neg (by simp), if_neg (by simp; exact ⟨not_star a ha, not_star b hb, not_star d hd⟩)]
  have hN : List.filterMap (fun z => match z with | .Name id pos => if (List.lookup id env.scope.names == some .local && pos.line == px.line) = true then some id else none | _ => none) [Expr.Name x px, Expr.Name y py, Expr.Name z pz] = [x, y, z] := by
    simp [List.filterMap_cons, hx, hy, hz, hl', hl3']
  have hD : [x, y, z].eraseDups = [x, y, z] := by simp [List.eraseDups_cons, hyx, hzx, hzy]
  have hP : (Option.map (fun z => (Expr.pos z).line) [Expr.Name x px, Expr.Name y py, Expr.Name z pz].head?).getD 0 = px.line := rfl
  simp only [hP]
  generalize hF : List.filterMap _ [Expr.Name x px, Expr.Name y py, Expr.Name z pz] = l
  have el : l = [x, y, z] := hF.symm.trans hN
  subst el
  simp only [hD, hf, hc]
  rfl
theorem sw_three0 {env : Env} {x y z : Str} {px py pz pt : Pos} {kt k2 : Nat} {pt2 : Pos} {a b d : Expr} (hk : env.scope.kind = .function) (hx : env.scope.names.lookup x = some .local) (hy : env.scope.names.lookup y = some .local) (hz : env.scope.names.lookup z = some .local) (hxy : x ≠ y) (hxz : x ≠ z) (hyz : y ≠ z) (hl : (py.line == px.line) = true) (hl3 : (pz.line == px.line) = true) (ha : isStarE a = false) (hb : isStarE b = false) (hd : isStarE d = false) (hf : [a, b, d].all (foldedForSure 8) = true) :
    swappedStores [.Tuple [.Name x px, .Name y py, .Name z pz] kt pt] (.Tuple [a, b, d] k2 pt2) env = pure none := by
  have hl' : py.line = px.line := eq_of_beq hl
  have hl3' : pz.line = px.line := eq_of_beq hl3
  have hzx : (z == x) = false := beq_eq_false_iff_ne.mpr fun e => hxz e.symm
  have hzy : (z == y) = false := beq_eq_false_iff_ne.mpr fun e => hyz e.symm
  have hyx : (y == x) = false := beq_eq_false_iff_ne.mpr fun e => hxy e.symm
  have hk2 : (if env.scope.kind.isAnnotationScope = true then ScopeKind.function else env.scope.kind) = .function := by rw [hk] <;> rfl
  unfold swappedStores
  simp only [Env.blockKind, Env.kindOf, hk2]
  rw [if_neg (by simp), if_neg (by simp; exact ⟨not_star a ha, not_star b hb, not_star d hd⟩)]
  have hN : List.filterMap (fun z => match z with | .Name id pos => if (List.lookup id env.scope.names == some .local && pos.line == px.line) = true then some id else none | _ => none) [Expr.Name x px, Expr.Name y py, Expr.Name z pz] = [x, y, z] := by
    simp [List.filterMap_cons, hx, hy, hz, hl', hl3']
  have hD : [x, y, z].eraseDups = [x, y, z] := by simp [List.eraseDups_cons, hyx, hzx, hzy]
  have hP : (Option.map (fun z => (Expr.pos z).line) [Expr.Name x px, Expr.Name y py, Expr.Name z pz].head?).getD 0 = px.line := rfl
  simp only [hP]
  generalize hF : List.filterMap _ [Expr.Name x px, Expr.Name y py, Expr.Name z pz] = l
  have el : l = [x, y, z] := hF.symm.trans hN
  subst el
  simp only [hD, hf]
  rfl
theorem sw_none {tg e : Expr} {env : Env} (h : (match e with | .Tuple .. => true | _ => false) = false) : swappedStores [tg] e env = pure none := by
  cases e <;> first | (cases tg <;> rfl) | cases h
/-! ### pairs -/
def isTupE : Expr → Bool
  | .Tuple .. => true
  | _ => false
theorem sw_none' {tg e : Expr} {env : Env} (h : isTupE e = false) : swappedStores [tg] e env = pure none := by
  cases e <;> first | (cases tg <;> rfl) | cases h
theorem swapsSole_no {tg e : Expr} (h : isComp e = false) (l : Nat) (env : Env) : swapsWithSole [tg] e l env = pure false := swaps_no h _ _ _
theorem swapsSole_two {tg e : Expr} (h : isComp e = false ∨ isTupE tg = true) (l : Nat) (env : Env) : swapsWithSole [tg] e l env = pure false := by
  rcases h with h | h
  · exact swapsSole_no h l env
  · cases tg with
    | Tuple ts k p =>
      have : swapsWith e (some (.Tuple ts k p)) l env = pure false := by cases e <;> rfl
      exact this
    | _ => cases h
def isNameE : Expr → Bool
  | .Name .. => true
  | _ => false
theorem fm_lt {α β : Type} {f : α → Option β} : ∀ {l : List α}, (l.filterMap f).length ≤ l.length ∧ ((∃ x ∈ l, f x = none) → (l.filterMap f).length < l.length)
  | [] => ⟨Nat.le_refl _, fun ⟨x, h, _⟩ => by cases h⟩
  | x :: l => by
    obtain ⟨h1, h2⟩ := fm_lt (f := f) (l := l)
    rw [List.filterMap_cons]
    cases hx : f x with
    | none => exact ⟨Nat.le_succ_of_le h1, fun _ => Nat.lt_succ_of_le h1⟩
    | some y =>
      refine ⟨Nat.succ_le_succ h1, fun ⟨z, hz, e⟩ => ?_⟩
      rcases List.mem_cons.mp hz with rfl | hz
      · rw [hx] at e
        cases e
      · exact Nat.succ_lt_succ (h2 ⟨z, hz, e⟩)
/-- a target is no name: nothing is swapped -/
def isLocE (sc : Scope) : Expr → Bool
  | .Name id _ => sc.names.lookup id == some .local
  | _ => false
theorem sw_noneN {ts vs : List Expr} {k k2 : Nat} {p p2 : Pos} {env : Env} (hk : env.scope.kind = .function) (h : ts.any (fun t => !isLocE env.scope t) = true) : swappedStores [.Tuple ts k p] (.Tuple vs k2 p2) env = pure none := by
  obtain ⟨t, ht, hn⟩ := List.any_eq_true.mp h
  have hk2 : (if env.scope.kind.isAnnotationScope = true then ScopeKind.function else env.scope.kind) = .function := by rw [hk] <;> rfl
  unfold swappedStores
  simp only [Env.blockKind, Env.kindOf, hk2]
  split
  · rfl
  · split
    · rfl
    · refine if_pos ?_
      rw [Bool.or_eq_true]
      refine .inl (bne_iff_ne.mpr (Nat.ne_of_lt ((fm_lt (l := ts)).2 ⟨t, ht, ?_⟩)))
      cases t with
      | Name id pos =>
        have hn : (env.scope.names.lookup id == some .local) = false := by simpa [isLocE] using hn
        simp [hn]
      | _ => rfl
def stAsgN2 (ts : List Expr) (kt : Nat) (pt : Pos) (vs : List Expr) (k2 : Nat) (pt2 pos : Pos) : OS nm S (.Assign [.Tuple ts kt pt] (.Tuple vs k2 pt2) pos) :=
  if h : S.sc.kind = .function ∧ ts.any (fun t => !isLocE S.sc t) = true then match r.E S (.Tuple vs k2 pt2), r.G S (.Tuple ts kt pt) with
    | some ⟨m, hm⟩, some ⟨q, hq⟩ => some ⟨sAsg m q.1, fun Z X W c Ex g => snd_asg rfl (sw_noneN (by rw [g.g.sc]; exact h.1) (by rw [g.g.sc]; exact h.2)) rfl (hm Z X W c Ex g.g) (hq Z X W c Ex g.g)⟩
    | _, _ => none
  else none
/-- the general road -/
def stAsgG (tg e : Expr) (pos : Pos) : OS nm S (.Assign [tg] e pos) :=
  if h : isTupE e = false ∧ (isComp e = false ∨ isTupE tg = true) ∧ isStarE tg = false then match r.E S e, r.G S tg with
    | some ⟨m, hm⟩, some ⟨q, hq⟩ => some ⟨sAsg m q.1, fun Z X W c Ex g => snd_asg (swapsSole_two h.2.1 _ _) (sw_none' h.1) h.2.2 (hm Z X W c Ex g.g) (hq Z X W c Ex g.g)⟩
    | _, _ => none
  else none
structure Two (S : SC) (x y : Str) (px py : Pos) (a b : Expr) : Prop where
  fk : S.sc.kind = .function
  fx : S.sc.names.lookup x = some .local
  fy : S.sc.names.lookup y = some .local
  xy : x ≠ y
  fl : (py.line == px.line) = true
  fa : isStarE a = false
  fb : isStarE b = false
  hot : S.hot = false
instance {S : SC} {x y : Str} {px py : Pos} {a b : Expr} : Decidable (Two S x y px py a b) :=
  decidable_of_iff (S.sc.kind = .function ∧ S.sc.names.lookup x = some .local ∧ S.sc.names.lookup y = some .local ∧ x ≠ y ∧ (py.line == px.line) = true ∧ isStarE a = false ∧ isStarE b = false ∧ S.hot = false)
    ⟨fun ⟨a, b, c, d, e, f, g, h⟩ => ⟨a, b, c, d, e, f, g, h⟩, fun ⟨a, b, c, d, e, f, g, h⟩ => ⟨a, b, c, d, e, f, g, h⟩⟩
def stAsg2 (x y : Str) (px py pt : Pos) (kt : Nat) (a b : Expr) (k2 : Nat) (pt2 pos : Pos) : OS nm S (.Assign [.Tuple [.Name x px, .Name y py] kt pt] (.Tuple [a, b] k2 pt2) pos) :=
  if h : Two S x y px py a b then
    if hf : [a, b].all (foldedForSure 8) = true then match r.E S (.Tuple [a, b] k2 pt2), r.G S (.Tuple [.Name x px, .Name y py] kt pt) with
      | some ⟨m, hm⟩, some ⟨q, hq⟩ => some ⟨sAsg m q.1, fun Z X W c Ex g => snd_asg rfl (sw_two0 (by rw [g.g.sc]; exact h.fk) (by rw [g.g.sc]; exact h.fx) (by rw [g.g.sc]; exact h.fy) h.xy h.fl h.fa h.fb hf) rfl (hm Z X W c Ex g.g) (hq Z X W c Ex g.g)⟩
      | _, _ => none
    else if hc : [a, b].all (constantsAlone 8) = false then match hi : ixOf x 0 S.N, hj : ixOf y 0 S.N, byMu r S x a, byMu r S y b with
      | some i, some j, some ⟨ma, ha⟩, some ⟨mb, hb⟩ => if hij : i ≠ j then some ⟨sPar (aCons ma (aCons mb aNil)) [gN i, gN j], fun Z X W c Ex g =>
          snd_par (g.g.calm h.hot) g.g.nd (g.g.ix hi) (g.g.ix hj) hij (by rw [g.g.sc]; exact h.fx) (by rw [g.g.sc]; exact h.fy) (sw_two (by rw [g.g.sc]; exact h.fk) (by rw [g.g.sc]; exact h.fx) (by rw [g.g.sc]; exact h.fy) h.xy h.fl h.fa h.fb (by simpa using hf) hc)
            (snd_acons (ha Z X W c Ex g.g) (snd_acons (hb Z X W c Ex g.g) snd_anil (star_of h.fb)) (star_of h.fa))⟩ else none
      | _, _, _, _ => none
    else none
  else none
structure Three (S : SC) (x y z : Str) (px py pz : Pos) (a b d : Expr) : Prop where
  t : Two S x y px py a b
  fz : S.sc.names.lookup z = some .local
  xz : x ≠ z
  yz : y ≠ z
  l3 : (pz.line == px.line) = true
  fd : isStarE d = false
instance {S : SC} {x y z : Str} {px py pz : Pos} {a b d : Expr} : Decidable (Three S x y z px py pz a b d) :=
  decidable_of_iff (Two S x y px py a b ∧ S.sc.names.lookup z = some .local ∧ x ≠ z ∧ y ≠ z ∧ (pz.line == px.line) = true ∧ isStarE d = false)
    ⟨fun ⟨a, b, c, d, e, f⟩ => ⟨a, b, c, d, e, f⟩, fun ⟨a, b, c, d, e, f⟩ => ⟨a, b, c, d, e, f⟩⟩
def stAsg3 (x y z : Str) (px py pz pt : Pos) (kt : Nat) (a b d : Expr) (k2 : Nat) (pt2 pos : Pos) : OS nm S (.Assign [.Tuple [.Name x px, .Name y py, .Name z pz] kt pt] (.Tuple [a, b, d] k2 pt2) pos) :=
  if h : Three S x y z px py pz a b d then
    if hf : [a, b, d].all (foldedForSure 8) = true then match r.E S (.Tuple [a, b, d] k2 pt2), r.G S (.Tuple [.Name x px, .Name y py, .Name z pz] kt pt) with
      | some ⟨m, hm⟩, some ⟨q, hq⟩ => some ⟨sAsg m q.1, fun Z X W c Ex g => snd_asg rfl (sw_three0 (by rw [g.g.sc]; exact h.t.fk) (by rw [g.g.sc]; exact h.t.fx) (by rw [g.g.sc]; exact h.t.fy) (by rw [g.g.sc]; exact h.fz) h.t.xy h.xz h.yz h.t.fl h.l3 h.t.fa h.t.fb h.fd hf) rfl (hm Z X W c Ex g.g) (hq Z X W c Ex g.g)⟩
      | _, _ => none
    else if hc : [a, b, d].all (constantsAlone 8) = false then match hi : ixOf x 0 S.N, hj : ixOf y 0 S.N, hl : ixOf z 0 S.N, byMu r S x a, byMu r S y b, byMu r S z d with
      | some i, some j, some l, some ⟨ma, ha⟩, some ⟨mb, hb⟩, some ⟨md, hd⟩ => if hij : i ≠ j ∧ i ≠ l ∧ j ≠ l then some ⟨sPar (aCons ma (aCons mb (aCons md aNil))) [gN i, gN j, gN l], fun Z X W c Ex g =>
          snd_par3 (g.g.calm h.t.hot) g.g.nd (g.g.ix hi) (g.g.ix hj) (g.g.ix hl) hij.1 hij.2.1 hij.2.2 (by rw [g.g.sc]; exact h.t.fx) (by rw [g.g.sc]; exact h.t.fy) (by rw [g.g.sc]; exact h.fz) (sw_three (by rw [g.g.sc]; exact h.t.fk) (by rw [g.g.sc]; exact h.t.fx) (by rw [g.g.sc]; exact h.t.fy) (by rw [g.g.sc]; exact h.fz) h.t.xy h.xz h.yz h.t.fl h.l3 h.t.fa h.t.fb h.fd (by simpa using hf) hc)
            (snd_acons (ha Z X W c Ex g.g) (snd_acons (hb Z X W c Ex g.g) (snd_acons (hd Z X W c Ex g.g) snd_anil (star_of h.fd)) (star_of h.t.fb)) (star_of h.t.fa))⟩ else none
      | _, _, _, _, _, _ => none
    else none
  else none
def stAsg (tg e : Expr) (pos : Pos) : OS nm S (.Assign [tg] e pos) := match tg, e with
  | .Name y py, e => stAsgN r S y py e pos
  | .Tuple [.Name x px, .Name y py] kt pt, .Tuple [a, b] k2 pt2 => match stAsg2 r S x y px py pt kt a b k2 pt2 pos with
    | some q => some q
    | none => stAsgN2 r S [.Name x px, .Name y py] kt pt [a, b] k2 pt2 pos
  | .Tuple [.Name x px, .Name y py, .Name z pz] kt pt, .Tuple [a, b, d] k2 pt2 => match stAsg3 r S x y z px py pz pt kt a b d k2 pt2 pos with
    | some q => some q
    | none => stAsgN2 r S [.Name x px, .Name y py, .Name z pz] kt pt [a, b, d] k2 pt2 pos
  | .Tuple ts kt pt, .Tuple vs k2 pt2 => stAsgN2 r S ts kt pt vs k2 pt2 pos
  | tg, e => stAsgG r S tg e pos
/-! ### the rest -/
def stAug (x : Str) (p : Pos) (o : Operator) (e : Expr) (pos : Pos) : OS nm S (.AugAssign (.Name x p) o e pos) :=
  if h1 : locB S x = true then match h : ixOf x 0 S.N, hf : iopF o, r.E S e with
    | some i, some f, some ⟨m, hm⟩ => some ⟨sAug i m f, fun Z X W c Ex g => snd_aug g.g.nd (g.g.ix h) (g.g.loc h1).1 (g.g.loc h1).2 (iopF_ok hf) (hm Z X W c Ex g.g)⟩
    | _, _, _ => none
  else none
def stExpr (e : Expr) (pos : Pos) : OS nm S (.Expr e pos) := match r.E S e with
  | some ⟨m, hm⟩ => if h : isComp e = false then some ⟨sExpr m, fun Z X W c Ex g => snd_expr h (hm Z X W c Ex g.g)⟩ else none
  | none => none
def stRaise (x : Str) (p cpos pos : Pos) : OS nm S (.Raise (some (.Call (.Name x p) [] [] cpos)) none pos) := match h : nm.cls.lookup x with
  | some k => if h1 : S.hot = false ∧ glB S x = true ∧ okNm x = true then some ⟨sRaise k, fun Z X W c Ex g => by
      obtain ⟨C, e1, e2, e3⟩ := g.g.cls x k h
      exact snd_raise (g.g.calm h1.1) g.g.tk e2 e3 e1 (g.g.gl h1.2.1) (okNm_d h1.2.2).1⟩ else none
  | none => none
def stTry (body : List Stmt) (x : Str) (np : Pos) (n : Str) (b₀ : Stmt) (suite : List Stmt) (pos' pos : Pos) : OS nm S (.Try body [.ExceptHandler (some (.Name x np)) (some n) (b₀ :: suite) pos'] [] [] pos) :=
  match h : nm.isa.lookup x, hi : ixOf n 0 S.N, r.Ss (tryS S) body, r.Ss (hotS S) (b₀ :: suite) with
  | some cs, some i, some ⟨mb, hb⟩, some ⟨mh, hh⟩ => if h1 : S.hot = false ∧ glB S x = true ∧ okNm x = true ∧ S.sc.names.lookup n = some .local then some ⟨sTry mb cs i mh, fun Z X W c Ex g => by
      obtain ⟨s1, s2⟩ := g.stk h1.1
      obtain ⟨cvV, cv, e1, e2, e3, e4, e5⟩ := (g.g.isa x cs h).ex
      exact snd_try s1 s2 g.g.nd (g.g.ix hi) (by unfold Env.kindOf; rw [g.g.sc]; exact h1.2.2.2) ⟨g.g.gl h1.2.1, (okNm_d h1.2.2.1).1, e3⟩ g.g.tk e5 (fun W' pn xe tk' po => hb _ _ _ _ _ (g.tr h1.1 pn xe tk' po)) (fun ad oe C pn hC hz hv => hh _ _ _ _ _ (g.suite hC hz hv))⟩ else none
  | _, _, _, _ => none
def stSt : (st : Stmt) → OS nm S st
  | .Pass pos => some ⟨sSkip, fun Z X W c Ex g => snd_pass⟩
  | .Break pos => some ⟨sBrk, fun Z X W c Ex g => snd_brk⟩
  | .Continue pos => some ⟨sCnt, fun Z X W c Ex g => snd_cnt'⟩
  | .Expr (.Constant (.str x) j p) pos => some ⟨sSkip, fun Z X W c Ex g => snd_doc⟩
  | .Expr (.Call (.Name a p1) [] [] p2) pos => if h : S.act = some a ∧ S.hot = false then some ⟨sAct, fun Z X W c Ex g => g.act a h.1 X.pn X.xe W p1 p2 pos g.g.tk⟩ else stExpr r S (.Call (.Name a p1) [] [] p2) pos
  | .Expr e pos => stExpr r S e pos
  | .Return (some e) pos => match (if S.ret then r.M S e else r.E S e) with
    | some ⟨m, hm⟩ => some ⟨sRet m, fun Z X W c Ex g => snd_ret (hm Z X W c Ex g.g)⟩
    | none => none
  | .Return none pos => some ⟨sRetN, fun Z X W c Ex g => snd_retN⟩
  | .If t a b pos => match r.T S t, r.Ss S a, r.Ss S b with
    | some ⟨mt, ht⟩, some ⟨ma, ha⟩, some ⟨mb, hb⟩ => some ⟨sIf mt ma mb, fun Z X W c Ex g => snd_sif (ht Z X W c Ex g.g) (ha Z X W c Ex g) (hb Z X W c Ex g)⟩
    | _, _, _ => none
  | .Assign [tg] e pos => stAsg r S tg e pos
  | .AugAssign (.Name x p) o e pos => stAug r S x p o e pos
  | .Raise (some (.Call (.Name x p) [] [] cpos)) none pos => stRaise S x p cpos pos
  | .For tg iter body [] pos => if h : S.hot = false ∧ isSetE iter = false then match r.I S tg iter, r.G S tg, r.Ss S body with
      | some ⟨w, hw⟩, some ⟨q, hq⟩, some ⟨m, hm⟩ => some ⟨sFor w q.1 m, fun Z X W c Ex g => snd_for (g.po h.1) (g.g.calm h.1) (folded_of h.2 _) (hw Z X W c Ex g.g) (hq Z X W c Ex g.g) (hm Z X W c Ex g)⟩
      | _, _, _ => none
    else none
  | .While t body [] pos => if h : S.hot = false then match r.T S t, r.Ss S body with
      | some ⟨mt, ht⟩, some ⟨m, hm⟩ => some ⟨sWhile mt m, fun Z X W c Ex g => snd_while (g.po h) (ht Z X W c Ex g.g) (hm Z X W c Ex g)⟩
      | _, _ => none
    else none
  | .Try body [.ExceptHandler (some (.Name x np)) (some n) (b₀ :: suite) pos'] [] [] pos => stTry r S body x np n b₀ suite pos' pos
  | _ => none
def stSs : (st : List Stmt) → OSs nm S st
  | [] => some ⟨sSkip, fun Z X W c Ex g => snd_snil⟩
  | s :: ss => match r.St S s, r.Ss S ss with
    | some ⟨m, hm⟩, some ⟨ms, hms⟩ => some ⟨sSeq m ms, fun Z X W c Ex g => snd_scons (hm Z X W c Ex g) (hms Z X W c Ex g)⟩
    | _, _ => none
def rec0 : Rc nm := ⟨fun _ _ => none, fun _ _ => none, fun _ _ => none, fun _ _ => none, fun _ _ => none, fun _ _ _ => none, fun _ _ => none, fun _ _ => none, fun _ _ => none, fun _ _ => none⟩
def stRc : Rc nm := ⟨stE r, stM r, stA r, stT r, stW r, stI r, stG r, stGs r, stSt r, stSs r⟩
/-- the compiler -/
def comp (nm : NM) : Nat → Rc nm
  | 0 => rec0
  | n + 1 => stRc (comp nm n)
end EV
end
section
/-! Ev16: all defs of the text keep their promises. -/
namespace EV
open PySem PySem.Spec PyProof.Rows L2
/-- what the module's names stand for -/
structure Glob (nm : NM) (Z : St0) (mg : Str → Option Value) : Prop where
  free : ∀ x, nm.free.contains x = true → mg x = none
  fns : ∀ x f, nm.fn.lookup x = some f → ∃ fa, mg x = some (.ref fa) ∧ Z.G f = some fa
  cst : ∀ x p, nm.cst.lookup x = some p → ∃ u v, mg x = some u ∧ RelV v u ∧ ∀ F H, Br Z F H p v
  cls : ∀ x k, nm.cls.lookup x = some k → ∃ C, mg x = some (.ref C) ∧ Z.C k = some C ∧ ErC Z.K C
  isa : ∀ x cs, nm.isa.lookup x = some cs → ∃ (cvV : V) (cv : Value), RelV cvV cv ∧ (∀ u, RelV cvV u → u = cv) ∧ (mg x = some cv ∨ (mg x = none ∧ bootBuiltins x = some cv ∧ x ≠ "__name__")) ∧
    (∀ k C, Z.C k = some C → PySem.W.kitOne Z.K (.ref C) cv = some (cs.contains k)) ∧ (∀ k C, Z.C k = some C → PySem.W.exmOne Z.K (.ref C) cv = some (cs.contains k))
  exc : ∀ k C, Z.C k = some C → ExcC Z.K C
/-- the table of a def's code objects, the name in it -/
def tabAd (K : PySem.W.Frag) (x : Str) : Addr := He.tabOf K (He.codeOf K (x, none))
def lamQ (x : Str) : Str := x ++ ".<locals>." ++ "<lambda>"
/-- the defs that make lambdas -/
structure TabsIn (Z : St0) (lams : List Str) : Prop where
  mem : ∀ x ∈ lams, (tabAd Z.K x, lamQ x) ∈ Z.T
  uq : ∀ x ∈ lams, ∀ p ∈ Z.T, p.1 = tabAd Z.K x → p.2 = lamQ x
/-- one def -/
structure DefAt (nm : NM) (Z : St0) (T : Nat → Option Fn) (lams : List Str) (f : Nat) (fa : Addr) (fd : FuncData) (ps : List Str) : Prop where
  ex : ∃ (x : Str) (params : Arguments) (body : List Stmt) (scope : Scope) (N mu : List Str) (ret lamB : Bool) (fn : Fn), fa = He.ga Z.K x ∧ FunD Z.K x x params body scope [] [] fa fd ∧ FnScope N ps scope ∧ Binds Z.K fd ps [] ∧ T f = some fn ∧ fn.np = ps.length ∧ fn.nl = N.length ∧ (lamB = true → x ∈ lams) ∧
    ∀ (Z : St0) (X : Cx) (W : WX) (c : Cl) (Ex : EXR), GdS nm ⟨scope, N, fun _ => true, false, mu, none, lamB, ret⟩ Z X W c Ex → SndSs Z X W c Ex body fn.body
def DefOk (nm : NM) (Z : St0) (T : Nat → Option Fn) (lams : List Str) (f : Nat) (fa : Addr) : Prop := ∃ fd ps, DefAt nm Z T lams f fa fd ps
/-- a def that is handed a lambda -/
structure LamD (nm : NM) (Z : St0) (mg : Str → Option Value) (T : Nat → Option Fn) (x : Str) (f : Nat) : Prop where
  ex : ∃ (g : Addr) (params : Arguments) (body : List Stmt) (scope : Scope) (fd : FuncData) (a : Str) (N mu : List Str) (ret : Bool) (fn : Fn), mg x = some (.ref g) ∧ FunD Z.K x x params body scope [] [] g fd ∧ FnScope N [a] scope ∧ Binds Z.K fd [a] [] ∧ T f = some fn ∧ fn.nl = N.length ∧ okNm x = true ∧ okNm a = true ∧ N[0]? = some a ∧ Vis scope a ∧
    ∀ (Z : St0) (X : Cx) (W : WX) (c : Cl) (Ex : EXR), GdS nm ⟨scope, N, fun _ => true, false, mu, some a, false, ret⟩ Z X W c Ex → SndSs Z X W c Ex body fn.body
theorem rsg_start {Z : St0} {wd : Wd} {H : Hp} {Ex : EXR} {ds : List D} {vs : List V} {N : List Str} {n : Nat} (b : BrDL Z wd H ds vs) (hn : n = N.length) : RSg Z wd H Ex (EV.start n ds) (L2.start N vs) := by
  subst hn
  have hl := b.length
  have key : ∀ {ds : List D} {vs : List V}, BrDL Z wd H ds vs → ∀ (i : Nat) (d : D), (ds.map some)[i]? = some (some d) → ∃ v, (vs.map some)[i]? = some (some v) ∧ BrE Z wd H Ex d v := fun {ds vs} b => by
    induction b with
    | nil => intro i d h; simp at h
    | cons b1 b2 ih =>
      intro i d h
      cases i with
      | zero =>
        simp at h
        subst h
        exact ⟨_, rfl, BrE.of b1⟩
      | succ i => simpa using ih i d (by simpa using h)
  refine ⟨by simp [EV.start, L2.start, hl], fun i d h => ?_⟩
  unfold EV.start at h
  unfold L2.start
  by_cases hi : i < ds.length
  · rw [List.getElem?_append_left (by simpa using hi)] at h
    rw [List.getElem?_append_left (by simpa [← hl] using hi)]
    exact key b i d h
  · rw [List.getElem?_append_right (by simpa using hi)] at h
    rw [List.getElem?_replicate] at h
    split at h <;> cases h
/-- the def f at the level n -/
structure At (Z : St0) (P : Program) (w : World) (mg : Str → Option Value) (base : Heap) (C : Call) (n f : Nat) (fa : Addr) : Prop where
  ex : ∃ (fd : FuncData) (ps : List Str), FnG P w Z.K mg base (L2.CX P w) n fa fd ps (spC Z C f ps.length) ∧ PySem.W.keepIn Z.K (.ref fa) = true ∧ Binds Z.K fd ps [] ∧ okN C f ps.length
theorem At.mono {Z : St0} {P : Program} {w : World} {mg : Str → Option Value} {base : Heap} {C : Call} {n m f : Nat} {fa : Addr} (a : At Z P w mg base C n f fa) (h : n ≤ m) : At Z P w mg base C m f fa := by
  obtain ⟨fd, ps, F, k, b, o⟩ := a.ex
  exact ⟨fd, ps, F.mono h, k, b, o⟩
theorem At.callee {Z : St0} {X : Cx} {C : Call} {n f : Nat} {fa : Addr} (hK : X.K = Z.K) (a : At Z X.prog X.w X.mg X.base C n f fa) (hr : RoomG n X.A) (hG : Z.G f = some fa) : Callee Z X C f fa := by
  obtain ⟨fd, ps, F, k, b, o⟩ := a.ex
  rw [← hK] at F k b
  exact ⟨fd, ps, n, F, hr, k, b, hG, o⟩
section
variable {nm : NM} {Z : St0} {T : Nat → Option Fn} {P : Program} {w : World} {mg : Str → Option Value} {base : Heap} {lams : List Str}
theorem at_zero (hd : ∀ f fa, Z.G f = some fa → DefOk nm Z T lams f fa) : ∀ f fa, Z.G f = some fa → At Z P w mg base noC 0 f fa := fun f fa h => by
  obtain ⟨fd, ps, h⟩ := hd f fa h
  obtain ⟨x, params, body, scope, N, mu, ret, lamB, fn, _, F, S, B, e1, e2, e3, _⟩ := h.ex
  have no : ∀ {vs : List V} {H : Hp} {Q : VK} {E : XK}, spC Z noC f ps.length vs H Q E → False := fun {vs H Q E} z => by
    obtain ⟨_, ds, st, wd, _, _, p⟩ := z
    exact p
  exact ⟨fd, ps, ⟨fun vs H Q E z => (no z).elim, fun A outer s H args us vs Q E _ _ _ _ z => (no z).elim⟩, F.kp, B, fun ds st _ => rfl⟩
/-- f(lambda: body) -/
theorem snd_lam {X : Cx} {W : WX} {c : Cl} {Ex : EXR} {S : SC} {x : Str} {f k : Nat} {cc P0 : Addr} (hK : X.K = Z.K) (hmg : X.mg = mg) (hN : X.N = S.N) (hsc : X.env.scope = S.sc) (G : Glob nm Z mg) (hd : ∀ f fa, Z.G f = some fa → DefOk nm Z T lams f fa) (ld : LamD nm Z mg T x f) (hlam : c.lam = lamT T)
    (TB : LamX.TabB X.base X.mg cc P0) (hcode : X.env.code = .ref cc) (hm : (P0, X.env.qual ++ "<lambda>") ∈ Z.T) (hu : ∀ p ∈ Z.T, p.1 = P0 → p.2 = X.env.qual ++ "<lambda>") (hr : RoomG (k + 2) X.A) (hlo : ∀ f fa, Z.G f = some fa → At Z X.prog X.w X.mg X.base c.lo k f fa) : LamOk Z X S W c Ex x f := by
  intro params df body scope lpos p pos b lp ln hgl hbody
  obtain ⟨g, gpar, gbody, gsc, fd, a, Ng, mu, ret, fn, hg, F, FS, B, e1, e2, o1, o2, hN0, hva, snd⟩ := ld.ex
  obtain ⟨oc, od, dV, kV, dc, pm, an, cdv, ct, osl, efd, lk, hcd, _, _⟩ := F.ex
  subst efd
  have ln' : LamN X.N df X.env.scope scope := by rw [hN, hsc]; exact ln
  have hGl : Gl X x := by unfold Gl Env.kindOf; rw [hsc]; exact hgl
  intro σd st wd σ H Q rs rg h pins s I
  refine wpAny_Call_Name_kw (ld_glob I hGl (by rw [hmg]; exact hg) ?_ (okNm_d o1).1)
  rw [← hK] at lk hcd B
  have hkp : PySem.W.keepIn X.K (.ref g) = true := by rw [hK]; exact F.kp
  refine PySem.W.callWith_K (h₀ := X.base) I.ok.mod.kin hkp ?_ (by rfl) (by rfl)
  show wpAny _ _ (spliced ((false, eval (.Lambda params body scope lpos) X.env) :: backTo pos (starEach [] X.env))) _ _ s
  have hfree : ∀ y ∈ scope.names, y.2 = .free → ∃ c, X.env.cells.lookup y.1 = some c := fun y hy e => (ln'.fr y hy e).elim (fun k => I.ok.has _ (.inl k)) fun k => I.ok.has _ (.inr k)
  refine Calls.spliced_cons (lam_mk I lp TB hcode hm hu rs.tabs hfree fun fa c' pm' doc ctv dV' H1 s' I1 xN T1 hf hfn hfr hco hv => ?_)
  refine Calls.spliced_nil ⟨I1.kIn, ?_⟩
  obtain ⟨rs1, x1⟩ := rs.extN xN T1
  have rg1 := rg.ext x1
  have h1 : Post Z (RD Z) W σ wd H1 Q (runL fn (b ⟨c.lo, noC, Mo.stk, noL⟩ σd) st) := by
    have h0 : Post Z (RD Z) W σ wd H Q (c.lam f (b ⟨c.lo, noC, Mo.stk, noL⟩ σd) st) := h
    rw [hlam] at h0
    simp only [lamT, e1] at h0
    exact Post.later h0 x1
  have h2 := post_noX h1
  have rc : codeAny (model X.prog X.w) X.A (.call (.ref g) ⟨[.ref fa], []⟩) (CR C8.CX0 X.stack X.prog X.w H1 s' Q C8.E0) s' := by
    refine LamX.run_ofS (N := Ng) (ps := [a]) (us := [.ref fa]) (vs := [.ref fa]) lk hcd FS hr.rm I1.env0 (B s' [.ref fa] I1.kIn rfl) (.cons rfl .nil) rfl fun hr0 => ?_
    refine ⟨_, pss_w, ?_⟩
    have hr' : RoomG (k + 1) (X.A.deeper (envOfC x gsc s'.heap.objs.size g cdv)) := ⟨hr0, hr.gu⟩
    let cA : Cl := ⟨noC, noC, b ⟨c.lo, noC, Mo.stk, noL⟩ σd, noL⟩
    have gd : GdS nm ⟨gsc, Ng, fun _ => true, false, mu, some a, false, ret⟩ Z (GX X Ng x gsc g cdv s' H1) W0 cA (ExL fa wd.ρ wd.F H1) := by
      refine ⟨⟨hK, rfl, rfl, FS.nd, fun _ _ => rfl, ?_, hr.gu, fun _ => rfl, takes0, fun y hy => (congrFun hmg y).trans (G.free y hy), fun _ y j hy => ?_, fun _ j ja hj => ?_, fun y q hy => ?_, fun y q hy => ?_, fun y cs hy => ?_, fun z => (by cases z), fun k C hC => ?_, fun z => (by cases z)⟩, fun _ => passes_of rfl, fun _ => ⟨rfl, rfl⟩, fun a' ha' => ?_⟩
      · have := hr'.rm.un
        show (X.A.deeper (PyProof.Rows.envOfC x gsc s'.heap.objs.size g cdv)).units + 70 < cLine
        omega
      · obtain ⟨ya, q1, q2⟩ := G.fns y j hy
        exact ⟨ya, (congrFun hmg y).trans q1, At.callee (X := GX X Ng x gsc g cdv s' H1) hK (at_zero hd j ya q2) (hr'.mono (Nat.zero_le _)) q2⟩
      · exact At.callee (X := GX X Ng x gsc g cdv s' H1) hK (at_zero hd j ja hj) (hr'.mono (Nat.zero_le _)) hj
      · obtain ⟨u, v, q1, q2⟩ := G.cst y q hy
        exact ⟨u, v, (congrFun hmg y).trans q1, q2⟩
      · obtain ⟨C, q1, q2, q3⟩ := G.cls y q hy
        exact ⟨C, (congrFun hmg y).trans q1, q2, by show ErC X.K C; rw [hK]; exact q3⟩
      · obtain ⟨cvV, cv, q1, q2, q3, q4, q5⟩ := G.isa y cs hy
        refine ⟨⟨cvV, cv, q1, q2, ?_, ?_, ?_⟩⟩
        · show X.mg y = some cv ∨ (X.mg y = none ∧ _)
          rw [hmg]
          exact q3
        · show ∀ k C, Z.C k = some C → PySem.W.kitOne X.K (.ref C) cv = some (cs.contains k)
          rw [hK]
          exact q4
        · show ∀ k C, Z.C k = some C → PySem.W.exmOne X.K (.ref C) cv = some (cs.contains k)
          rw [hK]
          exact q5
      · show ExcC X.K C
        rw [hK]
        exact G.exc k C hC
      · cases ha'
        intro pn xe W' p1 p2 pos' tk
        refine snd_act I1 ln' lp hf hfn hfr hco hv rg1 hr' (cb := ⟨c.lo, noC, Mo.stk, noL⟩) (b := b) (fun A outer s1 H2 E hk => ?_) hN0 hva (okNm_d o2).1 (okNm_d o2).2 rfl pn xe W' p1 p2 pos' tk
        exact hbody (LamX.lamCx X A outer s1 H2 E scope fa c') (fun cls d _ H => E cls d H) rfl rfl rfl rfl rfl rfl rfl rfl ⟨k, hk⟩ (takes_of rfl rfl rfl rfl) fun j ja hj => by
          obtain ⟨_, _, _, _, _, _, _, hG, _⟩ := hj.ex
          exact At.callee (X := LamX.lamCx X A outer s1 H2 E scope fa c') hK (hlo j ja hG) hk hG
    have hst : RSg Z wd H1 (ExL fa wd.ρ wd.F H1) (lamSg fn.nl) (L2.start Ng [V.ref fa]) := by
      have hl : 1 ≤ Ng.length := by
        have := (List.getElem?_eq_some_iff.mp hN0).1
        omega
      refine ⟨by simp [lamSg, L2.start, e2], fun i d hi => ?_⟩
      cases i with
      | zero =>
        simp [lamSg] at hi
        subst hi
        exact ⟨.ref fa, rfl, rfl, rfl, rfl, ⟨[], by simp⟩, .refl⟩
      | succ i =>
        simp only [lamSg, List.getElem?_cons_succ, List.getElem?_replicate] at hi
        split at hi <;> cases hi
    refine snd Z _ _ cA _ gd (lamSg fn.nl) st wd (L2.start Ng [V.ref fa]) H1 _ rs1 hst ?_
    exact fin_ok rs1 (fun _ _ _ _ z => z.elim) h2
  refine wpAny_call (codeAny_mono rc fun r s2 hq => ?_)
  cases r with
  | error e => exact (show False from hq).elim
  | ok fl =>
    cases fl with
    | ret u => exact I1.after hq
    | next => exact False.elim hq
    | brk => exact False.elim hq
    | cont => exact False.elim hq
/-- one level up -/
theorem fn_step (G : Glob nm Z mg) (hd : ∀ f fa, Z.G f = some fa → DefOk nm Z T lams f fa) (ld : ∀ x f, nm.lam.lookup x = some f → LamD nm Z mg T x f) (TI : TabsIn Z lams) (TB : ∀ x ∈ lams, LamX.TabB base mg (He.codeOf Z.K (x, none)) (tabAd Z.K x)) {c : Cl} {n : Nat}
    (hlo : c.lam = noL ∨ ∃ k, k + 2 ≤ n ∧ c.lam = lamT T ∧ ∀ f fa, Z.G f = some fa → At Z P w mg base c.lo k f fa) (ih : ∀ f fa, Z.G f = some fa → At Z P w mg base c.C n f fa) {f : Nat} {fa : Addr} {fd : FuncData} {ps : List Str} (h : DefAt nm Z T lams f fa fd ps) :
    FnG P w Z.K mg base (L2.CX P w) (n + 1) fa fd ps (spC Z (runT T c) f ps.length) := by
  obtain ⟨x, params, body, scope, N, mu, ret, lamB, fn, efa, F, S, B, e1, e2, e3, hlm, snd⟩ := h.ex
  obtain ⟨oc, od, dV, kV, dc, pm, an, cdv, ct, osl, efd, lk, hcd, _, _⟩ := F.ex
  obtain ⟨cc, rfl⟩ := He.codeIn_ref hcd
  have ecc : He.codeOf Z.K (x, none) = cc := He.codeOf_eq (by rw [show He.fAd Z.K (x, none) = fa from efa.symm]; exact lk) (by rw [efd] <;> rfl)
  subst efd
  refine ⟨fun vs H Q E z => z.1, fun A outer s H ar us vs Q E hrG e0 hbd rv z => LamX.run_ofS (N := N) lk hcd S hrG.rm e0 hbd rv z.1 fun hr0 => ?_⟩
  have hr : RoomG n (A.deeper (envOfC x scope s.heap.objs.size fa (.ref cc))) := ⟨hr0, hrG.gu⟩
  obtain ⟨hl, ds, st, wd, rs, bs, post⟩ := z
  refine ⟨_, pss_w, ?_⟩
  have g : GdS nm ⟨scope, N, fun _ => true, false, mu, none, lamB, ret⟩ Z (cxOf (L2.CX P w) P w Z.K mg base N x scope fa (.ref cc) A outer s H E) (fun cls d _ H => E cls d H) c E0 := by
    refine ⟨⟨rfl, rfl, rfl, S.nd, fun _ _ => rfl, ?_, hr.gu, fun _ => rfl, takes_of rfl rfl rfl rfl, G.free, fun _ y j hy => ?_, fun _ j ja hj => ?_, G.cst, G.cls, fun y cs hy => ⟨G.isa y cs hy⟩, fun z => (by cases z), G.exc, fun hb y j hy => ?_⟩, fun _ => passes_of rfl, fun _ => ⟨rfl, rfl⟩, fun a ha => (by cases ha)⟩
    · have := hr.rm.un
      show (A.deeper (envOfC x scope s.heap.objs.size fa (.ref cc))).units + 70 < cLine
      omega
    · obtain ⟨ya, h1, h2⟩ := G.fns y j hy
      exact ⟨ya, h1, At.callee (X := cxOf (L2.CX P w) P w Z.K mg base N x scope fa (.ref cc) A outer s H E) rfl (ih j ya h2) hr h2⟩
    · exact At.callee (X := cxOf (L2.CX P w) P w Z.K mg base N x scope fa (.ref cc) A outer s H E) rfl (ih j ja hj) hr hj
    · have hx := hlm hb
      rcases hlo with hn | ⟨k, hk, hT, hlo⟩
      · intro params' df body' scope' lpos p pos b lp ln hgl hbody σd st' wd' σ' H' Q' rs' rg' hp
        have hp' : Post Z (RD Z) _ σ' wd' H' Q' (c.lam j (b ⟨c.lo, noC, Mo.stk, noL⟩ σd) st') := hp
        rw [hn] at hp'
        exact hp'.elim
      · exact snd_lam (X := cxOf (L2.CX P w) P w Z.K mg base N x scope fa (.ref cc) A outer s H E) (P0 := tabAd Z.K x) (cc := cc) rfl rfl rfl rfl G hd (ld y j hy) hT (by rw [← ecc]; exact TB x hx) rfl (TI.mem x hx) (fun p hp e => TI.uq x hx p hp e) (hr.mono hk) hlo
  have hlen : ds.length = fn.np := by rw [e2, bs.length, hl]
  have post2 : Post Z (RD Z) (fun cls dx _ H' => E cls dx H') [] wd H Q (fin st.length fn.rl (fn.body c (EV.start fn.nl ds) st)) := by
    have p := post
    simp only [runT, e1, runFn, hlen, if_true] at p
    exact p
  refine snd Z _ _ c E0 g (EV.start fn.nl ds) st wd (L2.start N vs) H _ rs (rsg_start bs e3) ?_
  exact fin_ok rs (fun _ _ _ _ z => z) post2
theorem at_step (G : Glob nm Z mg) (hd : ∀ f fa, Z.G f = some fa → DefOk nm Z T lams f fa) (ld : ∀ x f, nm.lam.lookup x = some f → LamD nm Z mg T x f) (TI : TabsIn Z lams) (TB : ∀ x ∈ lams, LamX.TabB base mg (He.codeOf Z.K (x, none)) (tabAd Z.K x)) {c : Cl} {n : Nat}
    (hlo : c.lam = noL ∨ ∃ k, k + 2 ≤ n ∧ c.lam = lamT T ∧ ∀ f fa, Z.G f = some fa → At Z P w mg base c.lo k f fa) (ih : ∀ f fa, Z.G f = some fa → At Z P w mg base c.C n f fa) : ∀ f fa, Z.G f = some fa → At Z P w mg base (runT T c) (n + 1) f fa := fun f fa h => by
  obtain ⟨fd, ps, h⟩ := hd f fa h
  have h0 := h
  obtain ⟨x, params, body, scope, N, mu, ret, lamB, fn, efa, F, S, B, e1, e2, e3, hlm, snd⟩ := h.ex
  refine ⟨fd, ps, fn_step G hd ld TI TB hlo ih h0, F.kp, B, fun ds st hne => ?_⟩
  simp only [runT, e1, runFn]
  rw [e2, if_neg hne]
theorem at_all (G : Glob nm Z mg) (hd : ∀ f fa, Z.G f = some fa → DefOk nm Z T lams f fa) (ld : ∀ x f, nm.lam.lookup x = some f → LamD nm Z mg T x f) (TI : TabsIn Z lams) (TB : ∀ x ∈ lams, LamX.TabB base mg (He.codeOf Z.K (x, none)) (tabAd Z.K x)) : ∀ n f fa, Z.G f = some fa → At Z P w mg base (callF T n) n f fa
  | 0 => at_zero hd
  | 1 => at_step G hd ld TI TB (.inl rfl) (at_all G hd ld TI TB 0)
  | 2 => at_step G hd ld TI TB (.inl rfl) (at_all G hd ld TI TB 1)
  | 3 => at_step G hd ld TI TB (.inl rfl) (at_all G hd ld TI TB 2)
  | n + 4 => at_step G hd ld TI TB (.inr ⟨n, by omega, rfl, at_all G hd ld TI TB n⟩) (at_all G hd ld TI TB (n + 3))
theorem fn_all (G : Glob nm Z mg) (hd : ∀ f fa, Z.G f = some fa → DefOk nm Z T lams f fa) (ld : ∀ x f, nm.lam.lookup x = some f → LamD nm Z mg T x f) (TI : TabsIn Z lams) (TB : ∀ x ∈ lams, LamX.TabB base mg (He.codeOf Z.K (x, none)) (tabAd Z.K x)) {f : Nat} {fa : Addr} {fd : FuncData} {ps : List Str} (h : DefAt nm Z T lams f fa fd ps) :
    ∀ n, FnG P w Z.K mg base (L2.CX P w) (n + 1) fa fd ps (spC Z (callF T (n + 1)) f ps.length)
  | 0 => fn_step G hd ld TI TB (.inl rfl) (at_all G hd ld TI TB 0) h
  | 1 => fn_step G hd ld TI TB (.inl rfl) (at_all G hd ld TI TB 1) h
  | 2 => fn_step G hd ld TI TB (.inl rfl) (at_all G hd ld TI TB 2) h
  | n + 3 => fn_step G hd ld TI TB (.inr ⟨n, by omega, rfl, at_all G hd ld TI TB n⟩) (at_all G hd ld TI TB (n + 3)) h
end
end EV
end
section
/-! Ev17: what the top leaves; the end. -/
namespace EV
open PySem PySem.Spec PyProof.Rows L2
/-! ### the fragment without lists, without empty tables -/
def isLstO (o : Obj) : Bool := match o.cls with
  | .type c => decide (c = "list")
  | _ => false
def skipO (o : Obj) : Bool := isLstO o || He.emptyTab o
def frN (g : Addr → Option Obj) (as : List Addr) : PySem.W.Frag := as.filterMap fun a => match g a with
  | some o => if skipO o then none else some (a, o)
  | none => none
theorem frN_at {g : Addr → Option Obj} {a : Addr} {o : Obj} : ∀ as : List Addr, (frN g as).lookup a = some o → g a = some o ∧ skipO o = false
  | [], e => nomatch (show (none : Option Obj) = some o from e)
  | b :: r, e => by
    have er : ∀ {z : Option (Addr × Obj)}, z = none → (match g b with | some o => if skipO o then none else some (b, o) | none => none) = z → (frN g r).lookup a = some o := fun {z} hz h => by
      unfold frN at e
      rw [List.filterMap_cons, h, hz] at e
      exact e
    cases hb : g b with
    | none => exact frN_at r (er rfl (by rw [hb]))
    | some ob =>
      by_cases hl : skipO ob = true
      · exact frN_at r (er rfl (by rw [hb]; simp only [hl, if_true]))
      · have hz : (match g b with | some o => if skipO o then none else some (b, o) | none => none) = some (b, ob) := by rw [hb]; simp only [if_neg hl]
        unfold frN at e
        rw [List.filterMap_cons, hz] at e
        have e2 : (match a == b with | true => some ob | false => (frN g r).lookup a) = some o := e
        cases q : (a == b) with
        | true =>
          rw [q] at e2
          cases e2
          rw [beq_iff_eq.mp q, hb]
          exact ⟨rfl, by simpa using hl⟩
        | false =>
          rw [q] at e2
          exact frN_at r e2
theorem skip_lst {o : Obj} (h : skipO o = false) : isLstO o = false := by
  unfold skipO at h
  rw [Bool.or_eq_false_iff] at h
  exact h.1
def NoL (K : PySem.W.Frag) : Prop := ∀ a o, K.lookup a = some o → isLstO o = false
theorem NoL.rd {K : PySem.W.Frag} (n : NoL K) {H : Hp} {a : Addr} {vs : List V} (h : SqL K H a vs) : Rd H a (.lst vs) := by
  rcases h with h | ⟨o, its, m, h1, h2, _⟩
  · exact h
  · have := n a o h1
    unfold isLstO at this
    rw [h2] at this
    simp at this
/-! ### facts of caught errors -/
def exB (K : PySem.W.Frag) (D : Addr) : Bool :=
  He.eqO (PySem.W.findIn K (.ref D) "__getattribute__") (some (some (.builtin "BaseException.__getattribute__"))) && (He.eqO (PySem.W.findIn K (.ref D) "__getattr__") (some none) && (decide (PySem.W.subIn K (.ref D) (.type "BaseException") = some true) && (PySem.W.hasDictIn K D &&
    (He.eqO (PySem.W.findIn K (.ref D) "__class__") (some (some (.builtin "object.__class__"))) && (He.eqO (PySem.W.specialIn K (.builtin "object.__class__") "__get__") (some (some (.builtin "getset_descriptor.__get__"))) && (decide (PySem.W.takesIn K (.builtin "object.__class__") = some true) && decide (PySem.W.mroIn K D (.type "object") = some true)))))))
theorem exB_ok {K : PySem.W.Frag} {D : Addr} (h : exB K D = true) : ExcC K D := by
  unfold exB at h
  simp only [Bool.and_eq_true, decide_eq_true_eq] at h
  obtain ⟨h1, h2, h3, h4, h5, h6, h7, h8⟩ := h
  exact ⟨He.eqO_ok h1, He.eqO_ok h2, h3, h4, He.eqO_ok h5, He.eqO_ok h6, h7, h8⟩
/-- a class named in isinstance, in except: an own one, a built-in one; the numbers of the errors that it takes -/
structure IsD where
  x : Str
  blt : Option String
  cs : List Nat
def IsD.cv (K : PySem.W.Frag) (d : IsD) : Value := match d.blt with
  | some n => .type n
  | none => .ref (He.ga K d.x)
def isB (K : PySem.W.Frag) (clss : List Str) (d : IsD) : Bool := (List.range clss.length).all fun k => match clss[k]? with
  | some y => decide (PySem.W.kitOne K (.ref (He.ga K y)) (d.cv K) = some (d.cs.contains k)) && decide (PySem.W.exmOne K (.ref (He.ga K y)) (d.cv K) = some (d.cs.contains k))
  | none => true
/-! ### the text -/
structure TD where
  x : Str
  ps : List Str
  N : List Str
  mu : List Str
  ret : Bool
  lamB : Bool
  act : Option Str
  st : Stmt
inductive CV where
  | int (i : Int) | str (z : Str) | tup (zs : List Str)
def CV.p : CV → P
  | .int i => .int i
  | .str z => .str z
  | .tup zs => .tup (zs.map .str)
def CV.fa (x : Str) : CV → He.Fa
  | .int i => .int x i
  | .str z => .str x z
  | .tup _ => .glo x
def CV.ok (K : PySem.W.Frag) (x : Str) : CV → Bool
  | .tup zs => He.tupB K x (zs.map .str)
  | _ => true
structure TX where
  tds : List TD
  clss : List Str
  isas : List IsD
  frees : List Str
  csts : List (Str × CV)
def TD.defD (t : TD) : He.DefD := ⟨(t.x, none), t.x, t.x, defArgs t.st, defBody t.st, defScope t.st, [], []⟩
def TX.fn (t : TX) : List He.DefD := t.tds.map TD.defD
def IsD.fa (d : IsD) : He.Fa := match d.blt with | some _ => .free d.x | none => .glo d.x
def TX.fa (t : TX) : List He.Fa := t.tds.map (fun d => .glo d.x) ++ (t.clss.map (fun x => .glo x) ++ (t.clss.map (fun x => .exc x) ++ (t.frees.map (fun x => .free x) ++ (t.csts.map (fun q => q.2.fa q.1) ++ t.isas.map IsD.fa))))
def TX.lams (t : TX) : List Str := (t.tds.filter (·.lamB)).map (·.x)
def TX.more (t : TX) (K : PySem.W.Frag) : Bool := (t.clss.all fun x => exB K (He.ga K x)) && ((t.isas.all fun d => isB K t.clss d && (match d.blt with
  | some n => decide (bootBuiltins d.x = some (.type n)) && decide (d.x ≠ "__name__")
  | none => true)) && ((t.csts.all fun q => q.2.ok K q.1) && t.lams.all fun x => t.lams.all fun y => !decide (tabAd K y = tabAd K x) || decide (y = x)))
def numW (p : TD → Bool) : Nat → List TD → List (Str × Nat)
  | _, [] => []
  | i, d :: r => if p d then (d.x, i) :: numW p (i + 1) r else numW p (i + 1) r
theorem numW_ok {p : TD → Bool} {x : Str} {f : Nat} : ∀ {l : List TD} {k : Nat}, (numW p k l).lookup x = some f → ∃ j d, f = k + j ∧ l[j]? = some d ∧ d.x = x ∧ p d = true
  | [], _, h => by simp [numW] at h
  | d :: r, k, h => by
    have step : (numW p (k + 1) r).lookup x = some f → ∃ j d', f = k + j ∧ (d :: r)[j]? = some d' ∧ d'.x = x ∧ p d' = true := fun h => by
      obtain ⟨j, d', e1, e2, e3, e4⟩ := numW_ok (l := r) h
      exact ⟨j + 1, d', by omega, by simpa using e2, e3, e4⟩
    unfold numW at h
    by_cases hp : p d = true
    · rw [if_pos hp, List.lookup_cons] at h
      cases q : (x == d.x) with
      | true =>
        rw [q] at h
        cases h
        exact ⟨0, d, rfl, rfl, (eq_of_beq q).symm, hp⟩
      | false =>
        rw [q] at h
        exact step h
    · rw [if_neg hp] at h
      exact step h
def number : Nat → List Str → List (Str × Nat)
  | _, [] => []
  | i, x :: r => (x, i) :: number (i + 1) r
theorem number_ok {x : Str} {f : Nat} : ∀ {l : List Str} {k : Nat}, (number k l).lookup x = some f → ∃ j, f = k + j ∧ l[j]? = some x
  | [], _, h => by simp [number] at h
  | y :: r, k, h => by
    simp only [number, List.lookup_cons] at h
    cases q : (x == y) with
    | true =>
      rw [q] at h
      cases h
      exact ⟨0, rfl, by rw [eq_of_beq q] <;> rfl⟩
    | false =>
      rw [q] at h
      obtain ⟨j, e1, e2⟩ := number_ok (l := r) h
      exact ⟨j + 1, by omega, by simpa using e2⟩
def TX.nm (t : TX) : NM := ⟨numW (fun d => d.act.isNone) 0 t.tds, number 0 t.clss, t.isas.map fun d => (d.x, d.cs), t.csts.map fun q => (q.1, q.2.p), t.frees, numW (fun d => d.act.isSome) 0 t.tds⟩
def TX.Z (t : TX) (K : PySem.W.Frag) : St0 := ⟨K, fun n => match t.tds[n]? with
  | some d => if d.act.isNone then some (He.ga K d.x) else none
  | none => none, fun n => (t.clss[n]?).map (He.ga K), t.lams.map fun x => (tabAd K x, lamQ x)⟩
def TD.S (t : TD) : SC := ⟨defScope t.st, t.N, fun _ => true, false, t.mu, t.act, t.lamB, t.ret⟩
def visS (sc : Scope) (x : Str) : Bool := match sc.names.lookup x with
  | some .local | some .cell | some .free => true
  | _ => false
theorem visS_ok {sc : Scope} {x : Str} (h : visS sc x = true) : Vis sc x := by
  unfold visS at h
  unfold Vis
  cases e : sc.names.lookup x with
  | none =>
    rw [e] at h
    cases h
  | some k =>
    rw [e] at h
    cases k <;> first | (exact .inl rfl) | (exact .inr (.inl rfl)) | (exact .inr (.inr rfl)) | (cases h)
def TD.actB (t : TD) : Bool := match t.act with
  | none => true
  | some a => okNm t.x && okNm a && decide (t.N[0]? = some a) && visS (defScope t.st) a && decide (t.ps = [a]) && !t.lamB
structure TDOk (nm : NM) (fuel : Nat) (t : TD) (fn : Fn) : Prop where
  sc : C8.scC t.N t.ps (defScope t.st) = true
  np : fn.np = t.ps.length
  nl : fn.nl = t.N.length
  ab : t.actB = true
  cp : (((comp nm fuel).Ss t.S (defBody t.st)).map (·.1)) = some fn.body
  bd : ∀ (kV doc pm : Value) (an : Option Addr) (cdv ct : Value) (us : List Value), us.length = t.ps.length → bindArgs (PySem.W.fnOf t.x t.x (defArgs t.st) (defBody t.st) (defScope t.st) .none kV doc pm an cdv ct) ⟨us, []⟩ = pure (t.ps.zip us)
inductive TDsOk (nm : NM) (fuel : Nat) : List TD → List Fn → Prop
  | nil : TDsOk nm fuel [] []
  | cons {t : TD} {fn : Fn} {ts : List TD} {fns : List Fn} : TDOk nm fuel t fn → TDsOk nm fuel ts fns → TDsOk nm fuel (t :: ts) (fn :: fns)
theorem TDsOk.at {nm : NM} {fuel : Nat} : ∀ {ts : List TD} {fns : List Fn}, TDsOk nm fuel ts fns → ∀ {i : Nat} {t : TD}, ts[i]? = some t → ∃ fn, fns[i]? = some fn ∧ TDOk nm fuel t fn
  | _, _, .nil, i, t, h => by simp at h
  | _, _, .cons a b, 0, t, h => by
    simp at h
    subst h
    exact ⟨_, rfl, a⟩
  | _, _, .cons a b, i + 1, t, h => by
    obtain ⟨fn, e1, e2⟩ := TDsOk.at b (i := i) (t := t) (by simpa using h)
    exact ⟨fn, by simpa using e1, e2⟩
/-! ### the Hook -/
def tabsN (t : TX) (g : Addr → Option Obj) (K : PySem.W.Frag) : Bool := t.lams.all fun x => PySem.W.codeHdIn K (He.cT K (x, none)).1 (He.cT K (x, none)).2 && (match g (He.cT K (x, none)).2 with
  | some o => He.emptyTab o
  | none => false)
def obsN (t : TX) (g : Addr → Option Obj) (K : PySem.W.Frag) : He.AlD := ((He.obsD t.fa t.fn K).1 && (t.more K && tabsN t g K), (He.obsD t.fa t.fn K).2)
def obsNG (n : Nat) (t : TX) (g : Addr → Option Obj) : He.AlD := obsN t g (frN g (He.asD g n))
structure TabF (K : PySem.W.Frag) (h : Heap) (x : Str) : Prop where
  hd : PySem.W.codeHdIn K (He.codeOf K (x, none)) (tabAd K x) = true
  out : K.lookup (tabAd K x) = none
  empty : h.get? (tabAd K x) = some { cls := .none, data := .fields #[] }
def hookN (n : Nat) (t : TX) : PySem.W.Hook where
  α := He.AlD
  obs := fun s => obsNG n t s.heap.get?
  val := fun _ => He.valD t.fn
  says := fun _ h => ∃ K : PySem.W.Frag, K.In h ∧ NoL K ∧ He.SaysD t.fa t.fn K ∧ t.more K = true ∧ ∀ x ∈ t.lams, TabF K h x
  of := fun _ s e => by
    have e' : obsN t s.heap.get? (frN s.heap.get? (He.asD s.heap.get? n)) = He.valD t.fn := e
    unfold obsN He.valD at e'
    simp only [Prod.mk.injEq, Bool.and_eq_true] at e'
    refine ⟨frN s.heap.get? (He.asD s.heap.get? n), fun a o q => (frN_at _ q).1, fun a o q => skip_lst (frN_at _ q).2, Prod.ext e'.1.1 e'.2, e'.1.2.1, fun x hx => ?_⟩
    have h3 := List.all_eq_true.mp e'.1.2.2 x hx
    rw [Bool.and_eq_true] at h3
    have h4 := h3.2
    cases q : s.heap.get? (He.cT (frN s.heap.get? (He.asD s.heap.get? n)) (x, none)).2 with
    | none =>
      rw [q] at h4
      cases h4
    | some o =>
      rw [q] at h4
      have h5 : He.emptyTab o = true := h4
      refine ⟨h3.1, ?_, by rw [← He.emptyTab_eq h5]; exact q⟩
      cases q2 : (frN s.heap.get? (He.asD s.heap.get? n)).lookup (tabAd (frN s.heap.get? (He.asD s.heap.get? n)) x) with
      | none => rfl
      | some o2 =>
        obtain ⟨h6, h7⟩ := frN_at _ q2
        rw [show tabAd (frN s.heap.get? (He.asD s.heap.get? n)) x = (He.cT (frN s.heap.get? (He.asD s.heap.get? n)) (x, none)).2 from rfl, q] at h6
        cases h6
        unfold skipO at h7
        rw [h5, Bool.or_true] at h7
        cases h7
  keeps := fun _ _ _ ⟨K, hK, nl, c, m, tb⟩ k => ⟨K, PySem.W.Frag.In.keeps hK k, nl, c, m, fun x hx => ⟨(tb x hx).hd, (tb x hx).out, k _ _ (tb x hx).empty⟩⟩
theorem obsNG_eq {n : Nat} {t : TX} {g : Addr → Option Obj} {s : Shared} (h : ∀ a, g a = s.heap.get? a) : obsNG n t g = (hookN n t).obs s := by
  have e : g = s.heap.get? := funext h
  rw [e] <;> rfl
theorem brl_strs {Z : St0} {F : Addr → Prop} {H : Hp} : ∀ zs : List Str, BrL Z F H (zs.map P.str) (zs.map V.str)
  | [] => .nil
  | z :: r => .cons (.str z) (brl_strs r)
section
variable {t : TX} {K : PySem.W.Frag} {h : Heap} {mg : Str → Option Value}
theorem fact {f : He.Fa} (c : He.SaysD t.fa t.fn K) (hf : f ∈ t.fa) : f.ok K = true := by
  have c1 := (He.ba (show ((t.fa.all fun f => f.ok K) && t.fn.all fun d => d.ok K) = true from congrArg (fun z : He.AlD => z.1) c)).1
  exact List.all_eq_true.mp c1 f hf
theorem look_mem {α : Type} {x : Str} {p : α} : ∀ {l : List (Str × α)}, l.lookup x = some p → (x, p) ∈ l
  | [], h => by simp at h
  | (y, q) :: r, h => by
    simp only [List.lookup_cons] at h
    cases e : (x == y) with
    | true =>
      rw [e] at h
      cases h
      rw [eq_of_beq e]
      simp
    | false =>
      rw [e] at h
      exact List.mem_cons_of_mem _ (look_mem h)
theorem fa_def {d : TD} (h : d ∈ t.tds) : He.Fa.glo d.x ∈ t.fa := List.mem_append_left _ (List.mem_map.mpr ⟨d, h, rfl⟩)
theorem fa_cls {x : Str} (h : x ∈ t.clss) : He.Fa.glo x ∈ t.fa := List.mem_append_right _ (List.mem_append_left _ (List.mem_map.mpr ⟨x, h, rfl⟩))
theorem fa_exc {x : Str} (h : x ∈ t.clss) : He.Fa.exc x ∈ t.fa := List.mem_append_right _ (List.mem_append_right _ (List.mem_append_left _ (List.mem_map.mpr ⟨x, h, rfl⟩)))
theorem fa_free {x : Str} (h : x ∈ t.frees) : He.Fa.free x ∈ t.fa := List.mem_append_right _ (List.mem_append_right _ (List.mem_append_right _ (List.mem_append_left _ (List.mem_map.mpr ⟨x, h, rfl⟩))))
theorem fa_cst {q : Str × CV} (h : q ∈ t.csts) : q.2.fa q.1 ∈ t.fa := List.mem_append_right _ (List.mem_append_right _ (List.mem_append_right _ (List.mem_append_right _ (List.mem_append_left _ (List.mem_map.mpr ⟨q, h, rfl⟩)))))
theorem fa_isa {d : IsD} (h : d ∈ t.isas) : d.fa ∈ t.fa := List.mem_append_right _ (List.mem_append_right _ (List.mem_append_right _ (List.mem_append_right _ (List.mem_append_right _ (List.mem_map.mpr ⟨d, h, rfl⟩)))))
theorem TX.Z_G {f : Nat} {d : TD} (hd : t.tds[f]? = some d) (ha : d.act.isNone = true) : (t.Z K).G f = some (He.ga K d.x) := by
  show (match t.tds[f]? with | some d => if d.act.isNone then some (He.ga K d.x) else none | none => none) = _
  rw [hd]
  simp only [ha, if_true]
theorem TX.of_G {f : Nat} {fa : Addr} (h : (t.Z K).G f = some fa) : ∃ d, t.tds[f]? = some d ∧ d.act.isNone = true ∧ fa = He.ga K d.x := by
  have h : (match t.tds[f]? with | some d => if d.act.isNone then some (He.ga K d.x) else none | none => none) = some fa := h
  cases q : t.tds[f]? with
  | none =>
    rw [q] at h
    cases h
  | some d =>
    rw [q] at h
    by_cases ha : d.act.isNone = true
    · simp only [ha, if_true, Option.some.injEq] at h
      exact ⟨d, rfl, ha, h.symm⟩
    · simp only [ha] at h
      cases h
theorem TX.more_ok (m : t.more K = true) : (∀ x ∈ t.clss, exB K (He.ga K x) = true) ∧ (∀ d ∈ t.isas, isB K t.clss d = true ∧ (match d.blt with
  | some n => decide (bootBuiltins d.x = some (.type n)) && decide (d.x ≠ "__name__")
  | none => true) = true) ∧ (∀ q ∈ t.csts, q.2.ok K q.1 = true) ∧ ∀ x ∈ t.lams, ∀ y ∈ t.lams, tabAd K y = tabAd K x → y = x := by
  unfold TX.more at m
  simp only [Bool.and_eq_true, List.all_eq_true, Bool.or_eq_true, Bool.not_eq_true', decide_eq_false_iff_not, decide_eq_true_eq] at m
  exact ⟨m.1, fun d hd => by simpa using m.2.1 d hd, m.2.2.1, fun x hx y hy e => (m.2.2.2 x hx y hy).resolve_left (fun z => z e)⟩
theorem glob_of (X : K.In h) (G : h.Ns mainGlobals mg) (c : He.SaysD t.fa t.fn K) (m : t.more K = true) : Glob t.nm (t.Z K) mg := by
  obtain ⟨m1, m2, m3, m4⟩ := TX.more_ok m
  refine ⟨fun x hx => ?_, fun x f hf => ?_, fun x p hp => ?_, fun x k hk => ?_, fun x cs hx => ?_, fun k C hC => ?_⟩
  · have hm : x ∈ t.nm.free := by simpa using hx
    exact He.free_ok X G (fact c (fa_free hm))
  · obtain ⟨j, d, e1, e2, e3, e4⟩ := numW_ok hf
    rw [Nat.zero_add] at e1
    subst e1
    subst e3
    exact ⟨_, He.glo_ok X G (fact c (fa_def (List.mem_of_getElem? e2))), TX.Z_G e2 e4⟩
  · have hm := look_mem hp
    simp only [TX.nm, List.mem_map, Prod.mk.injEq] at hm
    obtain ⟨q, hq, rfl, rfl⟩ := hm
    have hf := fact c (fa_cst hq)
    have ho := m3 q hq
    obtain ⟨x, cv⟩ := q
    cases cv with
    | int i =>
      obtain ⟨tk, e⟩ := He.int_ok X G hf
      exact ⟨_, .int i, e, ⟨tk, rfl⟩, fun _ _ => .int _⟩
    | str z =>
      obtain ⟨tk, e⟩ := He.str_ok X G hf
      exact ⟨_, .str z, e, ⟨tk, rfl⟩, fun _ _ => .str _⟩
    | tup zs =>
      refine ⟨_, .ref (He.ga K x), He.glo_ok X G hf, rfl, fun F H => ?_⟩
      have h1 := He.tupB_ok ho H
      rw [List.map_map] at h1
      exact .tup h1 (brl_strs zs)
  · obtain ⟨j, e1, e2⟩ := number_ok hk
    rw [Nat.zero_add] at e1
    subst e1
    have hm : x ∈ t.clss := List.mem_of_getElem? e2
    obtain ⟨h1, h2, h3, h4⟩ := He.exc_ok (fact c (fa_exc hm))
    exact ⟨_, He.glo_ok X G (fact c (fa_cls hm)), by show (t.clss[k]?).map _ = _; rw [e2] <;> rfl, ⟨h1, h2, h3, h4⟩⟩
  · have hm := look_mem hx
    simp only [TX.nm, List.mem_map, Prod.mk.injEq] at hm
    obtain ⟨d, hd, rfl, rfl⟩ := hm
    obtain ⟨hb1, hb2⟩ := m2 d hd
    have hall : ∀ k C, (t.Z K).C k = some C → PySem.W.kitOne K (.ref C) (d.cv K) = some (d.cs.contains k) ∧ PySem.W.exmOne K (.ref C) (d.cv K) = some (d.cs.contains k) := fun k C hC => by
      have hC' : (t.clss[k]?).map (He.ga K) = some C := hC
      rw [Option.map_eq_some_iff] at hC'
      obtain ⟨y, hy, rfl⟩ := hC'
      have hk := List.all_eq_true.mp hb1 k (List.mem_range.mpr (List.getElem?_eq_some_iff.mp hy).1)
      rw [hy] at hk
      simp only [Bool.and_eq_true, decide_eq_true_eq] at hk
      exact hk
    have hff := fact c (fa_isa hd)
    cases q : d.blt with
    | some n =>
      have ecv : d.cv K = .type n := by unfold IsD.cv; rw [q]
      rw [ecv] at hall
      rw [q] at hb2
      simp only [Bool.and_eq_true, decide_eq_true_eq] at hb2
      have hff2 : (He.Fa.free d.x).ok K = true := by
        unfold IsD.fa at hff
        rw [q] at hff
        exact hff
      refine ⟨.ty n, .type n, rfl, fun u r => r, .inr ⟨He.free_ok X G hff2, hb2.1, hb2.2⟩, fun k C hC => (hall k C hC).1, fun k C hC => (hall k C hC).2⟩
    | none =>
      have ecv : d.cv K = .ref (He.ga K d.x) := by unfold IsD.cv; rw [q]
      rw [ecv] at hall
      have hff2 : (He.Fa.glo d.x).ok K = true := by
        unfold IsD.fa at hff
        rw [q] at hff
        exact hff
      refine ⟨.ref (He.ga K d.x), .ref (He.ga K d.x), rfl, fun u r => r, .inl (He.glo_ok X G hff2), fun k C hC => (hall k C hC).1, fun k C hC => (hall k C hC).2⟩
  · have hC' : (t.clss[k]?).map (He.ga K) = some C := hC
    rw [Option.map_eq_some_iff] at hC'
    obtain ⟨y, hy, rfl⟩ := hC'
    exact exB_ok (m1 y (List.mem_of_getElem? hy))
theorem funD_of {fuel : Nat} {fns : List Fn} (c : He.SaysD t.fa t.fn K) (ok : TDsOk t.nm fuel t.tds fns) {f : Nat} {d : TD} (hd : t.tds[f]? = some d) : ∃ fd fn, FunD K d.x d.x (defArgs d.st) (defBody d.st) (defScope d.st) [] [] (He.ga K d.x) fd ∧ fns[f]? = some fn ∧ TDOk t.nm fuel d fn ∧ Binds K fd d.ps [] ∧
    ∀ (Z : St0) (X : Cx) (W : WX) (c : Cl) (Ex : EXR), GdS t.nm d.S Z X W c Ex → SndSs Z X W c Ex (defBody d.st) fn.body := by
  obtain ⟨fn, e1, o⟩ := ok.at hd
  have hd' : t.fn[f]? = some d.defD := by unfold TX.fn; rw [List.getElem?_map, hd] <;> rfl
  obtain ⟨fd, F⟩ := He.SaysD.def_ c f hd'
  have F' : FunD K d.x d.x (defArgs d.st) (defBody d.st) (defScope d.st) [] [] (He.ga K d.x) fd := F
  have hcp := o.cp
  rw [Option.map_eq_some_iff] at hcp
  obtain ⟨⟨m, hm⟩, _, e3⟩ := hcp
  have e3 : m = fn.body := e3
  subst e3
  exact ⟨fd, fn, F', e1, o, F'.bindsN o.bd, hm⟩
theorem def_of {fuel : Nat} {fns : List Fn} (c : He.SaysD t.fa t.fn K) (ok : TDsOk t.nm fuel t.tds fns) {f : Nat} {d : TD} (hd : t.tds[f]? = some d) (ha : d.act.isNone = true) : ∃ fd, FunD K d.x d.x (defArgs d.st) (defBody d.st) (defScope d.st) [] [] (He.ga K d.x) fd ∧ DefAt t.nm (t.Z K) (fun i => fns[i]?) t.lams f (He.ga K d.x) fd d.ps := by
  obtain ⟨fd, fn, F', e1, o, B, hm⟩ := funD_of c ok hd
  refine ⟨fd, F', ⟨d.x, defArgs d.st, defBody d.st, defScope d.st, d.N, d.mu, d.ret, d.lamB, fn, rfl, F', C8.fnScope_by o.sc, B, e1, o.np, o.nl, fun hl => ?_, ?_⟩⟩
  · exact List.mem_map.mpr ⟨d, List.mem_filter.mpr ⟨List.mem_of_getElem? hd, hl⟩, rfl⟩
  · have e : d.act = none := Option.isNone_iff_eq_none.mp ha
    have eS : d.S = ⟨defScope d.st, d.N, fun _ => true, false, d.mu, none, d.lamB, d.ret⟩ := by unfold TD.S; rw [e]
    rw [← eS]
    exact hm
theorem defs_of {fuel : Nat} {fns : List Fn} (c : He.SaysD t.fa t.fn K) (ok : TDsOk t.nm fuel t.tds fns) : ∀ f fa, (t.Z K).G f = some fa → DefOk t.nm (t.Z K) (fun i => fns[i]?) t.lams f fa := fun f fa hf => by
  obtain ⟨d, hd, ha, rfl⟩ := TX.of_G hf
  obtain ⟨fd, _, h⟩ := def_of c ok hd ha
  exact ⟨fd, d.ps, h⟩
theorem lams_of {fuel : Nat} {fns : List Fn} (X : K.In h) (G : h.Ns mainGlobals mg) (c : He.SaysD t.fa t.fn K) (ok : TDsOk t.nm fuel t.tds fns) : ∀ x f, t.nm.lam.lookup x = some f → LamD t.nm (t.Z K) mg (fun i => fns[i]?) x f := fun x f hx => by
  obtain ⟨j, d, e1, e2, e3, e4⟩ := numW_ok hx
  rw [Nat.zero_add] at e1
  subst e1
  subst e3
  obtain ⟨fd, fn, F', e1, o, B, hm⟩ := funD_of c ok e2
  obtain ⟨a, ha⟩ := Option.isSome_iff_exists.mp e4
  have hab := o.ab
  unfold TD.actB at hab
  rw [ha] at hab
  simp only [Bool.and_eq_true, decide_eq_true_eq, Bool.not_eq_true'] at hab
  obtain ⟨⟨⟨⟨⟨h1, h2⟩, h3⟩, h4⟩, h5⟩, h6⟩ := hab
  rw [h5] at B
  have S := C8.fnScope_by o.sc
  rw [h5] at S
  have eS : d.S = ⟨defScope d.st, d.N, fun _ => true, false, d.mu, some a, false, d.ret⟩ := by unfold TD.S; rw [ha, h6]
  rw [eS] at hm
  exact ⟨He.ga K d.x, defArgs d.st, defBody d.st, defScope d.st, fd, a, d.N, d.mu, d.ret, fn, He.glo_ok X G (fact c (fa_def (List.mem_of_getElem? e2))), F', S, B, e1, o.nl, h1, h2, h3, visS_ok h4, hm⟩
theorem tabsIn_of (m : t.more K = true) : TabsIn (t.Z K) t.lams := by
  obtain ⟨_, _, _, m4⟩ := TX.more_ok m
  refine ⟨fun x hx => List.mem_map.mpr ⟨x, hx, rfl⟩, fun x hx p hp e => ?_⟩
  have hp : p ∈ t.lams.map fun x => (tabAd K x, lamQ x) := hp
  obtain ⟨y, hy, rfl⟩ := List.mem_map.mp hp
  rw [m4 x hx y hy e]
end
/-- the script -/
def scr (ns : List Int) : D := .p (.lst (ns.map .int))
/-! ### the end: a promise that holds where nothing's text is under way -/
/-- what is told of the heap at the law's call: the tables, and the script, unless the world tells of it itself -/
def tellS (K : PySem.W.Frag) (tabs : List Addr) (scrA : Addr) (scrO : Obj) (zs : List V) : Hp := fun b =>
  if b ∈ tabs then some (.tbl #[]) else if b = scrA ∧ (K.lookup scrA).isNone = true then some (.frz scrO (.lst zs)) else none
section
variable {K : PySem.W.Frag} {tabs : List Addr} {scrA b : Addr} {scrO : Obj} {zs : List V}
theorem tellS_t (h : b ∈ tabs) : tellS K tabs scrA scrO zs b = some (.tbl #[]) := if_pos h
theorem tellS_s (h : scrA ∉ tabs) (k : K.lookup scrA = none) : tellS K tabs scrA scrO zs scrA = some (.frz scrO (.lst zs)) := by
  unfold tellS
  rw [if_neg h, if_pos ⟨rfl, by rw [k] <;> rfl⟩]
theorem tellS_cases {u : HO} (h : tellS K tabs scrA scrO zs b = some u) : (b ∈ tabs ∧ u = .tbl #[]) ∨ (b ∉ tabs ∧ b = scrA ∧ K.lookup scrA = none ∧ u = .frz scrO (.lst zs)) := by
  unfold tellS at h
  by_cases h1 : b ∈ tabs
  · rw [if_pos h1] at h
    exact .inl ⟨h1, (Option.some.inj h).symm⟩
  · rw [if_neg h1] at h
    by_cases h2 : b = scrA ∧ (K.lookup scrA).isNone = true
    · rw [if_pos h2] at h
      exact .inr ⟨h1, h2.1, Option.isNone_iff_eq_none.mp h2.2, (Option.some.inj h).symm⟩
    · rw [if_neg h2] at h
      cases h
end
theorem law_callG {P : Program} {w : World} {K : PySem.W.Frag} {mg mb : Str → Option Value} {cxt : CXT} {k : Nat} {fa scrA : Addr} {cs : List (Addr × Addr)} {fd : FuncData} {x : Str} {sp : Sp} {s1 : Shared} {us : List Value} {zs : List Int} (KX : K.In s1.heap)
    (gG : s1.heap.Ns mainGlobals mg) (gB : s1.heap.Ns builtinsNs mb) (gN : ∀ x : Str, x ≠ "__name__" → mb x = bootBuiltins x) (lim : s1.heap.NoLimit) (gens : s1.gens = #[]) (tO : ∀ p ∈ cs, s1.heap.get? p.2 = some { cls := .none, data := .fields #[] }) (tK : ∀ p ∈ cs, K.lookup p.2 = none)
    (tC : ∀ p ∈ cs, PySem.W.CodeHd s1.heap p.1 p.2) (bmod : ∃ (bm : Addr) (ob : Obj), mg "__builtins__" = some (.ref bm) ∧ bm ≠ builtinsNs ∧ s1.heap.get? bm = some ob ∧ ob.cls = .type "module" ∧ ob.dict = some builtinsNs ∧ ob.data = .plain)
    (sO : s1.heap.get? scrA = some { cls := .type "list", data := .seq us.toArray }) (sI : IntsAre us zs) (sL : zs.length ≤ sizeLine) (room : RoomG k callerA)
    (F : ∀ base : Heap, K.In base → base.Ns mainGlobals mg → (∀ p ∈ cs, LamX.TabB base mg p.1 p.2) → FnG P w K mg base cxt k fa fd [x] sp) (bind1 : ∀ (s : Shared) (u : Value), BindsTo s fd ⟨[u], []⟩ [(x, u)])
    (told : ∀ H : Hp, (∀ p ∈ cs, H p.2 = some (.tbl #[])) → SqL K H scrA (zs.map V.int) → sp [.ref scrA] H (fun v _ => v = .bl true) fun _ _ _ => False) (noE : ∀ H e s', cxt [] H s1 (fun _ _ _ => False) e s' → False) :
    codeAny (model P w) callerA (.call (.ref fa) ⟨[.ref scrA], []⟩) (fun r s' => r = .ok (.ret (.bool true)) ∧ OldK s1.heap s'.heap ∧ s'.os = s1.os ∧ AllBare s'.gens) s1 := by
  have rv := vals_ints sI
  have tabO : ∀ b, b ∈ cs.map (·.2) → s1.heap.get? b = some { cls := .none, data := .fields #[] } := fun b h => by
    obtain ⟨p, hp, rfl⟩ := List.mem_map.mp h
    exact tO p hp
  have inT : ∀ p ∈ cs, p.2 ∈ cs.map (·.2) := fun p hp => List.mem_map_of_mem hp
  have sT : scrA ∉ cs.map (·.2) := fun h => by
    have q := tabO _ h
    rw [sO] at q
    simp at q
  obtain ⟨H, hH⟩ : ∃ H, H = tellS K (cs.map (·.2)) scrA { cls := .type "list", data := .seq us.toArray } (zs.map V.int) := ⟨_, rfl⟩
  have Ht : ∀ p ∈ cs, H p.2 = some (.tbl #[]) := fun p hp => by rw [hH]; exact tellS_t (inT p hp)
  have Hs : SqL K H scrA (zs.map V.int) := by
    cases hk : K.lookup scrA with
    | none => exact .inl (.inr ⟨_, by rw [hH]; exact tellS_s sT hk⟩)
    | some o =>
      have q := KX scrA o hk
      rw [sO] at q
      cases q
      refine .inr ⟨_, us.toArray, _, hk, rfl, rfl, rfl, ?_, by simpa using rv⟩
      rw [List.size_toArray, sI.length]
      exact sL
  have ok0 : HOk P w H s1.heap := fun b u hb => by
    rw [hH] at hb
    rcases tellS_cases hb with ⟨h1, rfl⟩ | ⟨_, rfl, _, rfl⟩
    · exact tabO b h1
    · exact ⟨sO, by simpa using sL, us, _, rv, sO⟩
  have off : ∀ {b : Addr} {o : Obj}, s1.heap.get? b = some o → (∀ l n, o.data ≠ .seq l n) → o.data ≠ .fields #[] → H b = none := fun {b o} e n1 n2 => by
    cases hb : H b with
    | none => rfl
    | some u =>
      exfalso
      rw [hH] at hb
      rcases tellS_cases hb with ⟨h1, _⟩ | ⟨_, rfl, _, _⟩
      · rw [tabO b h1] at e
        cases e
        exact n2 rfl
      · rw [sO] at e
        cases e
        exact n1 _ _ rfl
  have lift : ∀ {b : Addr} {m : Str → Option Value}, s1.heap.Ns b m → (hidT s1.heap H).Ns b m := fun {b m} q => by
    obtain ⟨o, es, ep, e, d, rest⟩ := q
    refine ⟨o, es, ep, hidT_get e (off e (fun l n z => ?_) fun z => ?_), d, rest⟩ <;> exact absurd (d.symm.trans z) (by simp)
  have KB : K.In (hidT s1.heap H) := fun b o e => by
    refine hidT_get (KX b o e) ?_
    cases hb : H b with
    | none => rfl
    | some u =>
      exfalso
      rw [hH] at hb
      rcases tellS_cases hb with ⟨h1, _⟩ | ⟨_, rfl, h2, _⟩
      · obtain ⟨p, hp, rfl⟩ := List.mem_map.mp h1
        rw [tK p hp] at e
        cases e
      · rw [h2] at e
        cases e
  have MB : L2.Mod K mg (hidT s1.heap H) := by
    refine ⟨KB, lift gG, ⟨mb, lift gB, gN⟩, ?_⟩
    obtain ⟨mc, l1, l2⟩ := lim
    exact ⟨mc, lift l1, l2⟩
  have TB : ∀ p ∈ cs, LamX.TabB (hidT s1.heap H) mg p.1 p.2 := fun p hp => by
    obtain ⟨oG, esG, epG, eG, dG, _⟩ := gG
    constructor
    · obtain ⟨o, fs, file, tf, flags, tg, inF, text, tt, e1, r1, r2, r3, r⟩ := tC p hp
      refine ⟨o, fs, file, tf, flags, tg, inF, text, tt, hidT_get e1 (off e1 (fun l n z => absurd (r2.symm.trans z) (by simp)) fun z => ?_), r1, r2, r3, r⟩
      rw [r2] at z
      cases z
      simp at r3
    · obtain ⟨bm, ob, b1, b2, b3, b4, b5, b6⟩ := bmod
      have p1 : ∀ l n, ob.data ≠ .seq l n := fun l n z => absurd (b6.symm.trans z) (by simp)
      have p2 : ob.data ≠ .fields #[] := fun z => absurd (b6.symm.trans z) (by simp)
      refine ⟨bm, ob, b1, b2, fun q => ?_, fun q => ?_, hidT_get b3 (off b3 p1 p2), b4, b5, b6⟩
      · rw [q, eG] at b3
        cases b3
        rw [dG] at b6
        cases b6
      · rw [q, tO p hp] at b3
        cases b3
        cases b6
    · intro q
      rw [q, tO p hp] at eG
      cases eG
      cases dG
  have E0 : Env0 P w K mg (hidT s1.heap H) callerA [] s1 H := ⟨rfl, MB, fun b o e => of_hidT e, Nat.le_of_eq (hidT_size _ _), trivial, fun b hb => (by cases hb), ok0, .of_eq gens⟩
  have run := (F _ KB (lift gG) TB).go callerA [] s1 H ⟨[.ref scrA], []⟩ [.ref scrA] [.ref scrA] _ _ room E0 (bind1 s1 (.ref scrA)) (.cons rfl .nil) (told H Ht Hs)
  refine codeAny_mono run fun r s2 hr => ?_
  match r, hr with
  | .error e, hr => exact (noE H e s2 hr).elim
  | .ok .next, hr => exact (show False from hr).elim
  | .ok .brk, hr => exact (show False from hr).elim
  | .ok .cont, hr => exact (show False from hr).elim
  | .ok (.ret u), hr =>
    obtain ⟨v, H2, os2, bare2, un, ok2, ru, hv⟩ := hr
    have hv : v = .bl true := hv
    subst hv
    cases ru
    have same : ∀ b o, b ∉ cs.map (·.2) → s1.heap.get? b = some o → s2.heap.get? b = some o := fun b o nb e => by
      cases hb : H b with
      | none => exact un.keep b o e hb (fun z => by cases z) (by simp)
      | some u =>
        have hb' := hb
        rw [hH] at hb'
        rcases tellS_cases hb' with ⟨h1, _⟩ | ⟨_, rfl, _, rfl⟩
        · exact absurd h1 nb
        · have g1 := (ok0 b _ hb).1
          have g2 := (ok2 b _ (un.frzs b _ _ hb)).1
          rw [e] at g1
          cases g1
          exact g2
    have tabs2 : ∀ p ∈ cs, ∃ l : Array Value, s2.heap.get? p.2 = some { cls := .none, data := .fields l } := fun p hp => by
      obtain ⟨l, z⟩ := un.tbls p.2 #[] (Ht p hp)
      exact ⟨_, ok2 p.2 _ z⟩
    refine ⟨rfl, ⟨fun b o e => ?_, fun b o e => ?_⟩, os2, bare2⟩
    · by_cases hb : b ∈ cs.map (·.2)
      · obtain ⟨p, hp, rfl⟩ := List.mem_map.mp hb
        obtain ⟨l, hl⟩ := tabs2 p hp
        rw [tO p hp] at e
        cases e
        refine .inr (.inl ⟨((tC p hp).tab (tO p hp)).isCodeTable, rfl, #[], l, rfl, ?_⟩)
        rw [Array.empty_append]
        exact hl
      · exact .inl (same b o hb e)
    · by_cases hb : b ∈ cs.map (·.2)
      · obtain ⟨p, hp, rfl⟩ := List.mem_map.mp hb
        obtain ⟨l, hl⟩ := tabs2 p hp
        exact ⟨_, hl⟩
      · exact ⟨o, same b o hb e⟩
/-- what the law's promise is, at a heap -/
def LawAtG (l : PySem.W.OpenLaw) (w : World) (K : PySem.W.Frag) (k n : Nat) (x : Str) (mg : Str → Option Value) (fa : Addr) (h : Heap) : Prop :=
  ∃ (fd : FuncData) (cs : List (Addr × Addr)) (sp : Sp), (∀ p ∈ cs, h.get? p.2 = some { cls := .none, data := .fields #[] }) ∧ (∀ p ∈ cs, K.lookup p.2 = none) ∧ (∀ p ∈ cs, PySem.W.CodeHd h p.1 p.2) ∧
    (∀ (s : Shared) (u : Value), BindsTo s fd ⟨[u], []⟩ [(x, u)]) ∧
    (∀ (H : Hp) (a : Addr) (ns : List Int), ns.length ≤ n → (∀ z ∈ ns, Builtin.Int.intBits z ≤ 1048576) → (∀ p ∈ cs, H p.2 = some (.tbl #[])) → SqL K H a (ns.map V.int) →
      sp [.ref a] H (fun v _ => v = .bl true) fun _ _ _ => False) ∧
    (∀ base : Heap, K.In base → base.Ns mainGlobals mg → (∀ p ∈ cs, LamX.TabB base mg p.1 p.2) → FnG l.prog w K mg base (L2.CX l.prog w) k fa fd [x] sp)
/-- the law's promise, from the plain law -/
theorem law_at {t : TX} {fuel lv n f : Nat} {fns : List Fn} {l : PySem.W.OpenLaw} {w : World} {K : PySem.W.Frag} {mg : Str → Option Value} {fa : Addr} {h : Heap} (KX : K.In h) (G : h.Ns mainGlobals mg) (nl : NoL K) (c : He.SaysD t.fa t.fn K) (m : t.more K = true) (tb : ∀ x ∈ t.lams, TabF K h x)
    (ok : TDsOk t.nm fuel t.tds fns) {x : Str} {d : TD} (hd : t.tds[f]? = some d) (ha : d.act.isNone = true) (hx : d.ps = [x]) (hmg : mg d.x = some (.ref fa))
    (plain : ∀ ns : List Int, ns.length ≤ n → (∀ z ∈ ns, Builtin.Int.intBits z ≤ 1048576) → ∃ s, callF (fun i => fns[i]?) (lv + 1) f [scr ns] [] = .ok (.p (.bl true)) s) :
    LawAtG l w K (lv + 1) n x mg fa h := by
  have Gl := glob_of KX G c m
  have dk := defs_of c ok
  have lk := lams_of KX G c ok
  have TI := tabsIn_of m
  have hm : d ∈ t.tds := List.mem_of_getElem? hd
  have efa : fa = He.ga K d.x := by
    have := He.glo_ok KX G (fact c (fa_def hm))
    rw [hmg] at this
    cases this
    rfl
  subst efa
  obtain ⟨fd, F', da⟩ := def_of c ok hd ha
  obtain ⟨fn, e1, o⟩ := ok.at hd
  have BA := F'.bindsA o.bd
  refine ⟨fd, t.lams.map fun x => He.cT K (x, none), spC (t.Z K) (callF (fun i => fns[i]?) (lv + 1)) f 1, fun p hp => ?_, fun p hp => ?_, fun p hp => ?_, fun s u => ?_, fun H a ns hn hb hT hS => ?_, fun base KB GB TB => ?_⟩
  · obtain ⟨y, hy, rfl⟩ := List.mem_map.mp hp
    exact (tb y hy).empty
  · obtain ⟨y, hy, rfl⟩ := List.mem_map.mp hp
    exact (tb y hy).out
  · obtain ⟨y, hy, rfl⟩ := List.mem_map.mp hp
    exact PySem.W.codeHd_of_K KX (tb y hy).hd
  · have := BA s [u] (by rw [hx] <;> rfl)
    rw [hx] at this
    exact this
  · obtain ⟨s, e⟩ := plain ns hn hb
    have hr := nl.rd hS
    refine ⟨rfl, [scr ns], [], ⟨[], fun b => b = a, fun _ => False⟩, ⟨rfl, fun l a o h1 _ => by simp at h1, fun l l' a h1 => by simp at h1, fun b hb => ?_, fun b hb => hb.elim, fun p hp => ?_⟩, .cons (.lst ⟨rfl, hr⟩ (BrL.of_ints ns)) .nil, ?_⟩
    · have hb : b = a := hb
      subst hb
      rcases hr with hr | ⟨o, hr⟩
      · exact ⟨_, hr, fun ps z => by cases z⟩
      · exact ⟨_, hr, fun ps z => by cases z⟩
    · have hp : p ∈ t.lams.map fun x => (tabAd K x, lamQ x) := hp
      obtain ⟨y, hy, rfl⟩ := List.mem_map.mp hp
      exact LamX.TabS.nil (hT (He.cT K (y, none)) (List.mem_map.mpr ⟨y, hy, rfl⟩))
    · rw [e]
      intro b wd' H' x rs rb
      cases rb
      rfl
  · have Fk := fn_all (P := l.prog) (w := w) (base := base) Gl dk lk TI (fun y hy => TB (He.cT K (y, none)) (List.mem_map.mpr ⟨y, hy, rfl⟩)) da lv
    rw [hx] at Fk
    exact Fk
/-- the end -/
theorem law_walk {t : TX} {fuel lv n f N0 : Nat} {fns : List Fn} {l : PySem.W.OpenLaw} {q : Program} {loose : List Str} {XP : (Str → Option Value) → Heap → Prop} {dr : DefRec} (hn : l.most = some n) (hn2 : n ≤ sizeLine) (hdf : dr.params.defaults = []) (hr : Room (lv + 1) callerA)
    (ok : TDsOk t.nm fuel t.tds fns) {x : Str} {d : TD} (hd : t.tds[f]? = some d) (ha : d.act.isNone = true) (hx : d.ps = [x]) (hnm : dr.name = d.x)
    (plain : ∀ ns : List Int, ns.length ≤ n → (∀ z ∈ ns, Builtin.Int.intBits z ≤ 1048576) → ∃ s, callF (fun i => fns[i]?) (lv + 1) f [scr ns] [] = .ok (.p (.bl true)) s) :
    PySem.W.WalkO q loose XP (hookN N0 t).says l.row.toRowW dr [] (fun f vs => PySem.call f vs) := by
  refine Att.attach_callB hn hdf fun w s0 s1 mg mb fa o pm cd doc a vs ns G Y ho hd' hcd hmg hobj hints hlen hbits hg => ?_
  obtain ⟨K, KX, nl, c, m, tb⟩ := Y
  obtain ⟨fd, cs, sp, q1, q2, q3, q4, q5, q6⟩ := law_at (l := l) (w := w) (lv := lv) KX G.T.g nl c m tb ok hd ha hx (by rw [← hnm]; exact hmg) plain
  refine law_callG KX G.T.g G.T.b G.T.builtins G.T.nolimit hg q1 q2 q3 G.T.bmain hobj hints (Nat.le_trans hlen hn2) ⟨hr, rfl⟩ q6 q4 (fun H t1 t2 => q5 H a ns hlen hbits t1 t2) fun H e s' z => ?_
  obtain ⟨_, _, _, _, _, _, _, _, _, _, _, _, z⟩ := z
  exact z
end EV
end
section
namespace K07
open PySem PySem.Spec PyProof.Rows L2 EV
def top (i : Nat) : Stmt := (PySem.Challenge.pw_carrycurve_k07_whole_times_and_copies).main.body.getD i (.Pass ⟨0, 0, 0, 0⟩)
def ix_is_int : Nat := 0
def ix_is_within : Nat := 1
def ix_is_ints : Nat := 2
def ix_is_pair : Nat := 3
def ix_is_lane : Nat := 4
def ix_is_times : Nat := 5
def ix_check_times : Nat := 6
def ix_lesser : Nat := 7
def ix_is_endless : Nat := 8
def ix_is_leaf : Nat := 9
def ix_parts_of : Nat := 10
def ix_has_form : Nat := 11
def ix_is_plan : Nat := 12
def ix_check_plan : Nat := 13
def ix_is_one : Nat := 14
def ix_is_step : Nat := 15
def ix_is_steps : Nat := 16
def ix_is_end : Nat := 17
def ix_is_stair : Nat := 18
def ix_check_stair : Nat := 19
def ix_put_together : Nat := 20
def ix_sided : Nat := 21
def ix_beside : Nat := 22
def ix_stretches : Nat := 23
def ix_less_by : Nat := 24
def ix_rowed : Nat := 25
def ix_in_row : Nat := 26
def ix_repeated : Nat := 27
def ix_times : Nat := 28
def ix_copied : Nat := 29
def ix_copies : Nat := 30
def ix_lane_stair : Nat := 31
def ix_joined_by : Nat := 32
def ix_stair_in : Nat := 33
def ix_stair_of : Nat := 34
def ix_by_twelve : Nat := 35
def ix_form_of : Nat := 36
def ix_beside_form : Nat := 37
def ix__law_hand : Nat := 38
def ix__law_draw : Nat := 39
def ix__law_any : Nat := 40
def ix__law_is : Nat := 41
def ix__law_merged : Nat := 42
def ix__law_stair : Nat := 43
def ix__law_word : Nat := 44
def ix__law_times : Nat := 45
def ix__law_copies : Nat := 46
def ix__law_is_right : Nat := 47
def ix__law_are_plans_right : Nat := 48
def ix_law : Nat := 49
def cl_CarryError : Nat := 0
@[simp] theorem cl_CarryError_eq : cl_CarryError = 0 := rfl
def cl_BadPlan : Nat := 1
@[simp] theorem cl_BadPlan_eq : cl_BadPlan = 1 := rfl
def cl_BadStair : Nat := 2
@[simp] theorem cl_BadStair_eq : cl_BadStair = 2 := rfl
def cl_NoNumber : Nat := 3
@[simp] theorem cl_NoNumber_eq : cl_NoNumber = 3 := rfl
def c_is_int : Fn := ⟨1, 1, false,
    (sSeq (sRet (eAnd (eIsi (eVar 0) .int) (eNot (eIsi (eVar 0) .bool))))
    sSkip)⟩
def d_is_int : TD := ⟨"is_int", ["thing"], ["thing"], [], false, false, none, top 8⟩
def c_is_within : Fn := ⟨3, 3, false,
    (sSeq (sRet (eAnd (eCall ix_is_int (aCons (eVar 0) aNil)) (eChain .le .le (eVar 1) (eVar 0) (eVar 2))))
    sSkip)⟩
def d_is_within : TD := ⟨"is_within", ["thing", "least", "greatest"], ["thing", "least", "greatest"], [], false, false, none, top 9⟩
def c_is_ints : Fn := ⟨1, 2, false,
    (sSeq (sRet (eAnd (eIsi (eVar 0) .tuple) (eB1 .all (eLc (wSeq (eVar 0)) [1] (gN 1) tYes (eCall ix_is_int (aCons (eVar 1) aNil))))))
    sSkip)⟩
def d_is_ints : TD := ⟨"is_ints", ["thing"], ["thing", "part"], [], false, false, none, top 10⟩
def c_is_pair : Fn := ⟨1, 1, false,
    (sSeq (sRet (eAnd (eCall ix_is_ints (aCons (eVar 0) aNil)) (eCmp .eq (eB1 .len (eVar 0)) (eC (.int 2)))))
    sSkip)⟩
def d_is_pair : TD := ⟨"is_pair", ["thing"], ["thing"], [], false, false, none, top 11⟩
def c_is_lane : Fn := ⟨1, 1, false,
    (sSeq (sRet (eAnd (eCall ix_is_pair (aCons (eVar 0) aNil)) (eAnd (eChain .le .lt (eC (.int 1)) (eIx (eVar 0) (eC (.int 0))) (eC (.int 1000000000000))) (eChain .le .lt (eC (.int 0)) (eIx (eVar 0) (eC (.int 1))) (eC (.int 1000000000000))))))
    sSkip)⟩
def d_is_lane : TD := ⟨"is_lane", ["thing"], ["thing"], [], false, false, none, top 12⟩
def c_is_times : Fn := ⟨1, 1, false,
    (sSeq (sRet (eCall ix_is_within (aCons (eVar 0) (aCons (eC (.int 1)) (aCons (eC (.int 1000000000000000000000000000000)) aNil)))))
    sSkip)⟩
def d_is_times : TD := ⟨"is_times", ["thing"], ["thing"], [], false, false, none, top 13⟩
def c_check_times : Fn := ⟨1, 1, false,
    (sSeq (sIf (tNot (tV (eCall ix_is_times (aCons (eVar 0) aNil)))) (sSeq (sRaise cl_NoNumber)
    sSkip) sSkip)
    sSkip)⟩
def d_check_times : TD := ⟨"check_times", ["thing"], ["thing"], [], false, false, none, top 14⟩
def c_lesser : Fn := ⟨2, 2, false,
    (sSeq (sIf (tOr (tCmp .isn (eVar 0) (eC .non)) (tCmp .isn (eVar 1) (eC .non))) (sSeq (sRet (eIf (tCmp .isn (eVar 0) (eC .non)) (eVar 1) (eVar 0)))
    sSkip) sSkip)
    (sSeq (sRet (eB2 .min (eVar 0) (eVar 1)))
    sSkip))⟩
def d_lesser : TD := ⟨"lesser", ["one", "other"], ["one", "other"], [], false, false, none, top 15⟩
def c_is_endless : Fn := ⟨1, 1, false,
    (sSeq (sIf (tOr (tNot (tV (eIsi (eVar 0) .tuple))) (tOr (tCmp .ne (eB1 .len (eVar 0)) (eC (.int 2))) (tNot (tV (eIsi (eIx (eVar 0) (eC (.int 0))) .str))))) (sSeq (sRet (eC (.bl false)))
    sSkip) sSkip)
    (sSeq (sRet (eAnd (eCmp .eq (eIx (eVar 0) (eC (.int 0))) (eC (.str "endless"))) (eCall ix_is_within (aCons (eIx (eVar 0) (eC (.int 1))) (aCons (eC (.int 1)) (aCons (eOp subP (eC (.int 1000000000000)) (eC (.int 1))) aNil))))))
    sSkip))⟩
def d_is_endless : TD := ⟨"is_endless", ["thing"], ["thing"], [], false, false, none, top 27⟩
def c_is_leaf : Fn := ⟨1, 1, false,
    (sSeq (sRet (eOr (eCall ix_is_lane (aCons (eVar 0) aNil)) (eCall ix_is_endless (aCons (eVar 0) aNil))))
    sSkip)⟩
def d_is_leaf : TD := ⟨"is_leaf", ["thing"], ["thing"], [], false, false, none, top 28⟩
def c_parts_of : Fn := ⟨2, 2, false,
    (sSeq (sIf (tOr (tNot (tV (eIsi (eVar 0) .tuple))) (tOr (tCmp .eq (eB1 .len (eVar 0)) (eC (.int 0))) (tNot (tV (eIsi (eIx (eVar 0) (eC (.int 0))) .str))))) (sSeq (sRet (eC .non))
    sSkip) sSkip)
    (sSeq (sIf (tAnd (tCmp .inn (eIx (eVar 0) (eC (.int 0))) (eC (.tup [(.str "times"), (.str "copies")]))) (tAnd (tCmp .eq (eB1 .len (eVar 0)) (eC (.int 3))) (tV (eCall ix_is_times (aCons (eIx (eVar 0) (eC (.int 1))) aNil))))) (sSeq (sRet (eTup (aCons (eIx (eVar 0) (eC (.int 2))) aNil)))
    sSkip) sSkip)
    (sSeq (sIf (tAnd (tCmp .inn (eIx (eVar 0) (eC (.int 0))) (eVar 1)) (tAnd (tCmp .eq (eB1 .len (eVar 0)) (eC (.int 2))) (tAnd (tV (eIsi (eIx (eVar 0) (eC (.int 1))) .tuple)) (tChain .le .le (eC (.int 1)) (eB1 .len (eIx (eVar 0) (eC (.int 1)))) (eC (.int 12)))))) (sSeq (sRet (eIx (eVar 0) (eC (.int 1))))
    sSkip) sSkip)
    (sSeq (sRet (eC .non))
    sSkip))))⟩
def d_parts_of : TD := ⟨"parts_of", ["thing", "words"], ["thing", "words"], [], false, false, none, top 29⟩
def c_has_form : Fn := ⟨3, 9, false,
    (sSeq (sPar (aCons (eLst (aCons (eTup (aCons (eVar 0) (aCons (eC (.int 1)) aNil))) aNil)) (aCons (eC (.int 0)) aNil)) [(gN 3), (gN 4)])
    (sSeq (sWhile (tCmp .gt (eB1 .len (eVar 3)) (eC (.int 0))) (sSeq (sAsg (eTup (aCons (eIx (eVar 3) (eNeg (eC (.int 1)))) (aCons (eSl (eVar 3) oNone (oSome (eNeg (eC (.int 1))))) aNil))) (gTup [(gTup [(gN 5), (gN 6)]), (gN 3)]))
    (sSeq (sAug 4 (eC (.int 1)) iaddP)
    (sSeq (sIf (tOr (tCmp .gt (eVar 4) (eC (.int 150))) (tCmp .gt (eVar 6) (eC (.int 16)))) (sSeq (sRet (eC (.bl false)))
    sSkip) sSkip)
    (sSeq (sIf (tNot (tV (eCallV 1 (aCons (eVar 5) aNil)))) (sSeq (sAsg (eCall ix_parts_of (aCons (eVar 5) (aCons (eVar 2) aNil))) (gN 7))
    (sSeq (sIf (tCmp .isn (eVar 7) (eC .non)) (sSeq (sRet (eC (.bl false)))
    sSkip) sSkip)
    (sSeq (sAsg (eOp addP (eVar 3) (eLc (wSeq (eVar 7)) [8] (gN 8) tYes (eTup (aCons (eVar 8) (aCons (eOp addP (eVar 6) (eC (.int 1))) aNil))))) (gN 3))
    sSkip))) sSkip)
    sSkip)))))
    (sSeq (sRet (eC (.bl true)))
    sSkip)))⟩
def d_has_form : TD := ⟨"has_form", ["thing", "is_own_leaf", "words"], ["thing", "is_own_leaf", "words", "waiting", "size", "one", "depth", "parts", "part"], [], false, false, none, top 30⟩
def c_is_plan : Fn := ⟨1, 1, false,
    (sSeq (sRet (eCall ix_has_form (aCons (eVar 0) (aCons (eC (.fn ix_is_leaf)) (aCons (eC (.tup [(.str "row"), (.str "beside")])) aNil)))))
    sSkip)⟩
def d_is_plan : TD := ⟨"is_plan", ["thing"], ["thing"], [], false, false, none, top 31⟩
def c_check_plan : Fn := ⟨1, 1, false,
    (sSeq (sIf (tNot (tV (eCall ix_is_plan (aCons (eVar 0) aNil)))) (sSeq (sRaise cl_BadPlan)
    sSkip) sSkip)
    sSkip)⟩
def d_check_plan : TD := ⟨"check_plan", ["plan"], ["plan"], [], false, false, none, top 32⟩
def c_is_one : Fn := ⟨1, 1, false,
    (sSeq (sRet (eAnd (eCmp .eq (eB1 .len (eVar 0)) (eC (.int 2))) (eOr (eCmp .eq (eIx (eVar 0) (eC (.int 0))) (eC (.str "endless"))) (eNot (eIsi (eIx (eVar 0) (eC (.int 0))) .str)))))
    sSkip)⟩
def d_is_one : TD := ⟨"is_one", ["plan"], ["plan"], [], false, false, none, top 33⟩
def c_is_step : Fn := ⟨1, 1, false,
    (sSeq (sRet (eAnd (eCall ix_is_pair (aCons (eVar 0) aNil)) (eAnd (eCmp .ge (eIx (eVar 0) (eC (.int 0))) (eC (.int 1))) (eCmp .ge (eIx (eVar 0) (eC (.int 1))) (eC (.int 0))))))
    sSkip)⟩
def d_is_step : TD := ⟨"is_step", ["thing"], ["thing"], [], false, false, none, top 35⟩
def c_is_steps : Fn := ⟨1, 2, false,
    (sSeq (sRet (eAnd (eIsi (eVar 0) .tuple) (eB1 .all (eLc (wSeq (eVar 0)) [1] (gN 1) tYes (eCall ix_is_step (aCons (eVar 1) aNil))))))
    sSkip)⟩
def d_is_steps : TD := ⟨"is_steps", ["thing"], ["thing", "step"], [], false, false, none, top 36⟩
def c_is_end : Fn := ⟨1, 1, false,
    (sSeq (sRet (eOr (eCmp .isn (eVar 0) (eC .non)) (eAnd (eCall ix_is_int (aCons (eVar 0) aNil)) (eCmp .ge (eVar 0) (eC (.int 1))))))
    sSkip)⟩
def d_is_end : TD := ⟨"is_end", ["thing"], ["thing"], [], false, false, none, top 37⟩
def c_is_stair : Fn := ⟨1, 5, false,
    (sSeq (sIf (tOr (tNot (tV (eIsi (eVar 0) .tuple))) (tOr (tCmp .ne (eB1 .len (eVar 0)) (eC (.int 2))) (tOr (tNot (tV (eCall ix_is_steps (aCons (eIx (eVar 0) (eC (.int 0))) aNil)))) (tNot (tV (eCall ix_is_end (aCons (eIx (eVar 0) (eC (.int 1))) aNil))))))) (sSeq (sRet (eC (.bl false)))
    sSkip) sSkip)
    (sSeq (sAsg (eVar 0) (gTup [(gN 1), (gN 2)]))
    (sSeq (sIf (tNot (tV (eB1 .all (eLc (wZip (eVar 1) (eSl (eVar 1) (oSome (eC (.int 1))) oNone)) [3, 4] (gTup [(gN 3), (gN 4)]) tYes (eCmp .lt (eIx (eVar 3) (eC (.int 1))) (eIx (eVar 4) (eC (.int 1)))))))) (sSeq (sRet (eC (.bl false)))
    sSkip) sSkip)
    (sSeq (sIf (tCmp .eq (eB1 .len (eVar 1)) (eC (.int 0))) (sSeq (sRet (eCmp .notn (eVar 2) (eC .non)))
    sSkip) sSkip)
    (sSeq (sRet (eOr (eCmp .isn (eVar 2) (eC .non)) (eCmp .gt (eVar 2) (eIx (eIx (eVar 1) (eNeg (eC (.int 1)))) (eC (.int 1))))))
    sSkip)))))⟩
def d_is_stair : TD := ⟨"is_stair", ["thing"], ["thing", "steps", "end", "one", "other"], [], false, false, none, top 38⟩
def c_check_stair : Fn := ⟨1, 1, false,
    (sSeq (sIf (tNot (tV (eCall ix_is_stair (aCons (eVar 0) aNil)))) (sSeq (sRaise cl_BadStair)
    sSkip) sSkip)
    sSkip)⟩
def d_check_stair : TD := ⟨"check_stair", ["stair"], ["stair"], [], false, false, none, top 39⟩
def c_put_together : Fn := ⟨2, 5, false,
    (sSeq (sAsg eDctM (gN 2))
    (sSeq (sFor (wSeq (eVar 0)) (gTup [(gN 3), (gN 4)]) (sSeq (sIf (tOr (tCmp .isn (eVar 1) (eC .non)) (tCmp .lt (eVar 4) (eVar 1))) (sSeq (sAsg (eOp addP (eDget2 (eVar 2) (eVar 4) (eC (.int 0))) (eVar 3)) (gSub (eVar 2) (eVar 4)))
    sSkip) sSkip)
    sSkip))
    (sSeq (sRet (eTup (aCons (eB1 .tuple (eLc (wSeq (eB1 .sorted (eB1 .list (eVar 2)))) [4] (gN 4) tYes (eTup (aCons (eIx (eVar 2) (eVar 4)) (aCons (eVar 4) aNil))))) (aCons (eVar 1) aNil))))
    sSkip)))⟩
def d_put_together : TD := ⟨"put_together", ["steps", "end"], ["steps", "end", "found", "amount", "toll"], ["found"], false, false, none, top 40⟩
def c_sided : Fn := ⟨2, 2, false,
    (sSeq (sRet (eCall ix_put_together (aCons (eOp addP (eIx (eVar 0) (eC (.int 0))) (eIx (eVar 1) (eC (.int 0)))) (aCons (eCall ix_lesser (aCons (eIx (eVar 0) (eC (.int 1))) (aCons (eIx (eVar 1) (eC (.int 1))) aNil))) aNil))))
    sSkip)⟩
def d_sided : TD := ⟨"sided", ["one", "other"], ["one", "other"], [], false, false, none, top 42⟩
def c_beside : Fn := ⟨2, 2, false,
    (sSeq (sExpr (eCall ix_check_stair (aCons (eVar 0) aNil)))
    (sSeq (sExpr (eCall ix_check_stair (aCons (eVar 1) aNil)))
    (sSeq (sRet (eCall ix_sided (aCons (eVar 0) (aCons (eVar 1) aNil))))
    sSkip)))⟩
def d_beside : TD := ⟨"beside", ["one", "other"], ["one", "other"], [], false, false, none, top 43⟩
def c_stretches : Fn := ⟨1, 1, false,
    (sSeq (sRet (eOp addP (eB1 .list (eIx (eVar 0) (eC (.int 0)))) (eIf (tCmp .notn (eIx (eVar 0) (eC (.int 1))) (eC .non)) (eLst (aCons (eTup (aCons (eC .non) (aCons (eIx (eVar 0) (eC (.int 1))) aNil))) aNil)) (eLst aNil))))
    sSkip)⟩
def d_stretches : TD := ⟨"stretches", ["stair"], ["stair"], [], false, false, none, top 44⟩
def c_less_by : Fn := ⟨2, 2, false,
    (sSeq (sRet (eIf (tCmp .isn (eVar 0) (eC .non)) (eC .non) (eOp subP (eVar 0) (eVar 1))))
    sSkip)⟩
def d_less_by : TD := ⟨"less_by", ["amount", "part"], ["amount", "part"], [], false, false, none, top 45⟩
def c_rowed : Fn := ⟨2, 10, false,
    (sSeq (sPar (aCons (eCall ix_stretches (aCons (eVar 0) aNil)) (aCons (eCall ix_stretches (aCons (eVar 1) aNil)) (aCons (eLstM aNil) aNil))) [(gN 2), (gN 3), (gN 4)])
    (sSeq (sWhile (tAnd (tCmp .gt (eB1 .len (eVar 2)) (eC (.int 0))) (tCmp .gt (eB1 .len (eVar 3)) (eC (.int 0)))) (sSeq (sAsg (eTup (aCons (eIx (eVar 2) (eC (.int 0))) (aCons (eIx (eVar 3) (eC (.int 0))) aNil))) (gTup [(gTup [(gN 5), (gN 6)]), (gTup [(gN 7), (gN 8)])]))
    (sSeq (sAsg (eCall ix_lesser (aCons (eVar 5) (aCons (eVar 7) aNil))) (gN 9))
    (sSeq (sIf (tCmp .isn (eVar 9) (eC .non)) (sSeq (sRet (eTup (aCons (eB1 .tuple (eVar 4)) (aCons (eOp addP (eVar 6) (eVar 8)) aNil))))
    sSkip) sSkip)
    (sSeq (sExpr (eApp (eVar 4) (eTup (aCons (eVar 9) (aCons (eOp addP (eVar 6) (eVar 8)) aNil)))))
    (sSeq (sPar (aCons (eOp addP (eLst (aCons (eTup (aCons (eCall ix_less_by (aCons (eVar 5) (aCons (eVar 9) aNil))) (aCons (eVar 6) aNil))) aNil)) (eSl (eVar 2) (oSome (eC (.int 1))) oNone)) (aCons (eOp addP (eLst (aCons (eTup (aCons (eCall ix_less_by (aCons (eVar 7) (aCons (eVar 9) aNil))) (aCons (eVar 8) aNil))) aNil)) (eSl (eVar 3) (oSome (eC (.int 1))) oNone)) aNil)) [(gN 2), (gN 3)])
    (sSeq (sAsg (eIf (tCmp .eq (eIx (eIx (eVar 2) (eC (.int 0))) (eC (.int 0))) (eC (.int 0))) (eSl (eVar 2) (oSome (eC (.int 1))) oNone) (eVar 2)) (gN 2))
    (sSeq (sAsg (eIf (tCmp .eq (eIx (eIx (eVar 3) (eC (.int 0))) (eC (.int 0))) (eC (.int 0))) (eSl (eVar 3) (oSome (eC (.int 1))) oNone) (eVar 3)) (gN 3))
    sSkip))))))))
    (sSeq (sRet (eTup (aCons (eB1 .tuple (eVar 4)) (aCons (eC .non) aNil))))
    sSkip)))⟩
def d_rowed : TD := ⟨"rowed", ["one", "other"], ["one", "other", "mine", "its", "found", "amount", "toll", "room", "more", "part"], ["found"], false, false, none, top 46⟩
def c_in_row : Fn := ⟨2, 2, false,
    (sSeq (sExpr (eCall ix_check_stair (aCons (eVar 0) aNil)))
    (sSeq (sExpr (eCall ix_check_stair (aCons (eVar 1) aNil)))
    (sSeq (sRet (eCall ix_rowed (aCons (eVar 0) (aCons (eVar 1) aNil))))
    sSkip)))⟩
def d_in_row : TD := ⟨"in_row", ["one", "other"], ["one", "other"], [], false, false, none, top 47⟩
def c_repeated : Fn := ⟨2, 5, false,
    (sSeq (sAsg (eIf (tCmp .isn (eIx (eVar 0) (eC (.int 1))) (eC .non)) (eC .non) (eOp mulP (eVar 1) (eIx (eVar 0) (eC (.int 1))))) (gN 2))
    (sSeq (sRet (eTup (aCons (eB1 .tuple (eLc (wSeq (eIx (eVar 0) (eC (.int 0)))) [3, 4] (gTup [(gN 3), (gN 4)]) tYes (eTup (aCons (eVar 3) (aCons (eOp mulP (eVar 1) (eVar 4)) aNil))))) (aCons (eVar 2) aNil))))
    sSkip))⟩
def d_repeated : TD := ⟨"repeated", ["stair", "n"], ["stair", "n", "end", "amount", "toll"], [], false, false, none, top 48⟩
def c_times : Fn := ⟨2, 2, false,
    (sSeq (sExpr (eCall ix_check_stair (aCons (eVar 0) aNil)))
    (sSeq (sExpr (eCall ix_check_times (aCons (eVar 1) aNil)))
    (sSeq (sRet (eCall ix_repeated (aCons (eVar 0) (aCons (eVar 1) aNil))))
    sSkip)))⟩
def d_times : TD := ⟨"times", ["stair", "n"], ["stair", "n"], [], false, false, none, top 49⟩
def c_copied : Fn := ⟨2, 4, false,
    (sSeq (sRet (eTup (aCons (eB1 .tuple (eLc (wSeq (eIx (eVar 0) (eC (.int 0)))) [2, 3] (gTup [(gN 2), (gN 3)]) tYes (eTup (aCons (eOp mulP (eVar 1) (eVar 2)) (aCons (eVar 3) aNil))))) (aCons (eIx (eVar 0) (eC (.int 1))) aNil))))
    sSkip)⟩
def d_copied : TD := ⟨"copied", ["stair", "n"], ["stair", "n", "amount", "toll"], [], false, false, none, top 50⟩
def c_copies : Fn := ⟨2, 2, false,
    (sSeq (sExpr (eCall ix_check_stair (aCons (eVar 0) aNil)))
    (sSeq (sExpr (eCall ix_check_times (aCons (eVar 1) aNil)))
    (sSeq (sRet (eCall ix_copied (aCons (eVar 0) (aCons (eVar 1) aNil))))
    sSkip)))⟩
def d_copies : TD := ⟨"copies", ["stair", "n"], ["stair", "n"], [], false, false, none, top 51⟩
def c_lane_stair : Fn := ⟨1, 1, false,
    (sSeq (sRet (eIf (tCmp .eq (eIx (eVar 0) (eC (.int 0))) (eC (.str "endless"))) (eTup (aCons (eTup aNil) (aCons (eIx (eVar 0) (eC (.int 1))) aNil))) (eTup (aCons (eTup (aCons (eVar 0) aNil)) (aCons (eC .non) aNil)))))
    sSkip)⟩
def d_lane_stair : TD := ⟨"lane_stair", ["plan"], ["plan"], [], false, false, none, top 52⟩
def c_joined_by : Fn := ⟨2, 4, false,
    (sSeq (sAsg (eIx (eVar 1) (eC (.int 0))) (gN 2))
    (sSeq (sFor (wSeq (eSl (eVar 1) (oSome (eC (.int 1))) oNone)) (gN 3) (sSeq (sAsg (eIf (tCmp .eq (eVar 0) (eC (.str "row"))) (eCall ix_rowed (aCons (eVar 2) (aCons (eVar 3) aNil))) (eCall ix_sided (aCons (eVar 2) (aCons (eVar 3) aNil)))) (gN 2))
    sSkip))
    (sSeq (sRet (eVar 2))
    sSkip)))⟩
def d_joined_by : TD := ⟨"joined_by", ["word", "found"], ["word", "found", "best", "one"], [], false, false, none, top 53⟩
def c_stair_in : Fn := ⟨1, 3, false,
    (sSeq (sIf (tV (eCall ix_is_one (aCons (eVar 0) aNil))) (sSeq (sRet (eCall ix_lane_stair (aCons (eVar 0) aNil)))
    sSkip) sSkip)
    (sSeq (sIf (tCmp .eq (eB1 .len (eVar 0)) (eC (.int 3))) (sSeq (sAsg (eCall ix_stair_in (aCons (eIx (eVar 0) (eC (.int 2))) aNil)) (gN 1))
    (sSeq (sRet (eIf (tCmp .eq (eIx (eVar 0) (eC (.int 0))) (eC (.str "times"))) (eCall ix_repeated (aCons (eVar 1) (aCons (eIx (eVar 0) (eC (.int 1))) aNil))) (eCall ix_copied (aCons (eVar 1) (aCons (eIx (eVar 0) (eC (.int 1))) aNil)))))
    sSkip)) sSkip)
    (sSeq (sRet (eCall ix_joined_by (aCons (eIx (eVar 0) (eC (.int 0))) (aCons (eLc (wSeq (eIx (eVar 0) (eC (.int 1)))) [2] (gN 2) tYes (eCall ix_stair_in (aCons (eVar 2) aNil))) aNil))))
    sSkip)))⟩
def d_stair_in : TD := ⟨"stair_in", ["plan"], ["plan", "below", "part"], [], false, false, none, top 54⟩
def c_stair_of : Fn := ⟨1, 1, false,
    (sSeq (sExpr (eCall ix_check_plan (aCons (eVar 0) aNil)))
    (sSeq (sRet (eCall ix_stair_in (aCons (eVar 0) aNil)))
    sSkip))⟩
def d_stair_of : TD := ⟨"stair_of", ["plan"], ["plan"], [], false, false, none, top 55⟩
def c_by_twelve : Fn := ⟨1, 2, false,
    (sSeq (sRet (eLc (wRng3 (eC (.int 0)) (eB1 .len (eVar 0)) (eC (.int 12))) [1] (gN 1) tYes (eTup (aCons (eC (.str "beside")) (aCons (eB1 .tuple (eSl (eVar 0) (oSome (eVar 1)) (oSome (eOp addP (eVar 1) (eC (.int 12)))))) aNil)))))
    sSkip)⟩
def d_by_twelve : TD := ⟨"by_twelve", ["parts"], ["parts", "at"], [], false, false, none, top 57⟩
def c_form_of : Fn := ⟨1, 2, false,
    (sSeq (sAsg (eOp addP (eB1 .list (eIx (eVar 0) (eC (.int 0)))) (eIf (tCmp .notn (eIx (eVar 0) (eC (.int 1))) (eC .non)) (eLst (aCons (eTup (aCons (eC (.str "endless")) (aCons (eIx (eVar 0) (eC (.int 1))) aNil))) aNil)) (eLst aNil))) (gN 1))
    (sSeq (sWhile (tCmp .gt (eB1 .len (eVar 1)) (eC (.int 12))) (sSeq (sAsg (eCall ix_by_twelve (aCons (eVar 1) aNil)) (gN 1))
    sSkip))
    (sSeq (sRet (eIf (tCmp .eq (eB1 .len (eVar 1)) (eC (.int 1))) (eIx (eVar 1) (eC (.int 0))) (eTup (aCons (eC (.str "beside")) (aCons (eB1 .tuple (eVar 1)) aNil)))))
    sSkip)))⟩
def d_form_of : TD := ⟨"form_of", ["stair"], ["stair", "parts"], [], false, false, none, top 58⟩
def c_beside_form : Fn := ⟨1, 2, false,
    (sSeq (sExpr (eCall ix_check_stair (aCons (eVar 0) aNil)))
    (sSeq (sAsg (eCall ix_form_of (aCons (eVar 0) aNil)) (gN 1))
    (sSeq (sExpr (eCall ix_check_plan (aCons (eVar 1) aNil)))
    (sSeq (sRet (eVar 1))
    sSkip))))⟩
def d_beside_form : TD := ⟨"beside_form", ["stair"], ["stair", "found"], [], false, false, none, top 59⟩
def c__law_hand : Fn := ⟨1, 3, true,
    (sSeq (sAsg (eLc (wSeq (eSl (eVar 0) oNone (oSome (eC (.int 63))))) [2] (gN 2) tYes (eB1 .abs (eB1 .int (eVar 2)))) (gN 1))
    (sSeq (sRet (eLstM (aCons (eVar 1) (aCons (eC (.int 0)) (aCons (eC (.int 0)) (aCons (eOp addP (eC (.int 743)) (eOp mulP (eC (.int 29)) (eB1 .len (eVar 1)))) (aCons (eC (.int 0)) aNil)))))))
    sSkip))⟩
def d__law_hand : TD := ⟨"_law_hand", ["script"], ["script", "cells", "cell"], [], true, false, none, top 61⟩
def c__law_draw : Fn := ⟨2, 5, false,
    (sSeq (sIf (tAnd (tCmp .eq (eIx (eVar 0) (eC (.int 2))) (eC (.int 0))) (tCmp .lt (eIx (eVar 0) (eC (.int 1))) (eB1 .len (eIx (eVar 0) (eC (.int 0)))))) (sSeq (sAsg (eIx (eIx (eVar 0) (eC (.int 0))) (eIx (eVar 0) (eC (.int 1)))) (gN 2))
    (sSeq (sAsg (eOp addP (eIx (eVar 0) (eC (.int 1))) (eC (.int 1))) (gSub (eVar 0) (eC (.int 1))))
    (sSeq (sAsg (eOp modP (eB1 .int (eOp addP (eOp addP (eOp mulP (eIx (eVar 0) (eC (.int 3))) (eC (.int 69621))) (eOp mulP (eVar 2) (eC (.int 48271)))) (eC (.int 29)))) (eC (.int 2147483629))) (gSub (eVar 0) (eC (.int 3))))
    (sSeq (sIf (tCmp .ge (eVar 2) (eOp powP (eC (.int 10)) (eC (.int 18)))) (sSeq (sAsg (eVar 2) (gSub (eVar 0) (eC (.int 2))))
    sSkip) sSkip)
    sSkip)))) sSkip)
    (sSeq (sIf (tCmp .gt (eIx (eVar 0) (eC (.int 2))) (eC (.int 0))) (sSeq (sAsg (eOp modP (eB1 .int (eIx (eVar 0) (eC (.int 2)))) (eVar 1)) (gN 3))
    (sSeq (sAsg (eOp divP (eIx (eVar 0) (eC (.int 2))) (eVar 1)) (gSub (eVar 0) (eC (.int 2))))
    (sSeq (sRet (eVar 3))
    sSkip))) sSkip)
    (sSeq (sAsg (eOp addP (eIx (eVar 0) (eC (.int 4))) (eC (.int 1))) (gSub (eVar 0) (eC (.int 4))))
    (sSeq (sAsg (eOp modP (eB1 .int (eOp mulP (eB1 .int (eOp addP (eIx (eVar 0) (eC (.int 3))) (eOp mulP (eC (.int 7919)) (eIx (eVar 0) (eC (.int 4)))))) (eC (.int 40692)))) (eC (.int 2147483647))) (gN 4))
    (sSeq (sAsg (eOp modP (eB1 .int (eOp mulP (eVar 4) (eOp addP (eOp divP (eVar 4) (eC (.int 1009))) (eC (.int 69621))))) (eC (.int 2147483647))) (gN 4))
    (sSeq (sAsg (eOp modP (eB1 .int (eOp mulP (eVar 4) (eOp addP (eOp divP (eVar 4) (eC (.int 2003))) (eC (.int 40014))))) (eC (.int 2147483563))) (gN 4))
    (sSeq (sRet (eOp modP (eB1 .int (eOp divP (eVar 4) (eC (.int 16)))) (eVar 1)))
    sSkip)))))))⟩
def d__law_draw : TD := ⟨"_law_draw", ["hand", "many"], ["hand", "many", "cell", "digit", "number"], ["hand"], false, false, none, top 62⟩
def c__law_any : Fn := ⟨2, 2, false,
    (sSeq (sRet (eIx (eVar 1) (eCall ix__law_draw (aCons (eVar 0) (aCons (eB1 .len (eVar 1)) aNil)))))
    sSkip)⟩
def d__law_any : TD := ⟨"_law_any", ["hand", "some"], ["hand", "some"], ["hand"], false, false, none, top 63⟩
def c__law_is : Fn := ⟨2, 4, false,
    (sSeq (sIf (tOr (tV (eIsi (eVar 1) .tuple)) (tV (eIsi (eVar 1) .list))) (sSeq (sIf (tOr (tCmp .ne (eIsi (eVar 0) .tuple) (eIsi (eVar 1) .tuple)) (tCmp .ne (eIsi (eVar 0) .list) (eIsi (eVar 1) .list))) (sSeq (sRet (eC (.bl false)))
    sSkip) sSkip)
    (sSeq (sRet (eAnd (eCmp .eq (eB1 .len (eVar 0)) (eB1 .len (eVar 1))) (eB1 .all (eLc (wZip (eVar 0) (eVar 1)) [2, 3] (gTup [(gN 2), (gN 3)]) tYes (eCall ix__law_is (aCons (eVar 2) (aCons (eVar 3) aNil)))))))
    sSkip)) sSkip)
    (sSeq (sIf (tOr (tCmp .isn (eVar 1) (eC .non)) (tCmp .isn (eVar 0) (eC .non))) (sSeq (sRet (eAnd (eCmp .isn (eVar 1) (eC .non)) (eCmp .isn (eVar 0) (eC .non))))
    sSkip) sSkip)
    (sSeq (sIf (tOr (tCmp .ne (eIsi (eVar 0) .bool) (eIsi (eVar 1) .bool)) (tCmp .ne (eIsi (eVar 0) .int) (eIsi (eVar 1) .int))) (sSeq (sRet (eC (.bl false)))
    sSkip) sSkip)
    (sSeq (sRet (eAnd (eCmp .eq (eIsi (eVar 0) .str) (eIsi (eVar 1) .str)) (eCmp .eq (eVar 0) (eVar 1))))
    sSkip))))⟩
def d__law_is : TD := ⟨"_law_is", ["got", "due"], ["got", "due", "one", "other"], [], false, false, none, top 64⟩
def c__law_merged : Fn := ⟨2, 5, false,
    (sSeq (sAsg eDctM (gN 2))
    (sSeq (sFor (wSeq (eVar 0)) (gTup [(gN 3), (gN 4)]) (sSeq (sIf (tOr (tCmp .isn (eVar 1) (eC .non)) (tCmp .lt (eVar 4) (eVar 1))) (sSeq (sAsg (eOp addP (eDget2 (eVar 2) (eVar 4) (eC (.int 0))) (eVar 3)) (gSub (eVar 2) (eVar 4)))
    sSkip) sSkip)
    sSkip))
    (sSeq (sRet (eTup (aCons (eB1 .tuple (eLc (wSeq (eB1 .sorted (eB1 .list (eVar 2)))) [4] (gN 4) tYes (eTup (aCons (eIx (eVar 2) (eVar 4)) (aCons (eVar 4) aNil))))) (aCons (eVar 1) aNil))))
    sSkip)))⟩
def d__law_merged : TD := ⟨"_law_merged", ["steps", "end"], ["steps", "end", "found", "amount", "toll"], ["found"], false, false, none, top 65⟩
def c__law_stair : Fn := ⟨2, 7, false,
    (sSeq (sAsg (eCall ix__law_any (aCons (eVar 0) (aCons (eLst (aCons (eC (.int 3)) (aCons (eC (.int 9)) (aCons (eOp powP (eC (.int 10)) (eC (.int 6))) (aCons (eOp powP (eC (.int 10)) (eC (.int 60))) aNil))))) aNil))) (gN 2))
    (sSeq (sAsg (eLc (wRng1 (eCall ix__law_draw (aCons (eVar 0) (aCons (eOp addP (eVar 1) (eC (.int 1))) aNil)))) [6] (gN 6) tYes (eTup (aCons (eOp addP (eC (.int 1)) (eCall ix__law_draw (aCons (eVar 0) (aCons (eVar 2) aNil)))) (aCons (eCall ix__law_draw (aCons (eVar 0) (aCons (eVar 2) aNil))) aNil)))) (gN 3))
    (sSeq (sAsg (eCall ix__law_any (aCons (eVar 0) (aCons (eLst (aCons (eC .non) (aCons (eC .non) (aCons (eOp addP (eC (.int 1)) (eCall ix__law_draw (aCons (eVar 0) (aCons (eVar 2) aNil)))) aNil)))) aNil))) (gN 4))
    (sSeq (sAsg (eCall ix__law_merged (aCons (eVar 3) (aCons (eVar 4) aNil))) (gN 5))
    (sSeq (sRet (eIf (tCmp .ne (eVar 5) (eTup (aCons (eTup aNil) (aCons (eC .non) aNil)))) (eVar 5) (eTup (aCons (eTup (aCons (eTup (aCons (eC (.int 1)) (aCons (eC (.int 0)) aNil))) aNil)) (aCons (eC .non) aNil)))))
    sSkip)))))⟩
def d__law_stair : TD := ⟨"_law_stair", ["hand", "most"], ["hand", "most", "size", "steps", "end", "found", "step"], ["hand"], false, false, none, top 66⟩
def c__law_word : Fn := ⟨1, 4, false,
    (sSeq (sTry (sSeq sAct
    sSkip) [cl_CarryError, cl_BadPlan, cl_BadStair, cl_NoNumber] 1 (sSeq (sAsg (eLst (aCons (eIsE 1 [cl_BadStair]) (aCons (eIsE 1 [cl_NoNumber]) aNil))) (gN 2))
    (sSeq (sIf (tOr (tCmp .ne (eLm cntP (eVar 2) (eC (.bl true))) (eC (.int 1))) (tNot (tV (eIsE 1 [cl_CarryError, cl_BadPlan, cl_BadStair, cl_NoNumber])))) (sSeq (sRet (eC (.str "other")))
    sSkip) sSkip)
    (sSeq (sAsg (eIx (eLst (aCons (eC (.str "BadStair")) (aCons (eC (.str "NoNumber")) aNil))) (eLm ndxP (eVar 2) (eC (.bl true)))) (gN 3))
    (sSeq (sRet (eVar 3))
    sSkip)))))
    (sSeq (sRet (eC (.str "told")))
    sSkip))⟩
def d__law_word : TD := ⟨"_law_word", ["call"], ["call", "e", "flags", "word"], [], false, false, some "call", top 67⟩
def c__law_times : Fn := ⟨2, 6, false,
    (sSeq (sAsg (eVar 0) (gTup [(gN 2), (gN 3)]))
    (sSeq (sRet (eCall ix__law_merged (aCons (eB1 .tuple (eLc (wSeq (eVar 2)) [4, 5] (gTup [(gN 4), (gN 5)]) tYes (eTup (aCons (eVar 4) (aCons (eOp mulP (eVar 1) (eVar 5)) aNil))))) (aCons (eIf (tCmp .isn (eVar 3) (eC .non)) (eC .non) (eOp mulP (eVar 1) (eVar 3))) aNil))))
    sSkip))⟩
def d__law_times : TD := ⟨"_law_times", ["stair", "n"], ["stair", "n", "steps", "end", "amount", "toll"], [], false, false, none, top 68⟩
def c__law_copies : Fn := ⟨2, 4, false,
    (sSeq (sRet (eTup (aCons (eB1 .tuple (eLc (wSeq (eIx (eVar 0) (eC (.int 0)))) [2, 3] (gTup [(gN 2), (gN 3)]) tYes (eTup (aCons (eOp mulP (eVar 1) (eVar 2)) (aCons (eVar 3) aNil))))) (aCons (eIx (eVar 0) (eC (.int 1))) aNil))))
    sSkip)⟩
def d__law_copies : TD := ⟨"_law_copies", ["stair", "n"], ["stair", "n", "amount", "toll"], [], false, false, none, top 69⟩
def c__law_is_right : Fn := ⟨2, 9, false,
    (sSeq (sAsg (eLc (wRng1 (eC (.int 2))) [7] (gN 7) tYes (eCall ix__law_any (aCons (eVar 0) (aCons (eLst (aCons (eC (.int 1)) (aCons (eC (.int 2)) (aCons (eOp powP (eC (.int 10)) (eC (.int 30))) (aCons (eOp addP (eC (.int 1)) (eCall ix__law_draw (aCons (eVar 0) (aCons (eC (.int 9)) aNil)))) (aCons (eOp addP (eC (.int 1)) (eCall ix__law_draw (aCons (eVar 0) (aCons (eOp powP (eC (.int 10)) (eC (.int 30))) aNil)))) aNil)))))) aNil)))) (gTup [(gN 2), (gN 3)]))
    (sSeq (sIf (tNot (tV (eCall ix__law_is (aCons (eLst (aCons (eCall ix_times (aCons (eVar 1) (aCons (eVar 2) aNil))) (aCons (eCall ix_copies (aCons (eVar 1) (aCons (eVar 2) aNil))) aNil))) (aCons (eLst (aCons (eCall ix__law_times (aCons (eVar 1) (aCons (eVar 2) aNil))) (aCons (eCall ix__law_copies (aCons (eVar 1) (aCons (eVar 2) aNil))) aNil))) aNil))))) (sSeq (sRet (eC (.bl false)))
    sSkip) sSkip)
    (sSeq (sPar (aCons (eOp addP (eC (.int 1)) (eCall ix__law_draw (aCons (eVar 0) (aCons (eC (.int 6)) aNil)))) (aCons (eVar 1) (aCons (eVar 1) aNil))) [(gN 4), (gN 5), (gN 6)])
    (sSeq (sFor (wRng1 (eOp subP (eVar 4) (eC (.int 1)))) (gN 7) (sSeq (sPar (aCons (eCall ix_in_row (aCons (eVar 5) (aCons (eVar 1) aNil))) (aCons (eCall ix_beside (aCons (eVar 6) (aCons (eVar 1) aNil))) aNil)) [(gN 5), (gN 6)])
    sSkip))
    (sSeq (sIf (tNot (tV (eCall ix__law_is (aCons (eLst (aCons (eCall ix_times (aCons (eVar 1) (aCons (eVar 4) aNil))) (aCons (eCall ix_copies (aCons (eVar 1) (aCons (eVar 4) aNil))) aNil))) (aCons (eLst (aCons (eVar 5) (aCons (eVar 6) aNil))) aNil))))) (sSeq (sRet (eC (.bl false)))
    sSkip) sSkip)
    (sSeq (sIf (tNot (tV (eCall ix__law_is (aCons (eCall ix_times (aCons (eCall ix_copies (aCons (eVar 1) (aCons (eVar 2) aNil))) (aCons (eVar 3) aNil))) (aCons (eCall ix_copies (aCons (eCall ix_times (aCons (eVar 1) (aCons (eVar 3) aNil))) (aCons (eVar 2) aNil))) aNil))))) (sSeq (sRet (eC (.bl false)))
    sSkip) sSkip)
    (sSeq (sIf (tCmp .le (eOp mulP (eVar 2) (eVar 3)) (eOp powP (eC (.int 10)) (eC (.int 30)))) (sSeq (sIf (tNot (tV (eCall ix__law_is (aCons (eLst (aCons (eCall ix_times (aCons (eCall ix_times (aCons (eVar 1) (aCons (eVar 2) aNil))) (aCons (eVar 3) aNil))) (aCons (eCall ix_copies (aCons (eCall ix_copies (aCons (eVar 1) (aCons (eVar 2) aNil))) (aCons (eVar 3) aNil))) aNil))) (aCons (eLst (aCons (eCall ix_times (aCons (eVar 1) (aCons (eOp mulP (eVar 2) (eVar 3)) aNil))) (aCons (eCall ix_copies (aCons (eVar 1) (aCons (eOp mulP (eVar 2) (eVar 3)) aNil))) aNil))) aNil))))) (sSeq (sRet (eC (.bl false)))
    sSkip) sSkip)
    sSkip) sSkip)
    (sSeq (sAsg (eCall ix__law_stair (aCons (eVar 0) (aCons (eC (.int 4)) aNil))) (gN 8))
    (sSeq (sIf (tNot (tV (eCall ix__law_is (aCons (eLst (aCons (eCall ix_times (aCons (eCall ix_beside (aCons (eVar 1) (aCons (eVar 8) aNil))) (aCons (eVar 2) aNil))) (aCons (eCall ix_copies (aCons (eCall ix_beside (aCons (eVar 1) (aCons (eVar 8) aNil))) (aCons (eVar 2) aNil))) aNil))) (aCons (eLst (aCons (eCall ix_beside (aCons (eCall ix_times (aCons (eVar 1) (aCons (eVar 2) aNil))) (aCons (eCall ix_times (aCons (eVar 8) (aCons (eVar 2) aNil))) aNil))) (aCons (eCall ix_beside (aCons (eCall ix_copies (aCons (eVar 1) (aCons (eVar 2) aNil))) (aCons (eCall ix_copies (aCons (eVar 8) (aCons (eVar 2) aNil))) aNil))) aNil))) aNil))))) (sSeq (sRet (eC (.bl false)))
    sSkip) sSkip)
    (sSeq (sRet (eCall ix__law_is (aCons (eLst (aCons (eCall ix_times (aCons (eCall ix_in_row (aCons (eVar 1) (aCons (eVar 8) aNil))) (aCons (eVar 2) aNil))) (aCons (eCall ix_copies (aCons (eCall ix_in_row (aCons (eVar 1) (aCons (eVar 8) aNil))) (aCons (eVar 2) aNil))) aNil))) (aCons (eLst (aCons (eCall ix_in_row (aCons (eCall ix_times (aCons (eVar 1) (aCons (eVar 2) aNil))) (aCons (eCall ix_times (aCons (eVar 8) (aCons (eVar 2) aNil))) aNil))) (aCons (eCall ix_in_row (aCons (eCall ix_copies (aCons (eVar 1) (aCons (eVar 2) aNil))) (aCons (eCall ix_copies (aCons (eVar 8) (aCons (eVar 2) aNil))) aNil))) aNil))) aNil))))
    sSkip))))))))))⟩
def d__law_is_right : TD := ⟨"_law_is_right", ["hand", "stair"], ["hand", "stair", "n", "m", "few", "row", "side", "turn", "other"], ["hand"], false, false, none, top 70⟩
def c__law_are_plans_right : Fn := ⟨1, 7, false,
    (sSeq (sAsg (eLc (wRng1 (eOp addP (eC (.int 1)) (eCall ix__law_draw (aCons (eVar 0) (aCons (eC (.int 4)) aNil))))) [6] (gN 6) tYes (eTup (aCons (eOp addP (eC (.int 1)) (eCall ix__law_draw (aCons (eVar 0) (aCons (eC (.int 9)) aNil)))) (aCons (eCall ix__law_draw (aCons (eVar 0) (aCons (eC (.int 9)) aNil))) aNil)))) (gN 1))
    (sSeq (sAsg (eCall ix__law_merged (aCons (eVar 1) (aCons (eCall ix__law_any (aCons (eVar 0) (aCons (eLst (aCons (eC .non) (aCons (eOp addP (eC (.int 9)) (eCall ix__law_draw (aCons (eVar 0) (aCons (eC (.int 9)) aNil)))) aNil))) aNil))) aNil))) (gN 2))
    (sSeq (sPar (aCons (eCall ix_beside_form (aCons (eVar 2) aNil)) (aCons (eCall ix__law_any (aCons (eVar 0) (aCons (eLst (aCons (eC (.int 1)) (aCons (eC (.int 7)) (aCons (eOp powP (eC (.int 10)) (eC (.int 30))) aNil)))) aNil))) aNil)) [(gN 3), (gN 4)])
    (sSeq (sAsg (eLst (aCons (eCall ix_stair_of (aCons (eTup (aCons (eC (.str "times")) (aCons (eVar 4) (aCons (eVar 3) aNil)))) aNil)) (aCons (eCall ix_stair_of (aCons (eTup (aCons (eC (.str "copies")) (aCons (eVar 4) (aCons (eVar 3) aNil)))) aNil)) aNil))) (gN 5))
    (sSeq (sRet (eAnd (eCall ix__law_is (aCons (eCall ix_stair_of (aCons (eVar 3) aNil)) (aCons (eVar 2) aNil))) (eCall ix__law_is (aCons (eVar 5) (aCons (eLst (aCons (eCall ix__law_times (aCons (eVar 2) (aCons (eVar 4) aNil))) (aCons (eCall ix__law_copies (aCons (eVar 2) (aCons (eVar 4) aNil))) aNil))) aNil)))))
    sSkip)))))⟩
def d__law_are_plans_right : TD := ⟨"_law_are_plans_right", ["hand"], ["hand", "steps", "stair", "plan", "n", "told", "step"], ["hand"], false, false, none, top 71⟩
def c_law : Fn := ⟨1, 8, false,
    (sSeq (sAsg (eCall ix__law_hand (aCons (eVar 0) aNil)) (gN 1))
    (sSeq (sAsg (eTup (aCons (eTup (aCons (eTup (aCons (eC (.int 3)) (aCons (eC (.int 0)) aNil))) (aCons (eTup (aCons (eC (.int 2)) (aCons (eC (.int 8)) aNil))) aNil))) (aCons (eC (.int 9)) aNil))) (gN 2))
    (sSeq (sIf (tNot (tV (eCall ix__law_is (aCons (eLst (aCons (eCall ix_times (aCons (eVar 2) (aCons (eOp powP (eC (.int 10)) (eC (.int 30))) aNil))) (aCons (eCall ix_copies (aCons (eVar 2) (aCons (eC (.int 2)) aNil))) aNil))) (aCons (eLst (aCons (eTup (aCons (eTup (aCons (eTup (aCons (eC (.int 3)) (aCons (eC (.int 0)) aNil))) (aCons (eTup (aCons (eC (.int 2)) (aCons (eOp mulP (eC (.int 8)) (eOp powP (eC (.int 10)) (eC (.int 30)))) aNil))) aNil))) (aCons (eOp mulP (eC (.int 9)) (eOp powP (eC (.int 10)) (eC (.int 30)))) aNil))) (aCons (eTup (aCons (eTup (aCons (eTup (aCons (eC (.int 6)) (aCons (eC (.int 0)) aNil))) (aCons (eTup (aCons (eC (.int 4)) (aCons (eC (.int 8)) aNil))) aNil))) (aCons (eC (.int 9)) aNil))) aNil))) aNil))))) (sSeq (sRet (eC (.bl false)))
    sSkip) sSkip)
    (sSeq (sFor (wRng1 (eC (.int 4))) (gN 3) (sSeq (sAsg (eCall ix__law_stair (aCons (eVar 1) (aCons (eC (.int 6)) aNil))) (gN 4))
    (sSeq (sIf (tOr (tNot (tV (eCall ix__law_is_right (aCons (eVar 1) (aCons (eVar 4) aNil))))) (tNot (tV (eCall ix__law_are_plans_right (aCons (eVar 1) aNil))))) (sSeq (sRet (eC (.bl false)))
    sSkip) sSkip)
    (sSeq (sAsg (eTup (aCons (eCall ix__law_any (aCons (eVar 1) (aCons (eLst (aCons (eC .non) (aCons (eTup aNil) (aCons (eTup (aCons (eTup aNil) (aCons (eC .non) aNil))) (aCons (eTup (aCons (eTup aNil) (aCons (eC (.int 0)) aNil))) (aCons (eC (.int 5)) (aCons (eC (.str "x")) aNil))))))) aNil))) (aCons (eCall ix__law_any (aCons (eVar 1) (aCons (eLst (aCons (eC (.int 0)) (aCons (eNeg (eC (.int 1))) (aCons (eC (.bl true)) (aCons (eC .non) (aCons (eOp addP (eOp powP (eC (.int 10)) (eC (.int 30))) (eC (.int 1))) (aCons (eC (.str "2")) aNil))))))) aNil))) aNil))) (gTup [(gN 5), (gN 6)]))
    (sSeq (sAsg (eLst (aCons (eLam ix__law_word (eCall ix_times (aCons (eVar 5) (aCons (eVar 6) aNil)))) (aCons (eLam ix__law_word (eCall ix_copies (aCons (eVar 5) (aCons (eVar 6) aNil)))) aNil))) (gN 7))
    (sSeq (sAsg (eOp addP (eVar 7) (eLst (aCons (eLam ix__law_word (eCall ix_times (aCons (eVar 4) (aCons (eVar 6) aNil)))) (aCons (eLam ix__law_word (eCall ix_copies (aCons (eVar 4) (aCons (eVar 6) aNil)))) aNil)))) (gN 7))
    (sSeq (sIf (tCmp .ne (eVar 7) (eOp addP (eOp mulP (eLst (aCons (eC (.str "BadStair")) aNil)) (eC (.int 2))) (eOp mulP (eLst (aCons (eC (.str "NoNumber")) aNil)) (eC (.int 2))))) (sSeq (sRet (eC (.bl false)))
    sSkip) sSkip)
    sSkip)))))))
    (sSeq (sRet (eC (.bl true)))
    sSkip)))))⟩
def d_law : TD := ⟨"law", ["script"], ["script", "hand", "known", "turn", "stair", "bad", "none", "words"], ["hand"], false, true, none, top 72⟩
def tx : TX := ⟨[d_is_int, d_is_within, d_is_ints, d_is_pair, d_is_lane, d_is_times, d_check_times, d_lesser, d_is_endless, d_is_leaf, d_parts_of, d_has_form, d_is_plan, d_check_plan, d_is_one, d_is_step, d_is_steps, d_is_end, d_is_stair, d_check_stair, d_put_together, d_sided, d_beside, d_stretches, d_less_by, d_rowed, d_in_row, d_repeated, d_times, d_copied, d_copies, d_lane_stair, d_joined_by, d_stair_in, d_stair_of, d_by_twelve, d_form_of, d_beside_form, d__law_hand, d__law_draw, d__law_any, d__law_is, d__law_merged, d__law_stair, d__law_word, d__law_times, d__law_copies, d__law_is_right, d__law_are_plans_right, d_law], ["CarryError", "BadPlan", "BadStair", "NoNumber"], [⟨"CarryError", none, [0, 1, 2, 3]⟩, ⟨"BadStair", none, [2]⟩, ⟨"NoNumber", none, [3]⟩, ⟨"ValueError", some "ValueError", [0, 1, 2, 3]⟩], ["abs", "all", "bool", "int", "isinstance", "len", "list", "min", "range", "sorted", "str", "tuple", "zip"], [("MOST_NUMBER", .int 1000000000000), ("MOST_TIMES", .int 1000000000000000000000000000000), ("ENDLESS", .str "endless"), ("ROW", .str "row"), ("BESIDE", .str "beside"), ("TIMES", .str "times"), ("COPIES", .str "copies"), ("JOINS", .tup ["row", "beside"]), ("REPEATS", .tup ["times", "copies"]), ("MOST_PARTS", .int 12), ("MOST_SIZE", .int 150), ("MOST_DEPTH", .int 16)]⟩
def fns : List Fn := [c_is_int, c_is_within, c_is_ints, c_is_pair, c_is_lane, c_is_times, c_check_times, c_lesser, c_is_endless, c_is_leaf, c_parts_of, c_has_form, c_is_plan, c_check_plan, c_is_one, c_is_step, c_is_steps, c_is_end, c_is_stair, c_check_stair, c_put_together, c_sided, c_beside, c_stretches, c_less_by, c_rowed, c_in_row, c_repeated, c_times, c_copied, c_copies, c_lane_stair, c_joined_by, c_stair_in, c_stair_of, c_by_twelve, c_form_of, c_beside_form, c__law_hand, c__law_draw, c__law_any, c__law_is, c__law_merged, c__law_stair, c__law_word, c__law_times, c__law_copies, c__law_is_right, c__law_are_plans_right, c_law]
theorem k_is_int : TDOk tx.nm 60 d_is_int c_is_int := ⟨by kernel_rfl, rfl, rfl, by kernel_rfl, by kernel_rfl, fun _ _ _ _ _ _ us hl => match us, hl with | [_], _ => rfl⟩
theorem k_is_within : TDOk tx.nm 60 d_is_within c_is_within := ⟨by kernel_rfl, rfl, rfl, by kernel_rfl, by kernel_rfl, fun _ _ _ _ _ _ us hl => match us, hl with | [_, _, _], _ => rfl⟩
theorem k_is_ints : TDOk tx.nm 60 d_is_ints c_is_ints := ⟨by kernel_rfl, rfl, rfl, by kernel_rfl, by kernel_rfl, fun _ _ _ _ _ _ us hl => match us, hl with | [_], _ => rfl⟩
theorem k_is_pair : TDOk tx.nm 60 d_is_pair c_is_pair := ⟨by kernel_rfl, rfl, rfl, by kernel_rfl, by kernel_rfl, fun _ _ _ _ _ _ us hl => match us, hl with | [_], _ => rfl⟩
theorem k_is_lane : TDOk tx.nm 60 d_is_lane c_is_lane := ⟨by kernel_rfl, rfl, rfl, by kernel_rfl, by kernel_rfl, fun _ _ _ _ _ _ us hl => match us, hl with | [_], _ => rfl⟩
theorem k_is_times : TDOk tx.nm 60 d_is_times c_is_times := ⟨by kernel_rfl, rfl, rfl, by kernel_rfl, by kernel_rfl, fun _ _ _ _ _ _ us hl => match us, hl with | [_], _ => rfl⟩
theorem k_check_times : TDOk tx.nm 60 d_check_times c_check_times := ⟨by kernel_rfl, rfl, rfl, by kernel_rfl, by kernel_rfl, fun _ _ _ _ _ _ us hl => match us, hl with | [_], _ => rfl⟩
theorem k_lesser : TDOk tx.nm 60 d_lesser c_lesser := ⟨by kernel_rfl, rfl, rfl, by kernel_rfl, by kernel_rfl, fun _ _ _ _ _ _ us hl => match us, hl with | [_, _], _ => rfl⟩
theorem k_is_endless : TDOk tx.nm 60 d_is_endless c_is_endless := ⟨by kernel_rfl, rfl, rfl, by kernel_rfl, by kernel_rfl, fun _ _ _ _ _ _ us hl => match us, hl with | [_], _ => rfl⟩
theorem k_is_leaf : TDOk tx.nm 60 d_is_leaf c_is_leaf := ⟨by kernel_rfl, rfl, rfl, by kernel_rfl, by kernel_rfl, fun _ _ _ _ _ _ us hl => match us, hl with | [_], _ => rfl⟩
theorem k_parts_of : TDOk tx.nm 60 d_parts_of c_parts_of := ⟨by kernel_rfl, rfl, rfl, by kernel_rfl, by kernel_rfl, fun _ _ _ _ _ _ us hl => match us, hl with | [_, _], _ => rfl⟩
theorem k_has_form : TDOk tx.nm 60 d_has_form c_has_form := ⟨by kernel_rfl, rfl, rfl, by kernel_rfl, by kernel_rfl, fun _ _ _ _ _ _ us hl => match us, hl with | [_, _, _], _ => rfl⟩
theorem k_is_plan : TDOk tx.nm 60 d_is_plan c_is_plan := ⟨by kernel_rfl, rfl, rfl, by kernel_rfl, by kernel_rfl, fun _ _ _ _ _ _ us hl => match us, hl with | [_], _ => rfl⟩
theorem k_check_plan : TDOk tx.nm 60 d_check_plan c_check_plan := ⟨by kernel_rfl, rfl, rfl, by kernel_rfl, by kernel_rfl, fun _ _ _ _ _ _ us hl => match us, hl with | [_], _ => rfl⟩
theorem k_is_one : TDOk tx.nm 60 d_is_one c_is_one := ⟨by kernel_rfl, rfl, rfl, by kernel_rfl, by kernel_rfl, fun _ _ _ _ _ _ us hl => match us, hl with | [_], _ => rfl⟩
theorem k_is_step : TDOk tx.nm 60 d_is_step c_is_step := ⟨by kernel_rfl, rfl, rfl, by kernel_rfl, by kernel_rfl, fun _ _ _ _ _ _ us hl => match us, hl with | [_], _ => rfl⟩
theorem k_is_steps : TDOk tx.nm 60 d_is_steps c_is_steps := ⟨by kernel_rfl, rfl, rfl, by kernel_rfl, by kernel_rfl, fun _ _ _ _ _ _ us hl => match us, hl with | [_], _ => rfl⟩
theorem k_is_end : TDOk tx.nm 60 d_is_end c_is_end := ⟨by kernel_rfl, rfl, rfl, by kernel_rfl, by kernel_rfl, fun _ _ _ _ _ _ us hl => match us, hl with | [_], _ => rfl⟩
theorem k_is_stair : TDOk tx.nm 60 d_is_stair c_is_stair := ⟨by kernel_rfl, rfl, rfl, by kernel_rfl, by kernel_rfl, fun _ _ _ _ _ _ us hl => match us, hl with | [_], _ => rfl⟩
theorem k_check_stair : TDOk tx.nm 60 d_check_stair c_check_stair := ⟨by kernel_rfl, rfl, rfl, by kernel_rfl, by kernel_rfl, fun _ _ _ _ _ _ us hl => match us, hl with | [_], _ => rfl⟩
theorem k_put_together : TDOk tx.nm 60 d_put_together c_put_together := ⟨by kernel_rfl, rfl, rfl, by kernel_rfl, by kernel_rfl, fun _ _ _ _ _ _ us hl => match us, hl with | [_, _], _ => rfl⟩
theorem k_sided : TDOk tx.nm 60 d_sided c_sided := ⟨by kernel_rfl, rfl, rfl, by kernel_rfl, by kernel_rfl, fun _ _ _ _ _ _ us hl => match us, hl with | [_, _], _ => rfl⟩
theorem k_beside : TDOk tx.nm 60 d_beside c_beside := ⟨by kernel_rfl, rfl, rfl, by kernel_rfl, by kernel_rfl, fun _ _ _ _ _ _ us hl => match us, hl with | [_, _], _ => rfl⟩
theorem k_stretches : TDOk tx.nm 60 d_stretches c_stretches := ⟨by kernel_rfl, rfl, rfl, by kernel_rfl, by kernel_rfl, fun _ _ _ _ _ _ us hl => match us, hl with | [_], _ => rfl⟩
theorem k_less_by : TDOk tx.nm 60 d_less_by c_less_by := ⟨by kernel_rfl, rfl, rfl, by kernel_rfl, by kernel_rfl, fun _ _ _ _ _ _ us hl => match us, hl with | [_, _], _ => rfl⟩
theorem k_rowed : TDOk tx.nm 60 d_rowed c_rowed := ⟨by kernel_rfl, rfl, rfl, by kernel_rfl, by kernel_rfl, fun _ _ _ _ _ _ us hl => match us, hl with | [_, _], _ => rfl⟩
theorem k_in_row : TDOk tx.nm 60 d_in_row c_in_row := ⟨by kernel_rfl, rfl, rfl, by kernel_rfl, by kernel_rfl, fun _ _ _ _ _ _ us hl => match us, hl with | [_, _], _ => rfl⟩
theorem k_repeated : TDOk tx.nm 60 d_repeated c_repeated := ⟨by kernel_rfl, rfl, rfl, by kernel_rfl, by kernel_rfl, fun _ _ _ _ _ _ us hl => match us, hl with | [_, _], _ => rfl⟩
theorem k_times : TDOk tx.nm 60 d_times c_times := ⟨by kernel_rfl, rfl, rfl, by kernel_rfl, by kernel_rfl, fun _ _ _ _ _ _ us hl => match us, hl with | [_, _], _ => rfl⟩
theorem k_copied : TDOk tx.nm 60 d_copied c_copied := ⟨by kernel_rfl, rfl, rfl, by kernel_rfl, by kernel_rfl, fun _ _ _ _ _ _ us hl => match us, hl with | [_, _], _ => rfl⟩
theorem k_copies : TDOk tx.nm 60 d_copies c_copies := ⟨by kernel_rfl, rfl, rfl, by kernel_rfl, by kernel_rfl, fun _ _ _ _ _ _ us hl => match us, hl with | [_, _], _ => rfl⟩
theorem k_lane_stair : TDOk tx.nm 60 d_lane_stair c_lane_stair := ⟨by kernel_rfl, rfl, rfl, by kernel_rfl, by kernel_rfl, fun _ _ _ _ _ _ us hl => match us, hl with | [_], _ => rfl⟩
theorem k_joined_by : TDOk tx.nm 60 d_joined_by c_joined_by := ⟨by kernel_rfl, rfl, rfl, by kernel_rfl, by kernel_rfl, fun _ _ _ _ _ _ us hl => match us, hl with | [_, _], _ => rfl⟩
theorem k_stair_in : TDOk tx.nm 60 d_stair_in c_stair_in := ⟨by kernel_rfl, rfl, rfl, by kernel_rfl, by kernel_rfl, fun _ _ _ _ _ _ us hl => match us, hl with | [_], _ => rfl⟩
theorem k_stair_of : TDOk tx.nm 60 d_stair_of c_stair_of := ⟨by kernel_rfl, rfl, rfl, by kernel_rfl, by kernel_rfl, fun _ _ _ _ _ _ us hl => match us, hl with | [_], _ => rfl⟩
theorem k_by_twelve : TDOk tx.nm 60 d_by_twelve c_by_twelve := ⟨by kernel_rfl, rfl, rfl, by kernel_rfl, by kernel_rfl, fun _ _ _ _ _ _ us hl => match us, hl with | [_], _ => rfl⟩
theorem k_form_of : TDOk tx.nm 60 d_form_of c_form_of := ⟨by kernel_rfl, rfl, rfl, by kernel_rfl, by kernel_rfl, fun _ _ _ _ _ _ us hl => match us, hl with | [_], _ => rfl⟩
theorem k_beside_form : TDOk tx.nm 60 d_beside_form c_beside_form := ⟨by kernel_rfl, rfl, rfl, by kernel_rfl, by kernel_rfl, fun _ _ _ _ _ _ us hl => match us, hl with | [_], _ => rfl⟩
theorem k__law_hand : TDOk tx.nm 60 d__law_hand c__law_hand := ⟨by kernel_rfl, rfl, rfl, by kernel_rfl, by kernel_rfl, fun _ _ _ _ _ _ us hl => match us, hl with | [_], _ => rfl⟩
theorem k__law_draw : TDOk tx.nm 60 d__law_draw c__law_draw := ⟨by kernel_rfl, rfl, rfl, by kernel_rfl, by kernel_rfl, fun _ _ _ _ _ _ us hl => match us, hl with | [_, _], _ => rfl⟩
theorem k__law_any : TDOk tx.nm 60 d__law_any c__law_any := ⟨by kernel_rfl, rfl, rfl, by kernel_rfl, by kernel_rfl, fun _ _ _ _ _ _ us hl => match us, hl with | [_, _], _ => rfl⟩
theorem k__law_is : TDOk tx.nm 60 d__law_is c__law_is := ⟨by kernel_rfl, rfl, rfl, by kernel_rfl, by kernel_rfl, fun _ _ _ _ _ _ us hl => match us, hl with | [_, _], _ => rfl⟩
theorem k__law_merged : TDOk tx.nm 60 d__law_merged c__law_merged := ⟨by kernel_rfl, rfl, rfl, by kernel_rfl, by kernel_rfl, fun _ _ _ _ _ _ us hl => match us, hl with | [_, _], _ => rfl⟩
theorem k__law_stair : TDOk tx.nm 60 d__law_stair c__law_stair := ⟨by kernel_rfl, rfl, rfl, by kernel_rfl, by kernel_rfl, fun _ _ _ _ _ _ us hl => match us, hl with | [_, _], _ => rfl⟩
theorem k__law_word : TDOk tx.nm 60 d__law_word c__law_word := ⟨by kernel_rfl, rfl, rfl, by kernel_rfl, by kernel_rfl, fun _ _ _ _ _ _ us hl => match us, hl with | [_], _ => rfl⟩
theorem k__law_times : TDOk tx.nm 60 d__law_times c__law_times := ⟨by kernel_rfl, rfl, rfl, by kernel_rfl, by kernel_rfl, fun _ _ _ _ _ _ us hl => match us, hl with | [_, _], _ => rfl⟩
theorem k__law_copies : TDOk tx.nm 60 d__law_copies c__law_copies := ⟨by kernel_rfl, rfl, rfl, by kernel_rfl, by kernel_rfl, fun _ _ _ _ _ _ us hl => match us, hl with | [_, _], _ => rfl⟩
theorem k__law_is_right : TDOk tx.nm 60 d__law_is_right c__law_is_right := ⟨by kernel_rfl, rfl, rfl, by kernel_rfl, by kernel_rfl, fun _ _ _ _ _ _ us hl => match us, hl with | [_, _], _ => rfl⟩
theorem k__law_are_plans_right : TDOk tx.nm 60 d__law_are_plans_right c__law_are_plans_right := ⟨by kernel_rfl, rfl, rfl, by kernel_rfl, by kernel_rfl, fun _ _ _ _ _ _ us hl => match us, hl with | [_], _ => rfl⟩
theorem k_law : TDOk tx.nm 60 d_law c_law := ⟨by kernel_rfl, rfl, rfl, by kernel_rfl, by kernel_rfl, fun _ _ _ _ _ _ us hl => match us, hl with | [_], _ => rfl⟩
theorem k_all : TDsOk tx.nm 60 tx.tds fns := .cons k_is_int (.cons k_is_within (.cons k_is_ints (.cons k_is_pair (.cons k_is_lane (.cons k_is_times (.cons k_check_times (.cons k_lesser (.cons k_is_endless (.cons k_is_leaf (.cons k_parts_of (.cons k_has_form (.cons k_is_plan (.cons k_check_plan (.cons k_is_one (.cons k_is_step (.cons k_is_steps (.cons k_is_end (.cons k_is_stair (.cons k_check_stair (.cons k_put_together (.cons k_sided (.cons k_beside (.cons k_stretches (.cons k_less_by (.cons k_rowed (.cons k_in_row (.cons k_repeated (.cons k_times (.cons k_copied (.cons k_copies (.cons k_lane_stair (.cons k_joined_by (.cons k_stair_in (.cons k_stair_of (.cons k_by_twelve (.cons k_form_of (.cons k_beside_form (.cons k__law_hand (.cons k__law_draw (.cons k__law_any (.cons k__law_is (.cons k__law_merged (.cons k__law_stair (.cons k__law_word (.cons k__law_times (.cons k__law_copies (.cons k__law_is_right (.cons k__law_are_plans_right (.cons k_law (.nil))))))))))))))))))))))))))))))))))))))))))))))))))
end K07
end
section
set_option maxHeartbeats 0
namespace K07
open PySem PySem.Spec PyProof.Rows L2 EV
abbrev rw : PySem.W.OpenLaw := PySem.Challenge.rw_carrycurve_k07_whole_times_and_copies
abbrev R : PySem.W.OpenRow := PySem.W.OpenLaw.row rw
abbrev hk : PySem.W.Hook := EV.hookN 4 tx
def ob (s : PySem.W.SharedT) : He.AlD := EV.obsNG 4 tx (HandSHeadRun.getT s)
theorem ob_eq (s : PySem.W.SharedT) : ob s = hk.obs s.abs := EV.obsNG_eq (HandSHeadRun.getT_eq s)
theorem run (w : World) : HandSHeadRun.RunEq R (PySem.W.view R.prog [72]) hk ob 3480 ("CarryError" :: "BadPlan" :: "BadStair" :: "NoNumber" :: "MOST_NUMBER" :: "MOST_TIMES" :: "is_int" :: "is_within" :: "is_ints" :: "is_pair" :: "is_lane" :: "is_times" :: "check_times" :: "lesser" :: "ENDLESS" :: "ROW" :: "BESIDE" :: "TIMES" :: "COPIES" :: "JOINS" :: "REPEATS" :: "MOST_PARTS" :: "MOST_SIZE" :: "MOST_DEPTH" :: "is_endless" :: "is_leaf" :: "parts_of" :: "has_form" :: "is_plan" :: "check_plan" :: "is_one" :: "is_step" :: "is_steps" :: "is_end" :: "is_stair" :: "check_stair" :: "put_together" :: "sided" :: "beside" :: "stretches" :: "less_by" :: "rowed" :: "in_row" :: "repeated" :: "times" :: "copied" :: "copies" :: "lane_stair" :: "joined_by" :: "stair_in" :: "stair_of" :: "by_twelve" :: "form_of" :: "beside_form" :: "_law_hand" :: "_law_draw" :: "_law_any" :: "_law_is" :: "_law_merged" :: "_law_stair" :: "_law_word" :: "_law_times" :: "_law_copies" :: "_law_is_right" :: "_law_are_plans_right" :: []) w := by
  intro os
  kernel_rfl
end K07
end
section
set_option maxHeartbeats 0
open PySem PySem.W PySem.Calls PyProof.Rows
theorem K07.ends (plain : ∀ ns : List Int, ns.length ≤ 63 → (∀ z ∈ ns, Builtin.Int.intBits z ≤ 1048576) → ∃ s, EV.callF (fun i => K07.fns[i]?) 201 49 [EV.scr ns] [] = .ok (.p (.bl true)) s) : PySem.Challenge.rw_carrycurve_k07_whole_times_and_copies.Holds := by
  w_on; o_law
  refine HandSHeadRun.head_any (r := OpenLaw.row PySem.Challenge.rw_carrycurve_k07_whole_times_and_copies) (q := view (OpenLaw.row PySem.Challenge.rw_carrycurve_k07_whole_times_and_copies).prog [72]) (H := K07.hk) (ob := K07.ob) (M := 3480) (loose := ("CarryError" :: "BadPlan" :: "BadStair" :: "NoNumber" :: "MOST_NUMBER" :: "MOST_TIMES" :: "is_int" :: "is_within" :: "is_ints" :: "is_pair" :: "is_lane" :: "is_times" :: "check_times" :: "lesser" :: "ENDLESS" :: "ROW" :: "BESIDE" :: "TIMES" :: "COPIES" :: "JOINS" :: "REPEATS" :: "MOST_PARTS" :: "MOST_SIZE" :: "MOST_DEPTH" :: "is_endless" :: "is_leaf" :: "parts_of" :: "has_form" :: "is_plan" :: "check_plan" :: "is_one" :: "is_step" :: "is_steps" :: "is_end" :: "is_stair" :: "check_stair" :: "put_together" :: "sided" :: "beside" :: "stretches" :: "less_by" :: "rowed" :: "in_row" :: "repeated" :: "times" :: "copied" :: "copies" :: "lane_stair" :: "joined_by" :: "stair_in" :: "stair_of" :: "by_twelve" :: "form_of" :: "beside_form" :: "_law_hand" :: "_law_draw" :: "_law_any" :: "_law_is" :: "_law_merged" :: "_law_stair" :: "_law_word" :: "_law_times" :: "_law_copies" :: "_law_is_right" :: "_law_are_plans_right" :: [])) (d := HandSHeadRun.topDef (OpenLaw.row PySem.Challenge.rw_carrycurve_k07_whole_times_and_copies).prog 72) (kwd := []) K07.ob_eq
    (by kernel_rfl) (fun s => by kernel_rfl) K07.run (by kernel_rfl) (by kernel_rfl) (by kernel_rfl) (by rfl) (by first | assumption | decide +kernel) (by decide +kernel) ⟨rfl, rfl, rfl, rfl, rfl, by decide +kernel⟩ ?hw ?hc
  case hw => w_witness2
  case hc => exact EV.law_walk (lv := 200) (f := 49) (x := "script") (d := K07.d_law) (by rfl) (by decide) (by kernel_rfl) ⟨rfl, by decide, by decide⟩ K07.k_all rfl rfl rfl (by kernel_rfl) plain
end
section
/-! Pl1: what a run ends in, rule by rule. -/
namespace EV
open PySem
abbrev Tb (fns : List Fn) : Nat → Option Fn := fun i => fns[i]?
/-- a def's run, one level down -/
theorem call_at {fns : List Fn} {f : Nat} {fn : Fn} (h : fns[f]? = some fn) (n : Nat) : ∃ c : Cl, c.C = callF (Tb fns) n ∧ ∀ (ds : List D) (s : Sto), ds.length = fn.np → callF (Tb fns) (n + 1) f ds s = fin s.length fn.rl (fn.body c (EV.start fn.nl ds) s) := by
  have key : ∀ c : Cl, ∀ (ds : List D) (s : Sto), ds.length = fn.np → runT (Tb fns) c f ds s = fin s.length fn.rl (fn.body c (EV.start fn.nl ds) s) := fun c ds s hl => by
    unfold runT Tb
    simp only [h]
    unfold runFn
    rw [if_pos hl]
  match n with
  | 0 => exact ⟨_, rfl, key _⟩
  | 1 => exact ⟨_, rfl, key _⟩
  | 2 => exact ⟨_, rfl, key _⟩
  | n + 3 => exact ⟨_, rfl, key _⟩
/-- .. with the lambdas -/
theorem call_lam {fns : List Fn} {f : Nat} {fn : Fn} (h : fns[f]? = some fn) (n : Nat) : ∃ c : Cl, c.C = callF (Tb fns) (n + 3) ∧ c.lo = callF (Tb fns) n ∧ c.lam = lamT (Tb fns) ∧ ∀ (ds : List D) (s : Sto), ds.length = fn.np → callF (Tb fns) (n + 4) f ds s = fin s.length fn.rl (fn.body c (EV.start fn.nl ds) s) := by
  refine ⟨⟨callF (Tb fns) (n + 3), callF (Tb fns) n, Mo.stk, lamT (Tb fns)⟩, rfl, rfl, rfl, fun ds s hl => ?_⟩
  show runT (Tb fns) _ f ds s = _
  unfold runT Tb
  simp only [h]
  unfold runFn
  rw [if_pos hl]
/-- tells simp to leave what follows alone: an argument that another's type speaks of is not rewritten -/
abbrev Tg {α : Type} {β : Type} (Q : α → Sto → Prop) (E : β) : Type := Unit
/-- a run ends in Q, or by an error in E -/
def Ok {α : Type} (r : Res α) (Q : α → Sto → Prop) (E : Nat → Sto → Prop) (_ : Tg Q E := ()) : Prop := match r with
  | .ok a s => Q a s
  | .exn k a s => a = none ∧ E k s
  | .stk => False
def OkS (r : SR) (Q : Fl → Sto → Prop) (E : Nat → Sg → Sto → Prop) (_ : Tg Q E := ()) : Prop := match r with
  | .ok f s => Q f s
  | .exn k a σ s => a = none ∧ E k σ s
  | .stk => False
def nE : Nat → Sto → Prop := fun _ _ => False
section
variable {α β : Type} {Q Q' : α → Sto → Prop} {E E' : Nat → Sto → Prop} {c : Cl} {σ : Sg} {s : Sto}
theorem Ok.mono {r : Res α} (h : Ok r Q E) (hq : ∀ a s, Q a s → Q' a s) (he : ∀ k s, E k s → E' k s) : Ok r Q' E' := by
  cases r with
  | ok a s => exact hq _ _ h
  | exn k a s => exact ⟨h.1, he _ _ h.2⟩
  | stk => exact h
theorem Ok.imp {r : Res α} (h : Ok r Q E) (hq : ∀ a s, Q a s → Q' a s) : Ok r Q' E := h.mono hq fun _ _ z => z
theorem OkS.imp {r : SR} {Q Q' : Fl → Sto → Prop} {E : Nat → Sg → Sto → Prop} (h : OkS r Q E) (hq : ∀ a s, Q a s → Q' a s) : OkS r Q' E := by
  cases r with
  | ok a s => exact hq _ _ h
  | exn k a σ s => exact h
  | stk => exact h
theorem Ok.eq {r : Res α} {a : α} (h : Ok r (fun a' s' => a' = a ∧ s' = s) nE) : r = .ok a s := by
  cases r with
  | ok a' s' =>
    obtain ⟨h1, h2⟩ := h
    rw [h1, h2]
  | exn k a s => exact h.2.elim
  | stk => exact h.elim
theorem cgQ {r : Res α} (h : ∀ a s, Q a s = Q' a s) : Ok r Q E = Ok r Q' E := by
  have : Q = Q' := funext fun a => funext (h a)
  rw [this]
@[simp ↓] theorem tt_imp {p : Prop} : (true = true → p) = p := by simp
@[simp ↓] theorem ff_imp {p : Prop} : (false = true → p) = True := by simp
@[simp ↓] theorem tf_imp {p : Prop} : (true = false → p) = True := by simp
@[simp ↓] theorem ff_imp2 {p : Prop} : (false = false → p) = p := by simp
@[simp ↓] theorem ok_ok {a : α} : Ok (.ok a s) Q E = Q a s := propext Iff.rfl
@[simp ↓] theorem ok_exn {k : Nat} {a : Option P} : Ok (.exn k a s : Res α) Q E = (a = none ∧ E k s) := propext Iff.rfl
@[simp ↓] theorem ok_stk : Ok (.stk : Res α) Q E = False := propext Iff.rfl
@[simp ↓] theorem ok_mstk : Ok ((Mo.stk : Mo α) s) Q E = False := propext Iff.rfl
@[simp ↓] theorem ok_pure {a : α} : Ok (Mo.pure a s) Q E = Q a s := propext Iff.rfl
@[simp ↓] theorem ok_bind {m : Mo α} {f : α → Mo β} {Q : β → Sto → Prop} : Ok (Mo.bind m f s) Q E = Ok (m s) (fun a s1 => Ok (f a s1) Q E) E := by
  unfold Mo.bind Res.bind
  cases m s <;> rfl
@[simp ↓] theorem ok_rbind {m : Res α} {f : α → Mo β} {Q : β → Sto → Prop} : Ok (Res.bind m f) Q E = Ok m (fun a s1 => Ok (f a s1) Q E) E := by
  unfold Res.bind
  cases m <;> rfl
@[simp ↓] theorem ok_ite {p : Prop} [Decidable p] {x y : Res α} : Ok (if p then x else y) Q E = ((p → Ok x Q E) ∧ (¬p → Ok y Q E)) := by
  by_cases h : p <;> simp [h]
@[simp ↓] theorem ok_item {p : Prop} [Decidable p] {x y : Mo α} : Ok ((if p then x else y) s) Q E = ((p → Ok (x s) Q E) ∧ (¬p → Ok (y s) Q E)) := by
  by_cases h : p <;> simp [h]
@[simp ↓] theorem ok_noX {m : Mo α} : Ok (noX m s) Q E = Ok (m s) Q nE := by
  unfold noX
  cases m s <;> simp [nE]
section
variable {Q : D → Sto → Prop} {a b d : ME} {ar : MA} {t : MT}
@[simp ↓] theorem ok_eC {p : P} : Ok (eC p c σ s) Q E = Q (.p p) s := propext Iff.rfl
theorem ok_eVar_0 {i : Nat} : Ok (eVar i c σ s) Q E = (match σ[i]? with | some (some (.p x)) => Q (.p x) s | some (some (.loc l)) => Q (.loc l) s | _ => False) := by
  unfold eVar
  split <;> simp_all
@[simp ↓] theorem ok_aNil {Q : List D → Sto → Prop} : Ok (aNil c σ s) Q E = Q [] s := propext Iff.rfl
@[simp ↓] theorem ok_aCons {Q : List D → Sto → Prop} : Ok (aCons a ar c σ s) Q E = Ok (a c σ s) (fun d s1 => Ok (ar c σ s1) (fun ds s2 => Q (d :: ds) s2) E) E := by
  unfold aCons
  repeat (first | rfl | rw [ok_bind] | refine cgQ fun _ _ => ?_)
theorem ok_op2_0 {f : P → P → Option P} {x y : D} : Ok (op2 f x y s) Q E = ∃ p q r, rd s x = some p ∧ rd s y = some q ∧ f p q = some r ∧ Q (.p r) s := by
  unfold op2
  cases rd s x <;> cases rd s y <;> simp
  split <;> simp_all
theorem ok_op1_0 {f : P → Option P} {x : D} : Ok (op1 f x s) Q E = ∃ p r, rd s x = some p ∧ f p = some r ∧ Q (.p r) s := by
  unfold op1
  cases rd s x <;> simp
  split <;> simp_all
@[simp ↓] theorem ok_eOp {f : P → P → Option P} : Ok (eOp f a b c σ s) Q E = Ok (a c σ s) (fun x s1 => Ok (b c σ s1) (fun y s2 => Ok (op2 f x y s2) Q E) E) E := by
  unfold eOp
  repeat (first | rfl | rw [ok_bind] | refine cgQ fun _ _ => ?_)
@[simp ↓] theorem ok_eNeg : Ok (eNeg a c σ s) Q E = Ok (a c σ s) (fun x s1 => Ok (op1 negP x s1) Q E) E := by
  unfold eNeg
  repeat (first | rfl | rw [ok_bind] | refine cgQ fun _ _ => ?_)
@[simp ↓] theorem ok_eNot : Ok (eNot a c σ s) Q E = Ok (a c σ s) (fun x s1 => Ok (op1 notP x s1) Q E) E := by
  unfold eNot
  repeat (first | rfl | rw [ok_bind] | refine cgQ fun _ _ => ?_)
theorem ok_eAnd_0 : Ok (eAnd a b c σ s) Q E = Ok (a c σ s) (fun x s1 => match x with
  | .p (.bl k) => (k = true → Ok (b c σ s1) Q E) ∧ (k = false → Q (.p (.bl false)) s1)
  | x => Ok (truM x s1) (fun k s2 => (k = true → Ok (b c σ s2) Q E) ∧ (k = false → Q x s2)) E) E := by
  unfold eAnd
  rw [ok_bind]
  refine cgQ fun x s1 => ?_
  split
  · simp
  · simp
  · rename_i x h1 h2
    split
    · rename_i k
      cases k
      · exact absurd rfl h2
      · exact absurd rfl h1
    · rw [ok_bind]
      refine cgQ fun k s2 => ?_
      cases k <;> simp
theorem ok_eOr_0 : Ok (eOr a b c σ s) Q E = Ok (a c σ s) (fun x s1 => match x with
  | .p (.bl k) => (k = false → Ok (b c σ s1) Q E) ∧ (k = true → Q (.p (.bl true)) s1)
  | x => Ok (truM x s1) (fun k s2 => (k = false → Ok (b c σ s2) Q E) ∧ (k = true → Q x s2)) E) E := by
  unfold eOr
  rw [ok_bind]
  refine cgQ fun x s1 => ?_
  split
  · simp
  · simp
  · rename_i x h1 h2
    split
    · rename_i k
      cases k
      · exact absurd rfl h1
      · exact absurd rfl h2
    · rw [ok_bind]
      refine cgQ fun k s2 => ?_
      cases k <;> simp
@[simp ↓] theorem ok_eIf : Ok (eIf t a b c σ s) Q E = Ok (t c σ s) (fun k s1 => (k = true → Ok (a c σ s1) Q E) ∧ (k = false → Ok (b c σ s1) Q E)) E := by
  unfold eIf
  simp only [ok_bind]
  refine cgQ fun x s1 => ?_
  cases x <;> simp
theorem ok_cmpR_0 {o : Cop} {x y : D} {Q : Bool → Sto → Prop} : Ok (cmpR o x y s) Q E = ∃ p q k, rd s x = some p ∧ rd s y = some q ∧ cmpP o p q = some k ∧ Q k s := by
  unfold cmpR
  cases rd s x <;> cases rd s y <;> simp [-Bool.exists_bool]
  split <;> simp_all [-Bool.exists_bool]
theorem ok_cmp2 {o : Cop} {x y : D} {Q : Bool → Sto → Prop} : Ok (cmp2 o x y s) Q E = (match o.inB, dctOf s y with
  | some b, some kvs => ∃ k, keyD x = some k ∧ Q ((dget k kvs).isSome == b) s
  | _, _ => ∃ p q k, rd s x = some p ∧ rd s y = some q ∧ cmpP o p q = some k ∧ Q k s) := by
  unfold cmp2
  cases o.inB <;> cases dctOf s y <;> simp only [ok_cmpR_0]
  split <;> simp_all
/-- the comparisons that are not in, not in -/
theorem ok_cmp2n_0 {o : Cop} {x y : D} {Q : Bool → Sto → Prop} (h : o.inB = none) : Ok (cmp2 o x y s) Q E = ∃ p q k, rd s x = some p ∧ rd s y = some q ∧ cmpP o p q = some k ∧ Q k s := by
  rw [ok_cmp2, h]
@[simp ↓] theorem ok_eCmp {o : Cop} : Ok (eCmp o a b c σ s) Q E = Ok (a c σ s) (fun x s1 => Ok (b c σ s1) (fun y s2 => Ok (cmp2 o x y s2) (fun k s3 => Q (.p (.bl k)) s3) E) E) E := by
  unfold eCmp
  repeat (first | rfl | rw [ok_bind] | refine cgQ fun _ _ => ?_)
@[simp ↓] theorem ok_eChain {o o' : Cop} : Ok (eChain o o' a b d c σ s) Q E = Ok (a c σ s) (fun x s1 => Ok (b c σ s1) (fun y s2 => Ok (cmp2 o x y s2) (fun k s3 => (k = true → Ok (d c σ s3) (fun z s4 => Ok (cmp2 o' y z s4) (fun k' s5 => Q (.p (.bl k')) s5) E) E) ∧ (k = false → Q (.p (.bl false)) s3)) E) E) E := by
  unfold eChain
  rw [ok_bind]
  refine cgQ fun x s1 => ?_
  rw [ok_bind]
  refine cgQ fun y s2 => ?_
  rw [ok_bind]
  refine cgQ fun k s3 => ?_
  cases k with
  | false => simp [blD]
  | true =>
    simp only [if_true, ok_bind]
    refine propext ⟨fun z => ⟨fun _ => ?_, fun w => by cases w⟩, fun z => ?_⟩
    · refine z.imp fun _ _ h => ?_
      rw [ok_bind] at h
      exact h
    · refine (z.1 trivial).imp fun _ _ h => ?_
      rw [ok_bind]
      exact h
theorem ok_ixD {x y : D} : Ok (ixD x y s) Q E = (match dctOf s x with
  | some kvs => ∃ k v, keyD y = some k ∧ dget k kvs = some v ∧ Q (.p v) s
  | none => ∃ p q r, rd s x = some p ∧ rd s y = some q ∧ ixP p q = some r ∧ Q (.p r) s) := by
  unfold ixD
  cases dctOf s x <;> simp only [ok_op2_0]
  split
  · split <;> simp_all
  · simp_all
theorem ok_ixP_0 {x : P} {y : D} : Ok (ixD (.p x) y s) Q E = ∃ q r, rd s y = some q ∧ ixP x q = some r ∧ Q (.p r) s := by
  rw [ok_ixD]
  simp [dctOf, rd]
@[simp ↓] theorem ok_eIx : Ok (eIx a b c σ s) Q E = Ok (a c σ s) (fun x s1 => Ok (b c σ s1) (fun y s2 => Ok (ixD x y s2) Q E) E) E := by
  unfold eIx
  repeat (first | rfl | rw [ok_bind] | refine cgQ fun _ _ => ?_)
@[simp ↓] theorem ok_oNone {Q : Option Int → Sto → Prop} : Ok (oNone c σ s) Q E = Q none s := propext Iff.rfl
theorem ok_oSome_0 {Q : Option Int → Sto → Prop} : Ok (oSome a c σ s) Q E = Ok (a c σ s) (fun x s1 => ∃ i, x = .p (.int i) ∧ Q (some i) s1) E := by
  unfold oSome
  simp only [ok_bind]
  refine cgQ fun x s1 => ?_
  split <;> simp_all
theorem ok_eSl_0 {lo hi : MO'} : Ok (eSl a lo hi c σ s) Q E = Ok (a c σ s) (fun x s1 => Ok (lo c σ s1) (fun l s2 => Ok (hi c σ s2) (fun h s3 => ∃ p r, rd s3 x = some p ∧ slP p l h = some r ∧ Q (.p r) s3) E) E) E := by
  unfold eSl
  repeat (first | rfl | rw [ok_bind] | rw [ok_op1_0] | refine cgQ fun _ _ => ?_)
@[simp ↓] theorem ok_eRev : Ok (eRev a c σ s) Q E = Ok (a c σ s) (fun x s1 => Ok (op1 revP x s1) Q E) E := by
  unfold eRev
  repeat (first | rfl | rw [ok_bind] | refine cgQ fun _ _ => ?_)
theorem ok_tupD_0 {ds : List D} : Ok (tupD ds s) Q E = ∃ xs s1, ds.length ≤ L ∧ frzL s ds = some (xs, s1) ∧ Q (.p (.tup xs)) s1 := by
  unfold tupD
  by_cases h : ds.length ≤ L
  · rcases h2 : frzL s ds with _ | ⟨u, v⟩ <;> simp [h, and_assoc]
  · simp [h]
theorem ok_lstD_0 {ds : List D} : Ok (lstD ds s) Q E = ∃ xs s1, ds.length ≤ L ∧ frzL s ds = some (xs, s1) ∧ Q (.p (.lst xs)) s1 := by
  unfold lstD
  by_cases h : ds.length ≤ L
  · rcases h2 : frzL s ds with _ | ⟨u, v⟩ <;> simp [h, and_assoc]
  · simp [h]
theorem ok_lstM_0 {ds : List D} : Ok (lstM ds s) Q E = ∃ xs s1, ds.length ≤ L ∧ frzL s ds = some (xs, s1) ∧ Q (.loc s1.length) (s1 ++ [.lst xs]) := by
  unfold lstM
  by_cases h : ds.length ≤ L
  · rcases h2 : frzL s ds with _ | ⟨u, v⟩ <;> simp [h, newO, and_assoc]
  · simp [h]
@[simp ↓] theorem ok_newO {o : MO} : Ok (newO o s) Q E = Q (.loc s.length) (s ++ [o]) := propext Iff.rfl
@[simp ↓] theorem ok_eTup : Ok (eTup ar c σ s) Q E = Ok (ar c σ s) (fun ds s1 => Ok (tupD ds s1) Q E) E := by
  unfold eTup
  rw [ok_bind]
@[simp ↓] theorem ok_eLst : Ok (eLst ar c σ s) Q E = Ok (ar c σ s) (fun ds s1 => Ok (lstD ds s1) Q E) E := by
  unfold eLst
  rw [ok_bind]
@[simp ↓] theorem ok_eLstM : Ok (eLstM ar c σ s) Q E = Ok (ar c σ s) (fun ds s1 => Ok (lstM ds s1) Q E) E := by
  unfold eLstM
  rw [ok_bind]
@[simp ↓] theorem ok_eEd : Ok (eEd c σ s) Q E = Q (.p .ed) s := propext Iff.rfl
@[simp ↓] theorem ok_eDctM : Ok (eDctM c σ s) Q E = Q (.loc s.length) (s ++ [.dct []]) := propext Iff.rfl
@[simp ↓] theorem ok_eCall {f : Nat} : Ok (eCall f ar c σ s) Q E = Ok (ar c σ s) (fun ds s1 => Ok (c.C f ds s1) Q E) E := by
  unfold eCall
  rw [ok_bind]
theorem ok_b1D {o : B1} {x : D} : Ok (b1D o x s) Q E = (match o, dctOf s x with
  | .len, some kvs => Q (.p (.int kvs.length)) s
  | .list, some kvs => Q (.p (.lst (kvs.map fun q => kyP q.1))) s
  | _, _ => ∃ p r, rd s x = some p ∧ b1P o p = some r ∧ Q (.p r) s) := by
  unfold b1D
  split <;> simp_all [ok_op1_0]
theorem ok_b1P_0 {o : B1} {x : P} : Ok (b1D o (.p x) s) Q E = ∃ r, b1P o x = some r ∧ Q (.p r) s := by
  rw [ok_b1D]
  cases o <;> simp [dctOf, rd]
@[simp ↓] theorem ok_eB1 {o : B1} : Ok (eB1 o a c σ s) Q E = Ok (a c σ s) (fun x s1 => Ok (b1D o x s1) Q E) E := by
  unfold eB1
  rw [ok_bind]
theorem ok_eListM_0 : Ok (eListM a c σ s) Q E = Ok (a c σ s) (fun x s1 => ∃ xs, (rd s1 x = some (.lst xs) ∨ rd s1 x = some (.tup xs)) ∧ Q (.loc s1.length) (s1 ++ [.lst xs])) E := by
  unfold eListM
  rw [ok_bind]
  refine cgQ fun x s1 => ?_
  split <;> simp_all [newO]
@[simp ↓] theorem ok_eB2 {o : B2} : Ok (eB2 o a b c σ s) Q E = Ok (a c σ s) (fun x s1 => Ok (b c σ s1) (fun y s2 => Ok (op2 (b2P o) x y s2) Q E) E) E := by
  unfold eB2
  rw [ok_eOp]
theorem ok_eIsi_0 {ty : Ty} : Ok (eIsi a ty c σ s) Q E = Ok (a c σ s) (fun x s1 => ∃ p k, rd s1 x = some p ∧ isiP p ty = some k ∧ Q (.p (.bl k)) s1) E := by
  unfold eIsi
  rw [ok_bind]
  refine cgQ fun x s1 => ?_
  rw [ok_op1_0]
  refine propext ⟨?_, ?_⟩
  · rintro ⟨p, r, h1, h2, h3⟩
    rw [Option.map_eq_some_iff] at h2
    obtain ⟨k, h2, rfl⟩ := h2
    exact ⟨p, k, h1, h2, h3⟩
  · rintro ⟨p, k, h1, h2, h3⟩
    exact ⟨p, _, h1, by rw [h2] <;> rfl, h3⟩
@[simp ↓] theorem ok_lstNow {x : D} : Ok (lstNow x s) Q E = ∃ xs, rd s x = some (.lst xs) ∧ Q x s := by
  unfold lstNow
  split <;> simp_all
@[simp ↓] theorem ok_dctNow {x : D} : Ok (dctNow x s) Q E = ∃ kvs, dctOf s x = some kvs ∧ Q x s := by
  unfold dctNow
  split <;> simp_all
@[simp ↓] theorem ok_get2D {x y w : D} : Ok (get2D x y w s) Q E = ∃ kvs j p, dctOf s x = some kvs ∧ keyD y = some j ∧ w = .p p ∧ Q (.p ((dget j kvs).getD p)) s := by
  unfold get2D
  split <;> simp_all
@[simp ↓] theorem ok_eDget2 : Ok (eDget2 a b d c σ s) Q E = Ok (a c σ s) (fun x s1 => Ok (dctNow x s1) (fun x s1 => Ok (b c σ s1) (fun y s2 => Ok (d c σ s2) (fun w s3 => Ok (get2D x y w s3) Q E) E) E) E) E := by
  unfold eDget2
  repeat (first | rfl | rw [ok_bind] | refine cgQ fun _ _ => ?_)
theorem ok_appD_0 {l : Nat} {y : D} : Ok (appD (.loc l) y s) Q E = ∃ v s1 xs, frz s y = some (v, s1) ∧ s1[l]? = some (.lst xs) ∧ xs.length < L ∧ Q (.p .non) (s1.set l (.lst (xs ++ [v]))) := by
  unfold appD
  cases h : frz s y with
  | none => simp
  | some q =>
    obtain ⟨v, s1⟩ := q
    simp only
    refine propext ⟨fun z => ?_, ?_⟩
    · split at z
      · rename_i xs h1
        split at z
        · rename_i hl
          exact ⟨v, s1, xs, rfl, h1, hl, z⟩
        · exact z.elim
      · exact z.elim
    · rintro ⟨v', s1', xs, e, h1, hl, z⟩
      cases e
      rw [h1]
      simp only
      rw [if_pos hl]
      exact z
@[simp ↓] theorem ok_eApp : Ok (eApp a b c σ s) Q E = Ok (a c σ s) (fun x s1 => Ok (lstNow x s1) (fun x s1 => Ok (b c σ s1) (fun y s2 => Ok (appD x y s2) Q E) E) E) E := by
  unfold eApp
  repeat (first | rfl | rw [ok_bind] | refine cgQ fun _ _ => ?_)
@[simp ↓] theorem ok_popAtD {l : Nat} {i : Int} : Ok (popAtD (.loc l) (.p (.int i)) s) Q E = ∃ xs j v, s[l]? = some (.lst xs) ∧ L2.ixN xs.length i = some j ∧ xs[j]? = some v ∧ (-(2 ^ 63) ≤ i ∧ i < 2 ^ 63) ∧ Q (.p v) (s.set l (.lst (xs.eraseIdx j))) := by
  unfold popAtD
  simp only
  refine propext ⟨fun z => ?_, ?_⟩
  · split at z
    · rename_i xs h1
      split at z
      · rename_i j h2
        split at z
        · rename_i v h3
          split at z
          · rename_i hl
            exact ⟨xs, j, v, h1, h2, h3, hl, z⟩
          · exact z.elim
        · exact z.elim
      · exact z.elim
    · exact z.elim
  · rintro ⟨xs, j, v, h1, h2, h3, hl, z⟩
    rw [h1]
    simp only [h2, h3]
    rw [if_pos hl]
    exact z
@[simp ↓] theorem ok_ePopAt : Ok (ePopAt a b c σ s) Q E = Ok (a c σ s) (fun x s1 => Ok (lstNow x s1) (fun x s1 => Ok (b c σ s1) (fun y s2 => Ok (popAtD x y s2) Q E) E) E) E := by
  unfold ePopAt
  repeat (first | rfl | rw [ok_bind] | refine cgQ fun _ _ => ?_)
@[simp ↓] theorem ok_ePop : Ok (ePop a c σ s) Q E = Ok (a c σ s) (fun x s1 => Ok (popD x s1) Q E) E := by
  unfold ePop
  repeat (first | rfl | rw [ok_bind] | refine cgQ fun _ _ => ?_)
@[simp ↓] theorem ok_eLm {f : P → P → Option P} : Ok (eLm f a b c σ s) Q E = Ok (a c σ s) (fun x s1 => Ok (lstNow x s1) (fun x s1 => Ok (b c σ s1) (fun y s2 => Ok (op2 f x y s2) Q E) E) E) E := by
  unfold eLm
  repeat (first | rfl | rw [ok_bind] | refine cgQ fun _ _ => ?_)
@[simp ↓] theorem ok_eIsE {i : Nat} {cs : List Nat} : Ok (eIsE i cs c σ s) Q E = (match σ[i]? with | some (some (.exc k _)) => Q (.p (.bl (cs.contains k))) s | _ => False) := by
  unfold eIsE
  split <;> simp_all [blD]
theorem ok_eLam {f : Nat} {b : ME} : Ok (eLam f b c σ s) Q E = Ok (c.lam f (b ⟨c.lo, noC, Mo.stk, noL⟩ σ) s) Q E := rfl
end
end
end EV
end
section
/-! Pl2: tests, targets, statements, loops, calls. -/
namespace EV
open PySem
section
variable {α β : Type} {E : Nat → Sto → Prop} {c : Cl} {σ : Sg} {s : Sto} {a b d : ME} {ar : MA}
section
variable {Q : Bool → Sto → Prop} {t u : MT}
theorem ok_truM_0 {x : D} : Ok (truM x s) Q E = ∃ p k, rd s x = some p ∧ truP p = some k ∧ Q k s := by
  unfold truM
  refine propext ⟨fun z => ?_, ?_⟩
  · split at z
    · rename_i p h1
      split at z
      · rename_i k h2
        exact ⟨p, k, h1, h2, z⟩
      · exact z.elim
    · exact z.elim
  · rintro ⟨p, k, h1, h2, z⟩
    rw [h1]
    simp only [h2]
    exact z
theorem ok_tV_0 : Ok (tV a c σ s) Q E = Ok (a c σ s) (fun x s1 => ∃ p k, rd s1 x = some p ∧ truP p = some k ∧ Q k s1) E := by
  unfold tV
  repeat (first | rfl | rw [ok_bind] | rw [ok_truM_0] | refine cgQ fun _ _ => ?_)
@[simp ↓] theorem ok_tCmp {o : Cop} : Ok (tCmp o a b c σ s) Q E = Ok (a c σ s) (fun x s1 => Ok (b c σ s1) (fun y s2 => Ok (cmp2 o x y s2) Q E) E) E := by
  unfold tCmp
  repeat (first | rfl | rw [ok_bind] | refine cgQ fun _ _ => ?_)
@[simp ↓] theorem ok_tChain {o o' : Cop} : Ok (tChain o o' a b d c σ s) Q E = Ok (a c σ s) (fun x s1 => Ok (b c σ s1) (fun y s2 => Ok (cmp2 o x y s2) (fun k s3 => (k = true → Ok (d c σ s3) (fun z s4 => Ok (cmp2 o' y z s4) Q E) E) ∧ (k = false → Q false s3)) E) E) E := by
  unfold tChain
  rw [ok_bind]
  refine cgQ fun x s1 => ?_
  rw [ok_bind]
  refine cgQ fun y s2 => ?_
  rw [ok_bind]
  refine cgQ fun k s3 => ?_
  cases k with
  | false => simp
  | true =>
    simp only [if_true, ok_bind]
    refine propext ⟨fun z => ⟨fun _ => ?_, fun w => by cases w⟩, fun z => ?_⟩
    · exact z
    · exact z.1 trivial
@[simp ↓] theorem ok_tNot : Ok (tNot t c σ s) Q E = Ok (t c σ s) (fun k s1 => Q (!k) s1) E := by
  unfold tNot
  repeat (first | rfl | rw [ok_bind] | refine cgQ fun _ _ => ?_)
@[simp ↓] theorem ok_tAnd : Ok (tAnd t u c σ s) Q E = Ok (t c σ s) (fun k s1 => (k = true → Ok (u c σ s1) Q E) ∧ (k = false → Q false s1)) E := by
  unfold tAnd
  simp only [ok_bind]
  refine cgQ fun k s1 => ?_
  cases k <;> simp
@[simp ↓] theorem ok_tOr : Ok (tOr t u c σ s) Q E = Ok (t c σ s) (fun k s1 => (k = false → Ok (u c σ s1) Q E) ∧ (k = true → Q true s1)) E := by
  unfold tOr
  simp only [ok_bind]
  refine cgQ fun k s1 => ?_
  cases k <;> simp
@[simp ↓] theorem ok_tYes : Ok (tYes c σ s) Q E = Q true s := propext Iff.rfl
end
/-! targets -/
section
variable {Q : Sg → Sto → Prop}
@[simp ↓] theorem ok_gN {i : Nat} {x : D} : Ok (gN i c x σ s) Q E = Q (σ.set i (some x)) s := propext Iff.rfl
@[simp ↓] theorem ok_gAll0 : Ok (gAll [] c [] σ s) Q E = Q σ s := propext Iff.rfl
@[simp ↓] theorem ok_gAll1 {g : MG} {gs : List MG} {x : P} {xs : List P} : Ok (gAll (g :: gs) c (x :: xs) σ s) Q E = Ok (g c (.p x) σ s) (fun σ1 s1 => Ok (gAll gs c xs σ1 s1) Q E) E := by
  simp only [gAll, ok_bind]
@[simp ↓] theorem ok_gTup {gs : List MG} {xs : List P} : Ok (gTup gs c (.p (.tup xs)) σ s) Q E = (xs.length = gs.length ∧ Ok (gAll gs c xs σ s) Q E) := by
  unfold gTup
  by_cases h : xs.length = gs.length <;> simp [h]
@[simp ↓] theorem ok_gTupL {gs : List MG} {xs : List P} : Ok (gTup gs c (.p (.lst xs)) σ s) Q E = (xs.length = gs.length ∧ Ok (gAll gs c xs σ s) Q E) := by
  unfold gTup
  by_cases h : xs.length = gs.length <;> simp [h]
@[simp ↓] theorem ok_gSeq0 : Ok (gSeq [] c [] σ s) Q E = Q σ s := propext Iff.rfl
@[simp ↓] theorem ok_gSeq1 {g : MG} {gs : List MG} {x : D} {xs : List D} : Ok (gSeq (g :: gs) c (x :: xs) σ s) Q E = Ok (g c x σ s) (fun σ1 s1 => Ok (gSeq gs c xs σ1 s1) Q E) E := by
  simp only [gSeq, ok_bind]
theorem ok_setD_0 {l : Nat} {x y : D} : Ok (setD x (.loc l) y σ s) Q E = ∃ v s1, frz s x = some (v, s1) ∧ Ok (setO l v y σ s1) Q E := by
  unfold setD
  refine propext ⟨fun z => ?_, ?_⟩
  · split at z
    · rename_i v s1 h1
      exact ⟨v, s1, h1, z⟩
    · exact z.elim
  · rintro ⟨v, s1, h1, z⟩
    rw [h1]
    exact z
theorem ok_setL {l : Nat} {v : P} {k : Int} {xs : List P} (h : s[l]? = some (.lst xs)) : Ok (setO l v (.p (.int k)) σ s) Q E = ∃ j, L2.ixN xs.length k = some j ∧ Q σ (s.set l (.lst (xs.set j v))) := by
  unfold setO
  rw [h]
  simp only
  cases L2.ixN xs.length k <;> simp
theorem ok_setK {l : Nat} {v : P} {y : D} {kvs : List (Ky × P)} (h : s[l]? = some (.dct kvs)) : Ok (setO l v y σ s) Q E = ∃ j, keyD y = some j ∧ kvs.length < L ∧ Q σ (s.set l (.dct (dput j v kvs))) := by
  unfold setO
  rw [h]
  simp only
  cases keyD y with
  | none => simp
  | some j => by_cases hl : kvs.length < L <;> simp [hl]
@[simp ↓] theorem ok_gSub {x : D} : Ok (gSub a b c x σ s) Q E = Ok (a c σ s) (fun o s1 => Ok (b c σ s1) (fun i s2 => Ok (setD x o i σ s2) Q E) E) E := by
  unfold gSub
  repeat (first | rfl | rw [ok_bind] | refine cgQ fun _ _ => ?_)
end
/-! what is walked -/
section
variable {Q : List P × Option Nat → Sto → Prop}
@[simp ↓] theorem ok_wSeq : Ok (wSeq a c σ s) Q E = Ok (a c σ s) (fun x s1 => match x with
  | .p (.tup xs) => Q (xs, none) s1
  | .p (.lst xs) => Q (xs, none) s1
  | .loc l => ∃ xs, s1[l]? = some (.lst xs) ∧ Q (xs, some l) s1
  | _ => False) E := by
  unfold wSeq
  rw [ok_bind]
  refine cgQ fun x s1 => ?_
  cases x with
  | p y => cases y <;> rfl
  | exc => rfl
  | loc l =>
    simp only
    refine propext ⟨fun z => ?_, ?_⟩
    · split at z
      · rename_i xs h
        exact ⟨xs, h, z⟩
      · exact z.elim
    · rintro ⟨xs, h, z⟩
      rw [h]
      exact z
theorem ok_wRng1_0 : Ok (wRng1 a c σ s) Q E = Ok (a c σ s) (fun x s1 => ∃ j, x = .p (.int j) ∧ bnd j = true ∧ Q (rngL 0 j.toNat, none) s1) E := by
  unfold wRng1
  rw [ok_bind]
  refine cgQ fun x s1 => ?_
  split
  · rename_i j
    by_cases h : bnd j = true <;> simp [h]
  · rename_i h
    simp only [ok_mstk, eq_iff_iff, false_iff]
    rintro ⟨j, e, _⟩
    exact h j e
theorem ok_wRng2_0 : Ok (wRng2 a b c σ s) Q E = Ok (a c σ s) (fun x s1 => Ok (b c σ s1) (fun y s2 => ∃ i j, x = .p (.int i) ∧ y = .p (.int j) ∧ (bnd i && bnd j) = true ∧ Q (rngL i (j - i).toNat, none) s2) E) E := by
  unfold wRng2
  rw [ok_bind]
  refine cgQ fun x s1 => ?_
  rw [ok_bind]
  refine cgQ fun y s2 => ?_
  split
  · rename_i i j
    by_cases h : (bnd i && bnd j) = true
    · rw [if_pos h]
      refine propext ⟨fun z => ⟨i, j, rfl, rfl, h, z⟩, ?_⟩
      rintro ⟨i', j', e1, e2, _, z⟩
      cases e1
      cases e2
      exact z
    · rw [if_neg h]
      refine propext ⟨fun z => z.elim, ?_⟩
      rintro ⟨i', j', e1, e2, z, _⟩
      cases e1
      cases e2
      exact (h z).elim
  · rename_i h
    simp only [ok_mstk, eq_iff_iff, false_iff]
    rintro ⟨i, j, e1, e2, _⟩
    exact h i j e1 e2
theorem ok_wZip_0 : Ok (wZip a b c σ s) Q E = Ok (a c σ s) (fun x s1 => Ok (b c σ s1) (fun y s2 => ∃ p q zs, x = .p p ∧ y = .p q ∧ zipP p q = some zs ∧ Q (zs, none) s2) E) E := by
  unfold wZip
  rw [ok_bind]
  refine cgQ fun x s1 => ?_
  rw [ok_bind]
  refine cgQ fun y s2 => ?_
  split
  · rename_i p q
    refine propext ⟨fun z => ?_, ?_⟩
    · cases h : zipP p q with
      | none =>
        rw [h] at z
        exact z.elim
      | some zs =>
        rw [h] at z
        exact ⟨p, q, zs, rfl, rfl, h, z⟩
    · rintro ⟨p', q', zs, e1, e2, h, z⟩
      cases e1
      cases e2
      rw [h]
      exact z
  · rename_i h
    simp only [ok_mstk, eq_iff_iff, false_iff]
    rintro ⟨p, q, zs, e1, e2, _⟩
    exact h p q e1 e2
@[simp ↓] theorem ok_wEnum : Ok (wEnum a c σ s) Q E = Ok (a c σ s) (fun x s1 => ∃ xs, x = .p (.lst xs) ∧ Q (enumT 0 xs, none) s1) E := by
  unfold wEnum
  rw [ok_bind]
  refine cgQ fun x s1 => ?_
  split
  · simp
  · rename_i h
    simp only [ok_mstk, eq_iff_iff, false_iff]
    rintro ⟨xs, e, _⟩
    exact h xs e
end
section
variable {w : Src} {vs : List Nat} {g : MG} {t : MT} {Q : D → Sto → Prop}
@[simp ↓] theorem ok_eLc : Ok (eLc w vs g t a c σ s) Q E = Ok (w c σ s) (fun q s1 => Ok (lcT c g t a (wipeD σ vs) q.1 q.2 q.1 [] s1) (fun xs s2 => Q (.p (.lst xs)) s2) nE) E := by
  unfold eLc
  repeat (first | rfl | rw [ok_bind] | rw [ok_noX] | refine cgQ fun _ _ => ?_)
@[simp ↓] theorem ok_eLcM : Ok (eLcM w vs g t a c σ s) Q E = Ok (w c σ s) (fun q s1 => Ok (lcT c g t a (wipeD σ vs) q.1 q.2 q.1 [] s1) (fun xs s2 => Q (.loc s2.length) (s2 ++ [.lst xs])) nE) E := by
  unfold eLcM
  repeat (first | rfl | rw [ok_bind] | rw [ok_noX] | refine cgQ fun _ _ => ?_)
/-- a comprehension by an invariant: what is left, what is found -/
theorem ok_lcT {all : List P} {lk : Option Nat} {Q : List P → Sto → Prop} (I : List P → List P → Sto → Prop) : ∀ {xs acc : List P} {s : Sto}, I xs acc s → (∀ x r acc s, I (x :: r) acc s → still s all lk = true ∧ Ok (g c (.p x) σ s) (fun σ1 s1 => Ok (t c σ1 s1) (fun k s2 =>
      (k = true → Ok (a c σ1 s2) (fun d s3 => ∃ v s4, frz s3 d = some (v, s4) ∧ acc.length < L ∧ I r (acc ++ [v]) s4) E) ∧ (k = false → I r acc s2)) E) E) → (∀ acc s, I [] acc s → still s all lk = true ∧ Q acc s) → Ok (lcT c g t a σ all lk xs acc s) Q E
  | [], acc, s, h, _, hd => by
    obtain ⟨h1, h2⟩ := hd acc s h
    simp only [lcT, h1, if_true]
    exact h2
  | x :: xs, acc, s, h, hs, hd => by
    obtain ⟨h1, h2⟩ := hs x xs acc s h
    simp only [lcT, h1, if_true, ok_bind]
    refine h2.imp fun σ1 s1 h3 => ?_
    rw [ok_bind]
    refine h3.imp fun k s2 h4 => ?_
    cases k with
    | false =>
      simp only [Bool.false_eq_true, if_false]
      exact ok_lcT I (h4.2 rfl) hs hd
    | true =>
      simp only [if_true, ok_bind]
      refine (h4.1 rfl).imp fun d s3 h5 => ?_
      obtain ⟨v, s4, h6, h7, h8⟩ := h5
      rw [h6]
      simp only
      rw [if_pos h7]
      exact ok_lcT I h8 hs hd
/-- .. whose parts leave the store alone -/
theorem ok_lcP {all : List P} {lk : Option Nat} {Q : List P → Sto → Prop} (p : P → Bool) (f : P → P) {xs : List P} (hs : still s all lk = true) (hl : xs.length ≤ L) (h : ∀ x ∈ xs, Ok (g c (.p x) σ s) (fun σ1 s1 => s1 = s ∧ Ok (t c σ1 s) (fun k s2 => s2 = s ∧ k = p x ∧ (p x = true → Ok (a c σ1 s) (fun d s3 => d = .p (f x) ∧ s3 = s) nE)) nE) nE)
    (hq : Q ((xs.filter p).map f) s) : Ok (lcT c g t a σ all lk xs [] s) Q E := by
  have key : Ok (lcT c g t a σ all lk xs [] s) Q nE := by
    refine ok_lcT (fun rem acc s' => s' = s ∧ ∃ done, done ++ rem = xs ∧ acc = (done.filter p).map f) ⟨rfl, [], rfl, rfl⟩ ?_ ?_
    · rintro x r acc s' ⟨rfl, done, e, rfl⟩
      have hx : x ∈ xs := by rw [← e]; simp
      have hlen : done.length < L := by
        have : done.length + (r.length + 1) = xs.length := by rw [← e]; simp
        omega
      refine ⟨hs, (h x hx).imp fun σ1 s1 ⟨e1, h2⟩ => ?_⟩
      subst e1
      refine h2.imp fun k s2 ⟨e2, ek, h3⟩ => ?_
      subst e2
      subst ek
      refine ⟨fun hk => (h3 hk).imp fun d s3 ⟨e3, e4⟩ => ?_, fun hk => ⟨rfl, done ++ [x], by simpa using e, by simp [hk]⟩⟩
      subst e3
      subst e4
      refine ⟨f x, s3, rfl, ?_, rfl, done ++ [x], by simpa using e, by simp [hk]⟩
      have := List.length_filter_le p done
      simp only [List.length_map]
      omega
    · rintro acc s' ⟨rfl, done, e, rfl⟩
      rw [List.append_nil] at e
      subst e
      exact ⟨hs, hq⟩
  exact key.mono (fun _ _ z => z) fun _ _ z => z.elim
theorem ok_lcM {all : List P} {lk : Option Nat} {Q : List P → Sto → Prop} (f : P → P) {xs : List P} (hs : still s all lk = true) (hl : xs.length ≤ L) (h : ∀ x ∈ xs, Ok (g c (.p x) σ s) (fun σ1 s1 => s1 = s ∧ Ok (a c σ1 s) (fun d s3 => d = .p (f x) ∧ s3 = s) nE) nE)
    (hq : Q (xs.map f) s) : Ok (lcT c g tYes a σ all lk xs [] s) Q E := by
  refine ok_lcP (fun _ => true) f hs hl (fun x hx => (h x hx).imp fun σ1 s1 ⟨e1, h2⟩ => ⟨e1, ?_⟩) (by rw [List.filter_eq_self.mpr (fun _ _ => rfl)]; exact hq)
  rw [ok_tYes]
  exact ⟨rfl, rfl, fun _ => h2⟩
end
/-! statements -/
section
variable {Q : Fl → Sto → Prop} {E : Nat → Sg → Sto → Prop} {t : MT} {x y : MS}
@[simp ↓] theorem okS_ok {f : Fl} : OkS (.ok f s) Q E = Q f s := propext Iff.rfl
@[simp ↓] theorem okS_stk : OkS .stk Q E = False := propext Iff.rfl
@[simp ↓] theorem okS_exn {k : Nat} {p : Option P} : OkS (.exn k p σ s) Q E = (p = none ∧ E k σ s) := propext Iff.rfl
theorem okS_st {r : Res α} {f : α → Sto → SR} : OkS (r.st σ f) Q E = Ok r (fun a s1 => OkS (f a s1) Q E) (fun k s1 => E k σ s1) := by
  cases r <;> rfl
@[simp ↓] theorem okS_nxS : OkS (nxS σ s) Q E = Q (.nx σ) s := propext Iff.rfl
@[simp ↓] theorem okS_skip : OkS (sSkip c σ s) Q E = Q (.nx σ) s := propext Iff.rfl
@[simp ↓] theorem okS_seq : OkS (sSeq x y c σ s) Q E = OkS (x c σ s) (fun f s1 => match f with
  | .nx σ1 => OkS (y c σ1 s1) Q E
  | f => Q f s1) E := by
  unfold sSeq
  cases x c σ s with
  | ok f s1 => cases f <;> rfl
  | exn => rfl
  | stk => rfl
@[simp ↓] theorem okS_asg {g : MG} : OkS (sAsg a g c σ s) Q E = Ok (a c σ s) (fun d s1 => Ok (g c d σ s1) (fun σ1 s2 => Q (.nx σ1) s2) nE) (fun k s1 => E k σ s1) := by
  unfold sAsg
  rw [okS_st]
  refine cgQ fun d s1 => ?_
  rw [okS_st]
  unfold noX
  cases g c d σ s1 <;> simp [nE]
@[simp ↓] theorem okS_par {gs : List MG} : OkS (sPar ar gs c σ s) Q E = Ok (ar c σ s) (fun ds s1 => Ok (gSeq gs c ds σ s1) (fun σ1 s2 => Q (.nx σ1) s2) nE) (fun k s1 => E k σ s1) := by
  unfold sPar
  rw [okS_st]
  refine cgQ fun d s1 => ?_
  rw [okS_st]
  unfold noX
  cases gSeq gs c d σ s1 <;> simp [nE]
@[simp ↓] theorem okS_aug {i : Nat} {f : P → P → Option P} : OkS (sAug i a f c σ s) Q E = (match σ[i]? with
  | some (some x) => Ok (a c σ s) (fun y s1 => Ok (op2 f x y s1) (fun z s2 => Q (.nx (σ.set i (some z))) s2) (fun k s1 => E k σ s1)) (fun k s1 => E k σ s1)
  | _ => False) := by
  unfold sAug
  cases σ[i]? with
  | none => rfl
  | some z =>
    cases z with
    | none => rfl
    | some x =>
      simp only [okS_st]
      refine cgQ fun _ _ => ?_
      rw [okS_st]
      rfl
@[simp ↓] theorem okS_expr : OkS (sExpr a c σ s) Q E = Ok (a c σ s) (fun _ s1 => Q (.nx σ) s1) (fun k s1 => E k σ s1) := by
  unfold sExpr
  rw [okS_st]
  rfl
@[simp ↓] theorem okS_ret : OkS (sRet a c σ s) Q E = Ok (a c σ s) (fun d s1 => Q (.rt d) s1) (fun k s1 => E k σ s1) := by
  unfold sRet
  rw [okS_st]
  rfl
@[simp ↓] theorem okS_retN : OkS (sRetN c σ s) Q E = Q (.rt (.p .non)) s := propext Iff.rfl
@[simp ↓] theorem okS_brk : OkS (sBrk c σ s) Q E = Q (.bk σ) s := propext Iff.rfl
@[simp ↓] theorem okS_cnt : OkS (sCnt c σ s) Q E = Q (.ct σ) s := propext Iff.rfl
@[simp ↓] theorem okS_raise {k : Nat} : OkS (sRaise k c σ s) Q E = E k σ s := by simp [sRaise]
@[simp ↓] theorem okS_if : OkS (sIf t x y c σ s) Q E = Ok (t c σ s) (fun k s1 => (k = true → OkS (x c σ s1) Q E) ∧ (k = false → OkS (y c σ s1) Q E)) (fun k s1 => E k σ s1) := by
  unfold sIf
  rw [okS_st]
  refine cgQ fun k s1 => ?_
  cases k <;> simp
@[simp ↓] theorem okS_for {w : Src} {g : MG} : OkS (sFor w g x c σ s) Q E = Ok (w c σ s) (fun q s1 => OkS (forT c g x q.1 q.2 q.1 σ s1) Q E) (fun k s1 => E k σ s1) := by
  unfold sFor
  rw [okS_st]
theorem ok_forT {g : MG} {all : List P} {lk : Option Nat} (I : List P → Sg → Sto → Prop) : ∀ {xs : List P} {σ : Sg} {s : Sto}, I xs σ s → (∀ z r σ s, I (z :: r) σ s → still s all lk = true ∧ Ok (g c (.p z) σ s) (fun σ1 s1 => OkS (x c σ1 s1) (fun f s2 => match f with
      | .nx σ2 => I r σ2 s2
      | .ct σ2 => I r σ2 s2
      | .bk σ2 => Q (.nx σ2) s2
      | .rt d => Q (.rt d) s2) E) nE) → (∀ σ s, I [] σ s → still s all lk = true ∧ Q (.nx σ) s) → OkS (forT c g x all lk xs σ s) Q E
  | [], σ, s, h, _, hd => by
    obtain ⟨h1, h2⟩ := hd σ s h
    simp only [forT, h1, if_true]
    exact h2
  | z :: xs, σ, s, h, hs, hd => by
    obtain ⟨h1, h2⟩ := hs z xs σ s h
    simp only [forT, h1, if_true, okS_st]
    have h3 : Ok (noX (g c (.p z) σ) s) (fun σ1 s1 => OkS (x c σ1 s1) (fun f s2 => match f with
      | .nx σ2 => I xs σ2 s2
      | .ct σ2 => I xs σ2 s2
      | .bk σ2 => Q (.nx σ2) s2
      | .rt d => Q (.rt d) s2) E) nE := by
      rw [ok_noX]
      exact h2
    refine h3.mono (fun σ1 s1 h4 => ?_) fun _ _ z => z.elim
    cases q : x c σ1 s1 with
    | stk => rw [q] at h4; exact h4
    | exn k p σ2 s2 => rw [q] at h4; exact h4
    | ok f s2 =>
      rw [q] at h4
      cases f with
      | nx σ2 => exact ok_forT I h4 hs hd
      | ct σ2 => exact ok_forT I h4 hs hd
      | bk σ2 => exact h4
      | rt d => exact h4
theorem ok_whileT (I : Nat → Sg → Sto → Prop) : ∀ {n k : Nat} {σ : Sg} {s : Sto}, I k σ s → k < n → (∀ k σ s, I k σ s → Ok (t c σ s) (fun q s1 => (q = true → OkS (x c σ s1) (fun f s2 => match f with
      | .nx σ2 => ∃ j, j < k ∧ I j σ2 s2
      | .ct σ2 => ∃ j, j < k ∧ I j σ2 s2
      | .bk σ2 => Q (.nx σ2) s2
      | .rt d => Q (.rt d) s2) E) ∧ (q = false → Q (.nx σ) s1)) (fun k s1 => E k σ s1)) → OkS (whileT c t x n σ s) Q E
  | 0, k, σ, s, _, hk, _ => absurd hk (Nat.not_lt_zero _)
  | n + 1, k, σ, s, h, hk, hs => by
    have h1 := hs k σ s h
    simp only [whileT, okS_st]
    refine h1.imp fun q s1 h2 => ?_
    cases q with
    | false =>
      simp only [Bool.false_eq_true, if_false, okS_ok]
      exact h2.2 rfl
    | true =>
      simp only [if_true]
      have h4 := h2.1 rfl
      cases q : x c σ s1 with
      | stk => rw [q] at h4; exact h4
      | exn k p σ2 s2 => rw [q] at h4; exact h4
      | ok f s2 =>
        rw [q] at h4
        cases f with
        | nx σ2 =>
          obtain ⟨j, hj, h5⟩ := h4
          exact ok_whileT I h5 (by omega) hs
        | ct σ2 =>
          obtain ⟨j, hj, h5⟩ := h4
          exact ok_whileT I h5 (by omega) hs
        | bk σ2 => exact h4
        | rt d => exact h4
theorem ok_while (I : Nat → Sg → Sto → Prop) {k : Nat} (h : I k σ s) (hk : k < L) (hs : ∀ k σ s, I k σ s → Ok (t c σ s) (fun q s1 => (q = true → OkS (x c σ s1) (fun f s2 => match f with
      | .nx σ2 => ∃ j, j < k ∧ I j σ2 s2
      | .ct σ2 => ∃ j, j < k ∧ I j σ2 s2
      | .bk σ2 => Q (.nx σ2) s2
      | .rt d => Q (.rt d) s2) E) ∧ (q = false → Q (.nx σ) s1)) (fun k s1 => E k σ s1)) : OkS (sWhile t x c σ s) Q E := ok_whileT I h hk hs
@[simp ↓] theorem okS_try {cs : List Nat} {i : Nat} : OkS (sTry x cs i y c σ s) Q E = OkS (x c σ s) Q (fun k σ1 s1 => (cs.contains k = true → clean σ1 = true ∧ OkS (y c (σ1.set i (some (.exc k none))) s1) (fun f s2 => match f with
  | .nx σ2 => clean (σ2.set i none) = true ∧ Q (.nx (σ2.set i none)) s2
  | .rt d => Q (.rt d) s2
  | _ => False) (fun _ _ _ => False)) ∧ (cs.contains k = false → E k σ1 s1)) := by
  unfold sTry
  cases x c σ s with
  | ok f s1 => rfl
  | stk => rfl
  | exn k p σ1 s1 =>
    simp only [okS_exn]
    cases hk : cs.contains k with
    | false =>
      simp only [Bool.false_eq_true, if_false, okS_exn, false_implies, true_and, forall_const]
    | true =>
      simp only [if_true, forall_const, Bool.true_eq_false, false_implies, and_true]
      cases p with
      | some p => simp only [okS_stk, reduceCtorEq, false_and]
      | none =>
        simp only [true_and]
        by_cases hc : clean σ1 = true
        · rw [if_pos hc]
          cases y c (σ1.set i (some (.exc k none))) s1 with
          | stk => simp only [okS_stk, and_false]
          | exn => simp only [okS_stk, okS_exn, and_false]
          | ok f s2 =>
            cases f with
            | nx σ2 =>
              simp only [okS_ok, hc, true_and]
              by_cases hc2 : clean (σ2.set i none) = true
              · rw [if_pos hc2]
                simp only [okS_ok, hc2, true_and]
              · rw [if_neg hc2]
                simp only [okS_stk, hc2, Bool.false_eq_true, false_and]
            | rt d => simp only [okS_ok, hc, true_and]
            | bk => simp only [okS_stk, okS_ok, and_false]
            | ct => simp only [okS_stk, okS_ok, and_false]
        · rw [if_neg hc]
          simp only [okS_stk, hc, Bool.false_eq_true, false_and]
theorem ok_fin {n0 : Nat} {rl : Bool} {r : SR} {Q : D → Sto → Prop} {E : Nat → Sto → Prop} : Ok (fin n0 rl r) Q E = OkS r (fun f s => match f with
  | .rt d => Ok (retF n0 rl d s) Q E
  | .nx _ => Q (.p .non) (s.take n0)
  | _ => False) (fun k _ s => E k (s.take n0)) := by
  cases r with
  | ok f s => cases f <;> rfl
  | exn => rfl
  | stk => rfl
end
section
variable {Q : D → Sto → Prop}
@[simp ↓] theorem ok_retP {n0 : Nat} {rl : Bool} {x : P} : Ok (retF n0 rl (.p x) s) Q E = Q (.p x) (s.take n0) := propext Iff.rfl
/-- a def is called -/
theorem ok_call {fns : List Fn} {f : Nat} {fn : Fn} {n : Nat} {ds : List D} (h : fns[f]? = some fn) (hl : ds.length = fn.np) (hb : ∀ c : Cl, c.C = callF (Tb fns) n → OkS (fn.body c (EV.start fn.nl ds) s) (fun f s1 => match f with
  | .rt d => Ok (retF s.length fn.rl d s1) Q E
  | .nx _ => Q (.p .non) (s1.take s.length)
  | _ => False) (fun k _ s1 => E k (s1.take s.length))) : Ok (callF (Tb fns) (n + 1) f ds s) Q E := by
  obtain ⟨c, hc, e⟩ := call_at h n
  rw [e ds s hl, ok_fin]
  exact hb c hc
theorem ok_callL {fns : List Fn} {f : Nat} {fn : Fn} {n : Nat} {ds : List D} (h : fns[f]? = some fn) (hl : ds.length = fn.np) (hb : ∀ c : Cl, c.C = callF (Tb fns) (n + 3) → c.lo = callF (Tb fns) n → c.lam = lamT (Tb fns) → OkS (fn.body c (EV.start fn.nl ds) s) (fun f s1 => match f with
  | .rt d => Ok (retF s.length fn.rl d s1) Q E
  | .nx _ => Q (.p .non) (s1.take s.length)
  | _ => False) (fun k _ s1 => E k (s1.take s.length))) : Ok (callF (Tb fns) (n + 4) f ds s) Q E := by
  obtain ⟨c, hc, h2, h3, e⟩ := call_lam h n
  rw [e ds s hl, ok_fin]
  exact hb c hc h2 h3
end
end
end EV
end
section
/-! PlH: the rules without a choice. -/
namespace EV
open PySem
abbrev Tg1 {α : Type} (Q : α → Prop) : Type := Unit
def Has {α : Type} (o : Option α) (Q : α → Prop) (_ : Tg1 Q := ()) : Prop := ∃ a, o = some a ∧ Q a
section
variable {α β : Type} {Q : α → Prop} {o : Option α}
@[simp] theorem has_some {a : α} : Has (some a) Q = Q a := by simp [Has]
@[simp] theorem has_none : Has (none : Option α) Q = False := by simp [Has]
@[simp] theorem has_map {f : β → α} {o : Option β} : Has (o.map f) Q = Has o (fun b => Q (f b)) := by
  cases o <;> simp
@[simp] theorem has_ite {p : Prop} [Decidable p] {x y : Option α} : Has (if p then x else y) Q = ((p → Has x Q) ∧ (¬p → Has y Q)) := by
  by_cases h : p <;> simp [h]
theorem Has.of {a : α} (h : o = some a) (q : Q a) : Has o Q := ⟨a, h, q⟩
end
def asB : D → Option Bool
  | .p (.bl b) => some b
  | _ => none
def asI : D → Option Int
  | .p (.int b) => some b
  | _ => none
def asP : D → Option P
  | .p x => some x
  | _ => none
@[simp] theorem asB_bl {b : Bool} : asB (.p (.bl b)) = some b := rfl
@[simp] theorem asI_int {b : Int} : asI (.p (.int b)) = some b := rfl
@[simp] theorem asP_p {b : P} : asP (.p b) = some b := rfl
theorem asB_eq {x : D} {k : Bool} : x = .p (.bl k) ↔ asB x = some k := by
  cases x with
  | p y => cases y <;> simp [asB]
  | _ => simp [asB]
theorem asI_eq {x : D} {k : Int} : x = .p (.int k) ↔ asI x = some k := by
  unfold asI
  split <;> simp_all
theorem asP_eq {x : D} {k : P} : x = .p k ↔ asP x = some k := by
  unfold asP
  split <;> simp_all
def itemsP : P → Option (List P)
  | .lst xs => some xs
  | .tup xs => some xs
  | _ => none
section
variable {α β : Type} {E : Nat → Sto → Prop} {c : Cl} {σ : Sg} {s : Sto} {a b d : ME} {ar : MA}
section
variable {Q : D → Sto → Prop}
def slotO : Option (Option D) → Option D
  | some (some (.p x)) => some (.p x)
  | some (some (.loc l)) => some (.loc l)
  | _ => none
@[simp] theorem slotO_p {x : P} : slotO (some (some (.p x))) = some (.p x) := rfl
@[simp] theorem slotO_l {l : Nat} : slotO (some (some (.loc l))) = some (.loc l) := rfl
@[simp] theorem slotO_n : slotO (some none) = none := rfl
@[simp ↓] theorem ok_eVar {i : Nat} : Ok (eVar i c σ s) Q E = Has (slotO σ[i]?) fun d => Q d s := by
  rw [ok_eVar_0]
  cases h : σ[i]? with
  | none => simp [slotO]
  | some o =>
    cases o with
    | none => simp
    | some d => cases d <;> simp [slotO]
@[simp ↓] theorem ok_op2 {f : P → P → Option P} {x y : D} : Ok (op2 f x y s) Q E = Has (rd s x) fun p => Has (rd s y) fun q => Has (f p q) fun r => Q (.p r) s := by
  rw [ok_op2_0]; repeat (refine cgQ fun _ _ => ?_)
  all_goals simp only [Has, exists_and_left]
@[simp ↓] theorem ok_op1 {f : P → Option P} {x : D} : Ok (op1 f x s) Q E = Has (rd s x) fun p => Has (f p) fun r => Q (.p r) s := by
  rw [ok_op1_0]; repeat (refine cgQ fun _ _ => ?_)
  all_goals simp only [Has, exists_and_left]
@[simp ↓] theorem ok_eAnd : Ok (eAnd a b c σ s) Q E = Ok (a c σ s) (fun x s1 => match x with
  | .p (.bl k) => (k = true → Ok (b c σ s1) Q E) ∧ (k = false → Q (.p (.bl false)) s1)
  | x => Ok (truM x s1) (fun k s2 => (k = true → Ok (b c σ s2) Q E) ∧ (k = false → Q x s2)) E) E := ok_eAnd_0
@[simp ↓] theorem ok_eOr : Ok (eOr a b c σ s) Q E = Ok (a c σ s) (fun x s1 => match x with
  | .p (.bl k) => (k = false → Ok (b c σ s1) Q E) ∧ (k = true → Q (.p (.bl true)) s1)
  | x => Ok (truM x s1) (fun k s2 => (k = false → Ok (b c σ s2) Q E) ∧ (k = true → Q x s2)) E) E := ok_eOr_0
theorem ok_cmp2n {o : Cop} {x y : D} {Q : Bool → Sto → Prop} (h : o.inB = none) : Ok (cmp2 o x y s) Q E = Has (rd s x) fun p => Has (rd s y) fun q => Has (cmpP o p q) fun k => Q k s := by
  rw [ok_cmp2n_0 h]; repeat (refine cgQ fun _ _ => ?_)
  all_goals simp only [Has, exists_and_left]
@[simp ↓] theorem ok_ixP {x : P} {y : D} : Ok (ixD (.p x) y s) Q E = Has (rd s y) fun q => Has (ixP x q) fun r => Q (.p r) s := by
  rw [ok_ixP_0]; repeat (refine cgQ fun _ _ => ?_)
  all_goals simp only [Has, exists_and_left]
theorem ok_ixL {l : Nat} {xs : List P} {y : D} (h : s[l]? = some (.lst xs)) : Ok (ixD (.loc l) y s) Q E = Has (rd s y) fun q => Has (ixP (.lst xs) q) fun r => Q (.p r) s := by
  rw [ok_ixD]
  have h1 : dctOf s (.loc l) = none := by unfold dctOf; simp only [h]
  have h2 : rd s (.loc l) = some (.lst xs) := by unfold rd; simp only [h]
  rw [h1]
  simp only [h2, Has, exists_and_left, Option.some.injEq, exists_eq_left']
@[simp ↓] theorem ok_oSome {Q : Option Int → Sto → Prop} : Ok (oSome a c σ s) Q E = Ok (a c σ s) (fun x s1 => Has (asI x) fun i => Q (some i) s1) E := by
  rw [ok_oSome_0]; repeat (refine cgQ fun _ _ => ?_)
  all_goals simp only [Has, asI_eq]
@[simp ↓] theorem ok_eSl {lo hi : MO'} : Ok (eSl a lo hi c σ s) Q E = Ok (a c σ s) (fun x s1 => Ok (lo c σ s1) (fun l s2 => Ok (hi c σ s2) (fun h s3 => Has (rd s3 x) fun p => Has (slP p l h) fun r => Q (.p r) s3) E) E) E := by
  rw [ok_eSl_0]; repeat (refine cgQ fun _ _ => ?_)
  all_goals simp only [Has, exists_and_left]
theorem ex_pair {α β : Type} {o : Option (α × β)} {R : α → β → Prop} {p : Prop} : (∃ x y, p ∧ o = some (x, y) ∧ R x y) = (p ∧ Has o fun q => R q.1 q.2) := by
  refine propext ⟨?_, ?_⟩
  · rintro ⟨x, y, h, e, r⟩
    exact ⟨h, (x, y), e, r⟩
  · rintro ⟨h, q, e, r⟩
    exact ⟨q.1, q.2, h, e, r⟩
@[simp ↓] theorem ok_tupD {ds : List D} : Ok (tupD ds s) Q E = (ds.length ≤ L ∧ Has (frzL s ds) fun q => Q (.p (.tup q.1)) q.2) := by
  rw [ok_tupD_0, ex_pair (R := fun xs s1 => Q (.p (.tup xs)) s1)]
@[simp ↓] theorem ok_lstD {ds : List D} : Ok (lstD ds s) Q E = (ds.length ≤ L ∧ Has (frzL s ds) fun q => Q (.p (.lst q.1)) q.2) := by
  rw [ok_lstD_0, ex_pair (R := fun xs s1 => Q (.p (.lst xs)) s1)]
@[simp ↓] theorem ok_lstM {ds : List D} : Ok (lstM ds s) Q E = (ds.length ≤ L ∧ Has (frzL s ds) fun q => Q (.loc q.2.length) (q.2 ++ [.lst q.1])) := by
  rw [ok_lstM_0]
  exact ex_pair (R := fun (xs : List P) (s1 : Sto) => Q (.loc s1.length) (s1 ++ [.lst xs]))
@[simp ↓] theorem ok_b1P {o : B1} {x : P} : Ok (b1D o (.p x) s) Q E = Has (b1P o x) fun r => Q (.p r) s := by
  rw [ok_b1P_0]; rfl
theorem ok_b1L {o : B1} {l : Nat} {xs : List P} (h : s[l]? = some (.lst xs)) : Ok (b1D o (.loc l) s) Q E = Has (b1P o (.lst xs)) fun r => Q (.p r) s := by
  rw [ok_b1D]
  have h1 : dctOf s (.loc l) = none := by unfold dctOf; simp only [h]
  have h2 : rd s (.loc l) = some (.lst xs) := by unfold rd; simp only [h]
  rw [h1]
  cases o <;> simp [h2, Has]
@[simp ↓] theorem ok_eListM : Ok (eListM a c σ s) Q E = Ok (a c σ s) (fun x s1 => Has (rd s1 x) fun p => Has (itemsP p) fun xs => Q (.loc s1.length) (s1 ++ [.lst xs])) E := by
  rw [ok_eListM_0]
  refine cgQ fun x s1 => ?_
  refine propext ⟨?_, ?_⟩
  · rintro ⟨xs, h | h, q⟩
    · exact ⟨_, h, xs, rfl, q⟩
    · exact ⟨_, h, xs, rfl, q⟩
  · rintro ⟨p, h, xs, h2, q⟩
    unfold itemsP at h2
    split at h2 <;> cases h2
    · exact ⟨_, .inl h, q⟩
    · exact ⟨_, .inr h, q⟩
@[simp ↓] theorem ok_eIsi {ty : Ty} : Ok (eIsi a ty c σ s) Q E = Ok (a c σ s) (fun x s1 => Has (rd s1 x) fun p => Has (isiP p ty) fun k => Q (.p (.bl k)) s1) E := by
  rw [ok_eIsi_0]; repeat (refine cgQ fun _ _ => ?_)
  all_goals simp only [Has, exists_and_left]
@[simp ↓] theorem ok_appD {l : Nat} {y : D} : Ok (appD (.loc l) y s) Q E = Has (frz s y) fun q => ∃ xs, q.2[l]? = some (.lst xs) ∧ xs.length < L ∧ Q (.p .non) (q.2.set l (.lst (xs ++ [q.1]))) := by
  rw [ok_appD_0]
  refine propext ⟨?_, ?_⟩
  · rintro ⟨v, s1, xs, e, h⟩
    exact ⟨(v, s1), e, xs, h⟩
  · rintro ⟨q, e, xs, h⟩
    exact ⟨q.1, q.2, xs, e, h⟩
end
@[simp ↓] theorem ok_truM {x : D} {Q : Bool → Sto → Prop} : Ok (truM x s) Q E = Has (rd s x) fun p => Has (truP p) fun k => Q k s := by
  rw [ok_truM_0]; repeat (refine cgQ fun _ _ => ?_)
  all_goals simp only [Has, exists_and_left]
@[simp ↓] theorem ok_tV {Q : Bool → Sto → Prop} : Ok (tV a c σ s) Q E = Ok (a c σ s) (fun x s1 => Has (rd s1 x) fun p => Has (truP p) fun k => Q k s1) E := by
  rw [ok_tV_0]; repeat (refine cgQ fun _ _ => ?_)
  all_goals simp only [Has, exists_and_left]
@[simp ↓] theorem ok_setD {Q : Sg → Sto → Prop} {l : Nat} {x y : D} : Ok (setD x (.loc l) y σ s) Q E = Has (frz s x) fun q => Ok (setO l q.1 y σ q.2) Q E := by
  rw [ok_setD_0]
  refine propext ⟨?_, ?_⟩
  · rintro ⟨v, s1, e, h⟩
    exact ⟨(v, s1), e, h⟩
  · rintro ⟨q, e, h⟩
    exact ⟨q.1, q.2, e, h⟩
section
variable {Q : List P × Option Nat → Sto → Prop}
@[simp ↓] theorem ok_wRng1 : Ok (wRng1 a c σ s) Q E = Ok (a c σ s) (fun x s1 => Has (asI x) fun j => bnd j = true ∧ Q (rngL 0 j.toNat, none) s1) E := by
  rw [ok_wRng1_0]; repeat (refine cgQ fun _ _ => ?_)
  all_goals simp only [Has, asI_eq]
@[simp ↓] theorem ok_wRng2 : Ok (wRng2 a b c σ s) Q E = Ok (a c σ s) (fun x s1 => Ok (b c σ s1) (fun y s2 => Has (asI x) fun i => Has (asI y) fun j => (bnd i && bnd j) = true ∧ Q (rngL i (j - i).toNat, none) s2) E) E := by
  rw [ok_wRng2_0]; repeat (refine cgQ fun _ _ => ?_)
  all_goals simp only [Has, asI_eq, exists_and_left]
@[simp ↓] theorem ok_wZip : Ok (wZip a b c σ s) Q E = Ok (a c σ s) (fun x s1 => Ok (b c σ s1) (fun y s2 => Has (asP x) fun p => Has (asP y) fun q => Has (zipP p q) fun zs => Q (zs, none) s2) E) E := by
  rw [ok_wZip_0]; repeat (refine cgQ fun _ _ => ?_)
  all_goals simp only [Has, asP_eq, exists_and_left]
end
end
end EV
end
section
/-! Pl3: plain facts for runs. -/
namespace EV
open PySem
@[simp] theorem wipeD_nil {σ : Sg} : wipeD σ [] = σ := rfl
@[simp] theorem wipeD_cons {σ : Sg} {v : Nat} {vs : List Nat} : wipeD σ (v :: vs) = (wipeD σ vs).set v none := rfl
@[simp] theorem frz_p {s : Sto} {x : P} : frz s (.p x) = some (x, s) := rfl
@[simp] theorem frzL_nil {s : Sto} : frzL s [] = some ([], s) := rfl
@[simp] theorem frzL_p {s : Sto} {x : P} {ds : List D} : frzL s (.p x :: ds) = (frzL s ds).map fun q => (x :: q.1, q.2) := by
  simp only [frzL, frz_p]
  cases frzL s ds <;> rfl
@[simp] theorem rd_p {s : Sto} {x : P} : rd s (.p x) = some x := rfl
@[simp] theorem dctOf_p {s : Sto} {x : P} : dctOf s (.p x) = none := rfl
theorem rd_loc {s : Sto} {l : Nat} {xs : List P} (h : s[l]? = some (.lst xs)) : rd s (.loc l) = some (.lst xs) := by
  unfold rd
  simp only [h]
theorem dct_lst {s : Sto} {l : Nat} {xs : List P} (h : s[l]? = some (.lst xs)) : dctOf s (.loc l) = none := by
  unfold dctOf
  simp only [h]
theorem dct_loc {s : Sto} {l : Nat} {xs : List (Ky × P)} (h : s[l]? = some (.dct xs)) : dctOf s (.loc l) = some xs := by
  unfold dctOf
  simp only [h]
@[simp] theorem still_none {s : Sto} {xs : List P} : still s xs none = true := rfl
@[simp] theorem inB_lt : Cop.inB .lt = none := rfl
@[simp] theorem inB_le : Cop.inB .le = none := rfl
@[simp] theorem inB_gt : Cop.inB .gt = none := rfl
@[simp] theorem inB_ge : Cop.inB .ge = none := rfl
@[simp] theorem inB_eq : Cop.inB .eq = none := rfl
@[simp] theorem inB_ne : Cop.inB .ne = none := rfl
@[simp] theorem inB_isn : Cop.inB .isn = none := rfl
@[simp] theorem inB_notn : Cop.inB .notn = none := rfl
@[simp] theorem inB_isb : Cop.inB .isb = none := rfl
@[simp] theorem inB_notb : Cop.inB .notb = none := rfl
@[simp] theorem cmpP_lt {i j : Int} : cmpP .lt (.int i) (.int j) = some (decide (i < j)) := rfl
@[simp] theorem cmpP_le {i j : Int} : cmpP .le (.int i) (.int j) = some (decide (i ≤ j)) := rfl
@[simp] theorem cmpP_gt {i j : Int} : cmpP .gt (.int i) (.int j) = some (decide (j < i)) := rfl
@[simp] theorem cmpP_ge {i j : Int} : cmpP .ge (.int i) (.int j) = some (decide (j ≤ i)) := rfl
@[simp] theorem cmpP_eq {a b : P} : cmpP .eq a b = eqP a b := rfl
@[simp] theorem cmpP_ne {a b : P} : cmpP .ne a b = (eqP a b).map (!·) := rfl
@[simp] theorem cmpP_isn {a : P} : cmpP .isn a .non = some a.isNon := by cases a <;> rfl
@[simp] theorem cmpP_notn {a : P} : cmpP .notn a .non = some (!a.isNon) := by cases a <;> rfl
@[simp] theorem isNon_non : P.isNon .non = true := rfl
@[simp] theorem isNon_int {i : Int} : P.isNon (.int i) = false := rfl
@[simp] theorem isNon_bl {i : Bool} : P.isNon (.bl i) = false := rfl
@[simp] theorem isNon_str {i : Str} : P.isNon (.str i) = false := rfl
@[simp] theorem isNon_tup {i : List P} : P.isNon (.tup i) = false := rfl
@[simp] theorem isNon_lst {i : List P} : P.isNon (.lst i) = false := rfl
@[simp] theorem isNon_ed : P.isNon .ed = false := rfl
@[simp] theorem addP_int {i j : Int} : addP (.int i) (.int j) = some (.int (i + j)) := rfl
@[simp] theorem iaddP_int {i j : Int} : iaddP (.int i) (.int j) = some (.int (i + j)) := rfl
@[simp] theorem subP_int {i j : Int} : subP (.int i) (.int j) = some (.int (i - j)) := rfl
@[simp] theorem negP_int {i : Int} : negP (.int i) = some (.int (-i)) := rfl
@[simp] theorem notP_bl {b : Bool} : notP (.bl b) = some (.bl (!b)) := rfl
@[simp] theorem truP_bl {b : Bool} : truP (.bl b) = some b := rfl
@[simp] theorem truP_int {i : Int} : truP (.int i) = some (i != 0) := rfl
@[simp] theorem truP_tup {xs : List P} : truP (.tup xs) = some (!xs.isEmpty) := rfl
@[simp] theorem truP_lst {xs : List P} : truP (.lst xs) = some (!xs.isEmpty) := rfl
@[simp] theorem truP_non : truP .non = some false := rfl
@[simp] theorem lenP_tup {xs : List P} : lenP (.tup xs) = some (.int xs.length) := rfl
@[simp] theorem lenP_lst {xs : List P} : lenP (.lst xs) = some (.int xs.length) := rfl
@[simp] theorem b1P_len {x : P} : b1P .len x = lenP x := rfl
@[simp] theorem b1P_tl {xs : List P} : b1P .tuple (.lst xs) = some (.tup xs) := rfl
@[simp] theorem b1P_tt {xs : List P} : b1P .tuple (.tup xs) = some (.tup xs) := rfl
@[simp] theorem b1P_ll {xs : List P} : b1P .list (.lst xs) = some (.lst xs) := rfl
@[simp] theorem b1P_lt {xs : List P} : b1P .list (.tup xs) = some (.lst xs) := rfl
@[simp] theorem b1P_int {i : Int} : b1P .int (.int i) = some (.int i) := rfl
theorem blsP_of (f : P → Bool) : ∀ xs : List P, blsP (xs.map fun x => .bl (f x)) = some (xs.map f)
  | [] => rfl
  | x :: xs => by simp only [List.map_cons, blsP, blsP_of f xs, Option.map_some]
theorem intsP_of (f : P → Int) : ∀ xs : List P, intsP (xs.map fun x => .int (f x)) = some (xs.map f)
  | [] => rfl
  | x :: xs => by simp only [List.map_cons, intsP, intsP_of f xs, Option.map_some]
theorem intsP_ints : ∀ xs : List Int, intsP (xs.map .int) = some xs
  | [] => rfl
  | x :: xs => by simp only [List.map_cons, intsP, intsP_ints xs, Option.map_some]
@[simp] theorem all_map {α : Type} {f : α → Bool} {xs : List α} : b1P .all (.lst (xs.map fun x => .bl (f x))) = some (.bl (xs.all f)) := by
  have : blsP (xs.map fun x => .bl (f x)) = some (xs.map f) := by
    induction xs with
    | nil => rfl
    | cons x xs ih => simp only [List.map_cons, blsP, ih, Option.map_some]
  simp only [b1P, this, Option.map_some, List.all_map]
  rfl
@[simp] theorem any_map {α : Type} {f : α → Bool} {xs : List α} : b1P .any (.lst (xs.map fun x => .bl (f x))) = some (.bl (xs.any f)) := by
  have : blsP (xs.map fun x => .bl (f x)) = some (xs.map f) := by
    induction xs with
    | nil => rfl
    | cons x xs ih => simp only [List.map_cons, blsP, ih, Option.map_some]
  simp only [b1P, this, Option.map_some, List.any_map]
  rfl
@[simp] theorem sum_map {α : Type} {f : α → Int} {xs : List α} : b1P .sum (.lst (xs.map fun x => .int (f x))) = some (.int (xs.map f).sum) := by
  have : intsP (xs.map fun x => .int (f x)) = some (xs.map f) := by
    induction xs with
    | nil => rfl
    | cons x xs ih => simp only [List.map_cons, intsP, ih, Option.map_some]
  simp only [b1P, this, Option.map_some]
@[simp ↓] theorem ok_cmp_lt {s : Sto} {x y : D} {Q : Bool → Sto → Prop} {E : Nat → Sto → Prop} : Ok (cmp2 .lt x y s) Q E = Has (rd s x) fun p => Has (rd s y) fun q => Has (cmpP .lt p q) fun k => Q k s := ok_cmp2n rfl
@[simp ↓] theorem ok_cmp_le {s : Sto} {x y : D} {Q : Bool → Sto → Prop} {E : Nat → Sto → Prop} : Ok (cmp2 .le x y s) Q E = Has (rd s x) fun p => Has (rd s y) fun q => Has (cmpP .le p q) fun k => Q k s := ok_cmp2n rfl
@[simp ↓] theorem ok_cmp_gt {s : Sto} {x y : D} {Q : Bool → Sto → Prop} {E : Nat → Sto → Prop} : Ok (cmp2 .gt x y s) Q E = Has (rd s x) fun p => Has (rd s y) fun q => Has (cmpP .gt p q) fun k => Q k s := ok_cmp2n rfl
@[simp ↓] theorem ok_cmp_ge {s : Sto} {x y : D} {Q : Bool → Sto → Prop} {E : Nat → Sto → Prop} : Ok (cmp2 .ge x y s) Q E = Has (rd s x) fun p => Has (rd s y) fun q => Has (cmpP .ge p q) fun k => Q k s := ok_cmp2n rfl
@[simp ↓] theorem ok_cmp_eq {s : Sto} {x y : D} {Q : Bool → Sto → Prop} {E : Nat → Sto → Prop} : Ok (cmp2 .eq x y s) Q E = Has (rd s x) fun p => Has (rd s y) fun q => Has (cmpP .eq p q) fun k => Q k s := ok_cmp2n rfl
@[simp ↓] theorem ok_cmp_ne {s : Sto} {x y : D} {Q : Bool → Sto → Prop} {E : Nat → Sto → Prop} : Ok (cmp2 .ne x y s) Q E = Has (rd s x) fun p => Has (rd s y) fun q => Has (cmpP .ne p q) fun k => Q k s := ok_cmp2n rfl
@[simp ↓] theorem ok_cmp_isn {s : Sto} {x y : D} {Q : Bool → Sto → Prop} {E : Nat → Sto → Prop} : Ok (cmp2 .isn x y s) Q E = Has (rd s x) fun p => Has (rd s y) fun q => Has (cmpP .isn p q) fun k => Q k s := ok_cmp2n rfl
@[simp ↓] theorem ok_cmp_notn {s : Sto} {x y : D} {Q : Bool → Sto → Prop} {E : Nat → Sto → Prop} : Ok (cmp2 .notn x y s) Q E = Has (rd s x) fun p => Has (rd s y) fun q => Has (cmpP .notn p q) fun k => Q k s := ok_cmp2n rfl
@[simp ↓] theorem ok_cmp_isb {s : Sto} {x y : D} {Q : Bool → Sto → Prop} {E : Nat → Sto → Prop} : Ok (cmp2 .isb x y s) Q E = Has (rd s x) fun p => Has (rd s y) fun q => Has (cmpP .isb p q) fun k => Q k s := ok_cmp2n rfl
@[simp ↓] theorem ok_cmp_notb {s : Sto} {x y : D} {Q : Bool → Sto → Prop} {E : Nat → Sto → Prop} : Ok (cmp2 .notb x y s) Q E = Has (rd s x) fun p => Has (rd s y) fun q => Has (cmpP .notb p q) fun k => Q k s := ok_cmp2n rfl
theorem ixP_nat {xs : List P} {i : Nat} (h : i < xs.length) : ixP (.tup xs) (.int i) = xs[i]? := by
  simp only [ixP, L2.ixN]
  rw [if_pos (by omega), if_pos (by omega)]
  simp
theorem ixP_natL {xs : List P} {i : Nat} (h : i < xs.length) : ixP (.lst xs) (.int i) = xs[i]? := by
  simp only [ixP, L2.ixN]
  rw [if_pos (by omega), if_pos (by omega)]
  simp
@[simp] theorem ixP_t0 {x : P} {xs : List P} : ixP (.tup (x :: xs)) (.int 0) = some x := by
  have := ixP_nat (xs := x :: xs) (i := 0) (by simp)
  simpa using this
@[simp] theorem ixP_t1 {x y : P} {xs : List P} : ixP (.tup (x :: y :: xs)) (.int 1) = some y := by
  have := ixP_nat (xs := x :: y :: xs) (i := 1) (by simp)
  simpa using this
@[simp] theorem ixP_t2 {x y z : P} {xs : List P} : ixP (.tup (x :: y :: z :: xs)) (.int 2) = some z := by
  have := ixP_nat (xs := x :: y :: z :: xs) (i := 2) (by simp)
  simpa using this
@[simp] theorem ixP_t3 {x y z w : P} {xs : List P} : ixP (.tup (x :: y :: z :: w :: xs)) (.int 3) = some w := by
  have := ixP_nat (xs := x :: y :: z :: w :: xs) (i := 3) (by simp)
  simpa using this
@[simp] theorem ixP_l0 {x : P} {xs : List P} : ixP (.lst (x :: xs)) (.int 0) = some x := by
  have := ixP_natL (xs := x :: xs) (i := 0) (by simp)
  simpa using this
@[simp] theorem ixP_l1 {x y : P} {xs : List P} : ixP (.lst (x :: y :: xs)) (.int 1) = some y := by
  have := ixP_natL (xs := x :: y :: xs) (i := 1) (by simp)
  simpa using this
@[simp] theorem ixP_l2 {x y z : P} {xs : List P} : ixP (.lst (x :: y :: z :: xs)) (.int 2) = some z := by
  have := ixP_natL (xs := x :: y :: z :: xs) (i := 2) (by simp)
  simpa using this
@[simp] theorem ixP_l3 {x y z w : P} {xs : List P} : ixP (.lst (x :: y :: z :: w :: xs)) (.int 3) = some w := by
  have := ixP_natL (xs := x :: y :: z :: w :: xs) (i := 3) (by simp)
  simpa using this
@[simp] theorem ixP_l4 {x y z w u : P} {xs : List P} : ixP (.lst (x :: y :: z :: w :: u :: xs)) (.int 4) = some u := by
  have := ixP_natL (xs := x :: y :: z :: w :: u :: xs) (i := 4) (by simp)
  simpa using this
theorem ixN_last {n : Nat} (h : n ≠ 0) : L2.ixN n (-1) = some (n - 1) := by
  unfold L2.ixN
  rw [if_neg (by omega), if_pos (by omega)]
  congr 1
  omega
@[simp] theorem ixP_tm {xs : List P} : ixP (.tup xs) (.int (-1)) = xs.getLast? := by
  cases xs with
  | nil => rfl
  | cons x r =>
    simp only [ixP]
    rw [ixN_last (by simp), List.getLast?_eq_getElem?]
@[simp] theorem ixP_lm {xs : List P} : ixP (.lst xs) (.int (-1)) = xs.getLast? := by
  cases xs with
  | nil => rfl
  | cons x r =>
    simp only [ixP]
    rw [ixN_last (by simp), List.getLast?_eq_getElem?]
@[simp] theorem slP_t {xs : List P} {l h : Option Int} : slP (.tup xs) l h = some (.tup (cut xs l h)) := rfl
@[simp] theorem slP_l {xs : List P} {l h : Option Int} : slP (.lst xs) l h = some (.lst (cut xs l h)) := rfl
@[simp] theorem zipP_t {xs ys : List P} : zipP (.tup xs) (.tup ys) = some (zipT xs ys) := rfl
@[simp] theorem zipP_l {xs ys : List P} : zipP (.lst xs) (.lst ys) = some (zipT xs ys) := rfl
theorem cut_from {xs : List P} {k : Nat} : cut xs (some (k : Int)) none = xs.drop k := by
  unfold cut
  rw [HT.sIx_nat, HT.sIx_none]
  by_cases h : k ≤ xs.length
  · rw [Nat.min_eq_left h, List.take_of_length_le (by simp)]
  · rw [Nat.min_eq_right (by omega), List.drop_of_length_le (by omega), List.drop_of_length_le (by omega)]
    simp
theorem cut_to {xs : List P} {k : Nat} : cut xs none (some (k : Int)) = xs.take k := by
  unfold cut
  rw [HT.sIx_nat, HT.sIx_none]
  simp only [List.drop_zero, Nat.sub_zero]
  by_cases h : k ≤ xs.length
  · rw [Nat.min_eq_left h]
  · rw [Nat.min_eq_right (by omega), List.take_of_length_le (by omega), List.take_of_length_le (by omega)]
@[simp] theorem cut_from1 {xs : List P} : cut xs (some 1) none = xs.drop 1 := cut_from (k := 1)
@[simp] theorem cut_to1 {xs : List P} : cut xs none (some 1) = xs.take 1 := cut_to (k := 1)
/-! ### == -/
mutual
def P.peq : P → P → Bool
  | .non, .non => true
  | .bl a, .bl b => a == b
  | .bl a, .int j => (if a then 1 else 0) == j
  | .int i, .bl b => i == (if b then 1 else 0)
  | .int i, .int j => i == j
  | .str x, .str y => x == y
  | .lst xs, .lst ys => P.peqL xs ys
  | .tup xs, .tup ys => P.peqL xs ys
  | _, _ => false
def P.peqL : List P → List P → Bool
  | [], [] => true
  | x :: xs, y :: ys => P.peq x y && P.peqL xs ys
  | _, _ => false
end
mutual
/-- == is known of it, no deeper than k -/
def P.lay : Nat → P → Bool
  | _, .non => true
  | _, .bl _ => true
  | _, .int _ => true
  | _, .str s => PyData.canLay0 (.str s)
  | 0, .tup _ => false
  | 0, .lst _ => false
  | k + 1, .tup xs => P.layL k xs
  | k + 1, .lst xs => P.layL k xs
  | _, .ed => false
  | _, .fn _ => false
def P.layL : Nat → List P → Bool
  | _, [] => true
  | k, x :: xs => P.lay k x && P.layL k xs
end
mutual
theorem lay_py : ∀ (k : Nat) (x : P), P.lay k x = true → ∃ d, P.py x = some d ∧ d.depth ≤ k
  | k, .non, _ => ⟨.none, by simp [P.py], by simp [PyData.depth]⟩
  | k, .bl b, _ => ⟨.bool b, by simp [P.py], by simp [PyData.depth]⟩
  | k, .int b, _ => ⟨.int b, by simp [P.py], by simp [PyData.depth]⟩
  | k, .str b, h => ⟨.str b, by simp [P.lay] at h; simp [P.py, h], by simp [PyData.depth]⟩
  | 0, .tup xs, h => by simp [P.lay] at h
  | 0, .lst xs, h => by simp [P.lay] at h
  | k + 1, .tup xs, h => by
    obtain ⟨ds, h1, h2⟩ := layL_py k xs (by simpa [P.lay] using h)
    exact ⟨.tuple ds, by simp [P.py, h1], by simpa [PyData.depth] using h2⟩
  | k + 1, .lst xs, h => by
    obtain ⟨ds, h1, h2⟩ := layL_py k xs (by simpa [P.lay] using h)
    exact ⟨.list ds, by simp [P.py, h1], by simpa [PyData.depth] using h2⟩
  | k, .ed, h => by cases k <;> simp [P.lay] at h
  | k, .fn _, h => by cases k <;> simp [P.lay] at h
theorem layL_py : ∀ (k : Nat) (xs : List P), P.layL k xs = true → ∃ ds, P.pyL xs = some ds ∧ PyData.depthAll ds ≤ k
  | k, [], _ => ⟨[], by simp [P.pyL], by simp [PyData.depthAll]⟩
  | k, x :: xs, h => by
    simp only [P.layL, Bool.and_eq_true] at h
    obtain ⟨d, h1, h2⟩ := lay_py k x h.1
    obtain ⟨ds, h3, h4⟩ := layL_py k xs h.2
    exact ⟨d :: ds, by simp [P.pyL, h1, h3], by simp [PyData.depthAll]; omega⟩
end
mutual
theorem peq_py : ∀ (x y : P) (d e : PyData), P.py x = some d → P.py y = some e → PyData.eqv d e = P.peq x y
  | x, y, d, e, h1, h2 => by
    cases x <;> cases y <;> simp only [P.py, Option.map_eq_some_iff, Option.ite_none_right_eq_some, Option.some.injEq, reduceCtorEq] at h1 h2 <;>
      (first | subst h1 | (obtain ⟨_, rfl⟩ := h1) | (obtain ⟨u, h1, rfl⟩ := h1)) <;> (first | subst h2 | (obtain ⟨_, rfl⟩ := h2) | (obtain ⟨v, h2, rfl⟩ := h2)) <;> simp only [PyData.eqv, P.peq] <;> exact peqL_py _ _ _ _ h1 h2
theorem peqL_py : ∀ (x y : List P) (d e : List PyData), P.pyL x = some d → P.pyL y = some e → PyData.eqvAll d e = P.peqL x y
  | [], [], d, e, h1, h2 => by
    simp [P.pyL] at h1 h2
    subst h1 h2
    rfl
  | [], y :: ys, d, e, h1, h2 => by
    simp [P.pyL] at h1 h2
    subst h1
    split at h2 <;> simp at h2
    subst h2
    rfl
  | x :: xs, [], d, e, h1, h2 => by
    simp [P.pyL] at h1 h2
    subst h2
    split at h1 <;> simp at h1
    subst h1
    rfl
  | x :: xs, y :: ys, d, e, h1, h2 => by
    simp only [P.pyL] at h1 h2
    split at h1 <;> simp at h1
    split at h2 <;> simp at h2
    subst h1 h2
    simp only [PyData.eqvAll, P.peqL]
    rw [peq_py _ _ _ _ (by assumption) (by assumption), peqL_py _ _ _ _ (by assumption) (by assumption)]
end
theorem eqP_lay {a b : P} (ha : P.lay 64 a = true) (hb : P.lay 64 b = true) : eqP a b = some (P.peq a b) := by
  obtain ⟨d, h1, h2⟩ := lay_py 64 a ha
  obtain ⟨e, h3, h4⟩ := lay_py 64 b hb
  unfold eqP
  split
  · rename_i x y
    by_cases h : x = y <;> simp [P.peq, h]
  unfold eqQ
  rw [h1, h3]
  simp only
  rw [if_pos ⟨h2, h4⟩, peq_py _ _ _ _ h1 h3]
@[simp] theorem eqP_int {i j : Int} : eqP (.int i) (.int j) = some (i == j) := by
  rw [eqP_lay (by simp [P.lay]) (by simp [P.lay])]
  simp [P.peq]
@[simp] theorem eqP_bl {i j : Bool} : eqP (.bl i) (.bl j) = some (i == j) := by
  rw [eqP_lay (by simp [P.lay]) (by simp [P.lay])]
  simp [P.peq]
mutual
theorem lay_mono : ∀ {k m : Nat} {x : P}, P.lay k x = true → k ≤ m → P.lay m x = true
  | k, m, .non, _, _ | k, m, .bl _, _, _ | k, m, .int _, _, _ => by cases m <;> simp [P.lay]
  | k, m, .str _, h, _ => by cases m <;> simpa [P.lay] using h
  | 0, m, .tup xs, h, _ => by simp [P.lay] at h
  | 0, m, .lst xs, h, _ => by simp [P.lay] at h
  | k + 1, 0, .tup xs, h, hm => by omega
  | k + 1, 0, .lst xs, h, hm => by omega
  | k + 1, m + 1, .tup xs, h, hm => by
    simp only [P.lay] at h ⊢
    exact layL_mono h (by omega)
  | k + 1, m + 1, .lst xs, h, hm => by
    simp only [P.lay] at h ⊢
    exact layL_mono h (by omega)
  | k, m, .ed, h, _ => by cases k <;> simp [P.lay] at h
  | k, m, .fn _, h, _ => by cases k <;> simp [P.lay] at h
theorem layL_mono : ∀ {k m : Nat} {x : List P}, P.layL k x = true → k ≤ m → P.layL m x = true
  | k, m, [], _, _ => by simp [P.layL]
  | k, m, x :: xs, h, hm => by
    simp only [P.layL, Bool.and_eq_true] at h ⊢
    exact ⟨lay_mono h.1 hm, layL_mono h.2 hm⟩
end
theorem layL_all : ∀ {k : Nat} {xs : List P}, P.layL k xs = xs.all (P.lay k)
  | k, [] => by simp [P.layL]
  | k, x :: xs => by simp [P.layL, layL_all (k := k) (xs := xs)]
section
variable {E : Nat → Sto → Prop} {s : Sto} {Q : D → Sto → Prop} {l : Nat} {kvs : List (Ky × P)}
theorem ok_b1K (h : s[l]? = some (.dct kvs)) : Ok (b1D .list (.loc l) s) Q E = Q (.p (.lst (kvs.map fun q => kyP q.1))) s := by
  rw [ok_b1D, dct_loc h]
theorem ok_b1N (h : s[l]? = some (.dct kvs)) : Ok (b1D .len (.loc l) s) Q E = Q (.p (.int kvs.length)) s := by
  rw [ok_b1D, dct_loc h]
theorem ok_ixK {y : D} (h : s[l]? = some (.dct kvs)) : Ok (ixD (.loc l) y s) Q E = Has (keyD y) fun k => Has (dget k kvs) fun v => Q (.p v) s := by
  rw [ok_ixD, dct_loc h]
  simp only [Has, exists_and_left]
@[simp] theorem keyD_int {i : Int} : keyD (.p (.int i)) = some (.inl i) := rfl
@[simp] theorem keyD_str {i : Str} : keyD (.p (.str i)) = some (.inr i) := rfl
@[simp] theorem kyP_l {i : Int} : kyP (.inl i) = .int i := rfl
@[simp] theorem kyP_r {i : Str} : kyP (.inr i) = .str i := rfl
theorem last_get {s : Sto} {o : MO} : (s ++ [o])[s.length]? = some o := by simp
theorem last_set {s : Sto} {o o' : MO} : (s ++ [o]).set s.length o' = s ++ [o'] := by simp
theorem dct_last {s : Sto} {d : List (Ky × P)} : dctOf (s ++ [.dct d]) (.loc s.length) = some d := dct_loc last_get
end
@[simp] theorem b1P_sorted {xs : List Int} : b1P .sorted (.lst (xs.map .int)) = some (.lst ((isort xs).map .int)) := by
  simp only [b1P, intsP_ints, Option.map_some]
end EV
end
section
/-! Pl4: more plain facts. -/
namespace EV
open PySem
theorem rngL_len : ∀ {n : Nat} {i : Int}, (rngL i n).length = n
  | 0, _ => rfl
  | n + 1, i => by simp only [rngL, List.length_cons, rngL_len (n := n)]
theorem cut_from' {xs : List P} {k : Nat} : cut xs (some ((k : Int) + 1)) none = xs.drop (k + 1) := cut_from (k := k + 1)
theorem cut_mid {xs : List P} {k : Nat} : cut xs (some (k : Int)) (some ((k : Int) + 1)) = (xs.drop k).take 1 := by
  have e : ((k : Int) + 1) = ((k + 1 : Nat) : Int) := by simp
  unfold cut
  rw [e, HT.sIx_nat, HT.sIx_nat]
  by_cases h : k + 1 ≤ xs.length
  · rw [Nat.min_eq_left h, Nat.min_eq_left (by omega)]
    congr 1
    omega
  · rw [Nat.min_eq_right (by omega)]
    by_cases h2 : k = xs.length
    · subst h2; simp
    · rw [Nat.min_eq_right (by omega), List.drop_of_length_le (by omega), List.drop_of_length_le (by omega)]
      simp
theorem ixT_nn {xs : List P} {v : Int} (h0 : 0 ≤ v) (h : v < xs.length) : ∃ x ∈ xs, ixP (.tup xs) (.int v) = some x := by
  have hi : v.toNat < xs.length := by omega
  refine ⟨xs[v.toNat], List.getElem_mem hi, ?_⟩
  have e : (v.toNat : Int) = v := by omega
  have := ixP_nat (xs := xs) (i := v.toNat) hi
  rw [e] at this
  rw [this]
  simp [hi]
theorem addP_tup {xs ys : List P} (h : xs.length + ys.length ≤ L) : addP (.tup xs) (.tup ys) = some (.tup (xs ++ ys)) := by simp [addP, h]
theorem addP_lst {xs ys : List P} (h : xs.length + ys.length ≤ L) : addP (.lst xs) (.lst ys) = some (.lst (xs ++ ys)) := by simp [addP, h]
theorem addP_str {xs ys : Str} (h : xs.length + ys.length ≤ L) : addP (.str xs) (.str ys) = some (.str (xs ++ ys)) := by simp [addP, h]
theorem frzL_loc {s : Sto} {l : Nat} {xs : List P} {ds : List D} (h : s[l]? = some (.lst xs)) : frzL s (.loc l :: ds) = (frzL (s.set l .dead) ds).map fun q => (.lst xs :: q.1, q.2) := by
  have e : frz s (.loc l) = some (.lst xs, s.set l .dead) := by
    unfold frz
    simp only [h]
  simp only [frzL, e]
  cases frzL (s.set l .dead) ds <;> rfl
@[simp] theorem revP_t {xs : List P} : revP (.tup xs) = some (.tup xs.reverse) := rfl
@[simp] theorem revP_l {xs : List P} : revP (.lst xs) = some (.lst xs.reverse) := rfl
@[simp] theorem isiP_0_int : isiP .non .int = some false := rfl
@[simp] theorem isiP_0_bool : isiP .non .bool = some false := rfl
@[simp] theorem isiP_0_str : isiP .non .str = some false := rfl
@[simp] theorem isiP_0_tuple : isiP .non .tuple = some false := rfl
@[simp] theorem isiP_0_list : isiP .non .list = some false := rfl
@[simp] theorem isiP_0_dict : isiP .non .dict = some false := rfl
@[simp] theorem isiP_1_int {b : Bool} : isiP (.bl b) .int = some true := rfl
@[simp] theorem isiP_1_bool {b : Bool} : isiP (.bl b) .bool = some true := rfl
@[simp] theorem isiP_1_str {b : Bool} : isiP (.bl b) .str = some false := rfl
@[simp] theorem isiP_1_tuple {b : Bool} : isiP (.bl b) .tuple = some false := rfl
@[simp] theorem isiP_1_list {b : Bool} : isiP (.bl b) .list = some false := rfl
@[simp] theorem isiP_1_dict {b : Bool} : isiP (.bl b) .dict = some false := rfl
@[simp] theorem isiP_2_int {i : Int} : isiP (.int i) .int = some true := rfl
@[simp] theorem isiP_2_bool {i : Int} : isiP (.int i) .bool = some false := rfl
@[simp] theorem isiP_2_str {i : Int} : isiP (.int i) .str = some false := rfl
@[simp] theorem isiP_2_tuple {i : Int} : isiP (.int i) .tuple = some false := rfl
@[simp] theorem isiP_2_list {i : Int} : isiP (.int i) .list = some false := rfl
@[simp] theorem isiP_2_dict {i : Int} : isiP (.int i) .dict = some false := rfl
@[simp] theorem isiP_3_int {x : Str} : isiP (.str x) .int = some false := rfl
@[simp] theorem isiP_3_bool {x : Str} : isiP (.str x) .bool = some false := rfl
@[simp] theorem isiP_3_str {x : Str} : isiP (.str x) .str = some true := rfl
@[simp] theorem isiP_3_tuple {x : Str} : isiP (.str x) .tuple = some false := rfl
@[simp] theorem isiP_3_list {x : Str} : isiP (.str x) .list = some false := rfl
@[simp] theorem isiP_3_dict {x : Str} : isiP (.str x) .dict = some false := rfl
@[simp] theorem isiP_4_int {xs : List P} : isiP (.tup xs) .int = some false := rfl
@[simp] theorem isiP_4_bool {xs : List P} : isiP (.tup xs) .bool = some false := rfl
@[simp] theorem isiP_4_str {xs : List P} : isiP (.tup xs) .str = some false := rfl
@[simp] theorem isiP_4_tuple {xs : List P} : isiP (.tup xs) .tuple = some true := rfl
@[simp] theorem isiP_4_list {xs : List P} : isiP (.tup xs) .list = some false := rfl
@[simp] theorem isiP_4_dict {xs : List P} : isiP (.tup xs) .dict = some false := rfl
@[simp] theorem isiP_5_int {xs : List P} : isiP (.lst xs) .int = some false := rfl
@[simp] theorem isiP_5_bool {xs : List P} : isiP (.lst xs) .bool = some false := rfl
@[simp] theorem isiP_5_str {xs : List P} : isiP (.lst xs) .str = some false := rfl
@[simp] theorem isiP_5_tuple {xs : List P} : isiP (.lst xs) .tuple = some false := rfl
@[simp] theorem isiP_5_list {xs : List P} : isiP (.lst xs) .list = some true := rfl
@[simp] theorem isiP_5_dict {xs : List P} : isiP (.lst xs) .dict = some false := rfl
@[simp] theorem isiP_6_int : isiP .ed .int = some false := rfl
@[simp] theorem isiP_6_bool : isiP .ed .bool = some false := rfl
@[simp] theorem isiP_6_str : isiP .ed .str = some false := rfl
@[simp] theorem isiP_6_tuple : isiP .ed .tuple = some false := rfl
@[simp] theorem isiP_6_list : isiP .ed .list = some false := rfl
@[simp] theorem isiP_6_dict : isiP .ed .dict = some true := rfl
@[simp] theorem start_eq {nl : Nat} {ds : List D} : EV.start nl ds = ds.map some ++ List.replicate (nl - ds.length) none := rfl
@[simp] theorem L_eq : L = 16777216 := rfl
theorem cmp2_p {o : Cop} {x : D} {y : P} {s : Sto} : cmp2 o x (.p y) s = cmpR o x (.p y) s := by
  unfold cmp2
  cases o.inB <;> simp [dctOf]
@[simp ↓] theorem ok_cmp_inn {s : Sto} {x : D} {y : P} {Q : Bool → Sto → Prop} {E : Nat → Sto → Prop} : Ok (cmp2 .inn x (.p y) s) Q E = Has (rd s x) fun p => Has (inP p y) fun k => Q k s := by
  rw [cmp2_p, ok_cmpR_0]
  simp only [Has, exists_and_left]
  refine propext ⟨fun ⟨p, h1, q, h2, k, h3, h4⟩ => ?_, fun ⟨p, h1, k, h3, h4⟩ => ⟨p, h1, y, rfl, k, h3, h4⟩⟩
  cases h2
  exact ⟨p, h1, k, h3, h4⟩
@[simp ↓] theorem ok_cmp_notin {s : Sto} {x : D} {y : P} {Q : Bool → Sto → Prop} {E : Nat → Sto → Prop} : Ok (cmp2 .notin x (.p y) s) Q E = Has (rd s x) fun p => Has (inP p y) fun k => Q (!k) s := by
  rw [cmp2_p, ok_cmpR_0]
  simp only [Has, exists_and_left]
  refine propext ⟨fun ⟨p, h1, q, h2, k, h3, h4⟩ => ?_, fun ⟨p, h1, k, h3, h4⟩ => ⟨p, h1, y, rfl, !k, by simp [cmpP, h3], h4⟩⟩
  cases h2
  simp only [cmpP, Option.map_eq_some_iff] at h3
  obtain ⟨k', h3, rfl⟩ := h3
  exact ⟨p, h1, k', h3, h4⟩
def fnO : Option (Option D) → Option Nat
  | some (some (.p (.fn f))) => some f
  | _ => none
@[simp] theorem fnO_fn {f : Nat} : fnO (some (some (.p (.fn f)))) = some f := rfl
@[simp ↓] theorem ok_eCallV {c : Cl} {σ : Sg} {s : Sto} {i : Nat} {ar : MA} {Q : D → Sto → Prop} {E : Nat → Sto → Prop} : Ok (eCallV i ar c σ s) Q E = Has (fnO σ[i]?) fun f => Ok (ar c σ s) (fun ds s1 => Ok (c.C f ds s1) Q E) E := by
  unfold eCallV
  cases h : σ[i]? with
  | none => simp [fnO]
  | some o =>
    cases o with
    | none => simp [fnO]
    | some d =>
      cases d with
      | p x => cases x <;> simp [fnO]
      | _ => simp [fnO]
theorem bits_lt {i : Int} {n : Nat} (h : i.natAbs < 2 ^ (n + 1)) : bits i ≤ n := by
  unfold bits
  by_cases h0 : i.natAbs = 0
  · rw [h0]
    simp
  · have := (Nat.log2_lt h0).mpr h
    omega
theorem bits_small {i : Int} (h0 : 0 ≤ i) (h : i < 2147483648) : bits i ≤ 30 := bits_lt (by
  have : (2 : Nat) ^ (30 + 1) = 2147483648 := by decide
  omega)
theorem bits_big {i : Int} (h0 : -100000000000000 ≤ i) (h : i < 100000000000000) : bits i ≤ 60 := bits_lt (by
  have : (2 : Nat) ^ (60 + 1) = 2305843009213693952 := by decide
  omega)
theorem mulP_ok {i j : Int} (h : bits i + bits j < 100000000) : mulP (.int i) (.int j) = some (.int (i * j)) := by
  simp [mulP, h]
theorem modP_ok {i j : Int} (h : 0 < j) : modP (.int i) (.int j) = some (.int (i % j)) := by
  simp [modP, h]
theorem divP_ok {i j : Int} (h : 0 < j) (hb : bits j < 9000) : divP (.int i) (.int j) = some (.int (i / j)) := by
  simp [divP, h, hb]
theorem set_same {s : Sto} {l : Nat} {a : MO} (h : s[l]? = some a) : s.set l a = s := by
  refine List.ext_getElem? fun i => ?_
  rw [List.getElem?_set]
  split
  · rename_i e
    subst e
    have := (List.getElem?_eq_some_iff.mp h).1
    rw [h]
    simp [this]
  · rfl
/-- a comprehension over encoded things, whose parts leave the store alone -/
theorem ok_lcF {α : Type} {c : Cl} {σ : Sg} {s : Sto} {g : MG} {a : ME} {all : List P} {Q : List P → Sto → Prop} {E : Nat → Sto → Prop} (ps : List α) (e f : α → P) (hl : ps.length ≤ L) (h : ∀ x ∈ ps, Ok (g c (.p (e x)) σ s) (fun σ1 s1 => s1 = s ∧ Ok (a c σ1 s) (fun d s3 => d = .p (f x) ∧ s3 = s) nE) nE)
    (hq : Q (ps.map f) s) : Ok (lcT c g tYes a σ all none (ps.map e) [] s) Q E := by
  have key : Ok (lcT c g tYes a σ all none (ps.map e) [] s) Q nE := by
    refine ok_lcT (fun rem acc s' => s' = s ∧ ∃ done rem', done ++ rem' = ps ∧ rem = rem'.map e ∧ acc = done.map f) ⟨rfl, [], ps, rfl, rfl, rfl⟩ ?_ ?_
    · rintro x r acc s' ⟨rfl, done, rem', e1, e2, rfl⟩
      cases rem' with
      | nil => cases e2
      | cons y rem' =>
        rw [List.map_cons] at e2
        obtain ⟨rfl, rfl⟩ := List.cons.inj e2
        have hx : y ∈ ps := by rw [← e1]; simp
        have hlen : done.length + (rem'.length + 1) = ps.length := by rw [← e1]; simp
        refine ⟨rfl, (h y hx).imp fun σ1 s1 ⟨q1, q2⟩ => ?_⟩
        subst q1
        rw [ok_tYes]
        refine ⟨fun _ => q2.imp fun d s3 ⟨q3, q4⟩ => ?_, fun z => by cases z⟩
        subst q3
        subst q4
        exact ⟨f y, s3, rfl, by rw [List.length_map]; omega, rfl, done ++ [y], rem', by simpa using e1, rfl, by simp⟩
    · rintro acc s' ⟨rfl, done, rem', e1, e2, rfl⟩
      have : rem' = [] := by simpa using e2.symm
      subst this
      rw [List.append_nil] at e1
      subst e1
      exact ⟨rfl, hq⟩
  exact key.mono (fun _ _ z => z) fun _ _ z => z.elim
@[simp] theorem pow18 : powP (.int 10) (.int 18) = some (.int (10 ^ 18)) := by
  show (if (0 : Int) ≤ 18 ∧ (18 : Int) ≤ 1000000 ∧ (10 : Int).natAbs < 2 ^ 64 then some (P.int ((10 : Int) ^ (18 : Int).toNat)) else none) = _
  rw [if_pos (by decide)]
  rfl
@[simp] theorem pow6 : powP (.int 10) (.int 6) = some (.int (10 ^ 6)) := by
  show (if (0 : Int) ≤ 6 ∧ (6 : Int) ≤ 1000000 ∧ (10 : Int).natAbs < 2 ^ 64 then some (P.int ((10 : Int) ^ (6 : Int).toNat)) else none) = _
  rw [if_pos (by decide)]
  rfl
@[simp] theorem pow60 : powP (.int 10) (.int 60) = some (.int (10 ^ 60)) := by
  show (if (0 : Int) ≤ 60 ∧ (60 : Int) ≤ 1000000 ∧ (10 : Int).natAbs < 2 ^ 64 then some (P.int ((10 : Int) ^ (60 : Int).toNat)) else none) = _
  rw [if_pos (by decide)]
  rfl
@[simp] theorem pow12 : powP (.int 10) (.int 12) = some (.int (10 ^ 12)) := by
  show (if (0 : Int) ≤ 12 ∧ (12 : Int) ≤ 1000000 ∧ (10 : Int).natAbs < 2 ^ 64 then some (P.int ((10 : Int) ^ (12 : Int).toNat)) else none) = _
  rw [if_pos (by decide)]
  rfl
@[simp] theorem pow30 : powP (.int 10) (.int 30) = some (.int (10 ^ 30)) := by
  show (if (0 : Int) ≤ 30 ∧ (30 : Int) ≤ 1000000 ∧ (10 : Int).natAbs < 2 ^ 64 then some (P.int ((10 : Int) ^ (30 : Int).toNat)) else none) = _
  rw [if_pos (by decide)]
  rfl
theorem bits_60 {i : Int} (h0 : 0 ≤ i) (h : i ≤ 10 ^ 62) : bits i < 9000 := by
  have : bits i ≤ 210 := bits_lt (by
    have : (10 : Int) ^ 62 < 2 ^ (210 + 1) := by decide
    have h2 : (i.natAbs : Int) < ((2 ^ (210 + 1) : Nat) : Int) := by
      rw [show ((2 ^ (210 + 1) : Nat) : Int) = 2 ^ (210 + 1) from by decide]
      omega
    exact Int.ofNat_lt.mp h2)
  omega
@[simp] theorem cmpP_notb {a b : Bool} : cmpP .notb (.bl a) (.bl b) = some (!(a == b)) := rfl
@[simp] theorem cmpP_isb {a b : Bool} : cmpP .isb (.bl a) (.bl b) = some (a == b) := rfl
section
variable {E : Nat → Sto → Prop} {c : Cl} {σ : Sg} {s : Sto} {a b d : ME}
@[simp ↓] theorem ok_wRng3 {Q : List P × Option Nat → Sto → Prop} : Ok (wRng3 a b d c σ s) Q E = Ok (a c σ s) (fun x s1 => Ok (b c σ s1) (fun y s2 => Ok (d c σ s2) (fun z s3 => Has (asI x) fun i => Has (asI y) fun j => Has (asI z) fun k => (bnd i && bnd j && (decide (1 ≤ k) && decide (k < 1000000))) = true ∧ Q (rngC i k (rngN i j k), none) s3) E) E) E := by
  unfold wRng3
  rw [ok_bind]
  refine cgQ fun x s1 => ?_
  rw [ok_bind]
  refine cgQ fun y s2 => ?_
  rw [ok_bind]
  refine cgQ fun z s3 => ?_
  split
  · rename_i i j k
    simp only [asI_int, has_some]
    by_cases h : (bnd i && bnd j && (decide (1 ≤ k) && decide (k < 1000000))) = true
    · rw [if_pos h]
      simp only [ok_pure, h, true_and]
    · rw [if_neg h]
      exact propext ⟨fun z => z.elim, fun z => h z.1⟩
  · rename_i h
    simp only [ok_mstk, eq_iff_iff, false_iff]
    rintro ⟨i, e1, j, e2, k, e3, _⟩
    exact h i j k (asI_eq.mpr e1) (asI_eq.mpr e2) (asI_eq.mpr e3)
@[simp ↓] theorem ok_lrgD {x : D} {Q : D → Sto → Prop} : Ok (lrgD x s) Q E = Has (asI x) fun j => (0 ≤ j ∧ j ≤ 1000000) ∧ Q (.p (.lst (rngL 0 j.toNat))) s := by
  unfold lrgD
  split
  · rename_i j
    simp only [asI_int, has_some]
    by_cases h : 0 ≤ j ∧ j ≤ 1000000
    · rw [if_pos h]
      simp only [ok_pure, h, true_and, and_self]
    · rw [if_neg h]
      simp only [ok_mstk, h, false_and]
  · rename_i h
    simp only [ok_mstk, eq_iff_iff, false_iff]
    rintro ⟨j, e, _⟩
    exact h j (asI_eq.mpr e)
@[simp ↓] theorem ok_eLrg {Q : D → Sto → Prop} : Ok (eLrg a c σ s) Q E = Ok (a c σ s) (fun x s1 => Ok (lrgD x s1) Q E) E := by
  unfold eLrg
  rw [ok_bind]
def lstO : P → Option (List P)
  | .lst xs => some xs
  | _ => none
@[simp] theorem lstO_l {xs : List P} : lstO (.lst xs) = some xs := rfl
@[simp ↓] theorem ok_extD {l : Nat} {y : D} {Q : D → Sto → Prop} : Ok (extD (.loc l) y s) Q E = Has (rd s y) fun p => Has (lstO p) fun zs => ∃ xs, s[l]? = some (.lst xs) ∧ xs.length + zs.length ≤ L ∧ Q (.p .non) (s.set l (.lst (xs ++ zs))) := by
  unfold extD
  cases h : rd s y with
  | none => simp
  | some p =>
    cases p with
    | lst zs =>
      simp only [has_some, lstO_l]
      refine propext ⟨fun q => ?_, ?_⟩
      · split at q
        · rename_i xs h1
          split at q
          · rename_i h2
            exact ⟨xs, h1, h2, q⟩
          · exact q.elim
        · exact q.elim
      · rintro ⟨xs, h1, h2, q⟩
        rw [h1]
        simp only
        rw [if_pos h2]
        exact q
    | _ => simp [lstO]
@[simp ↓] theorem ok_eExt {Q : D → Sto → Prop} : Ok (eExt a b c σ s) Q E = Ok (a c σ s) (fun x s1 => Ok (lstNow x s1) (fun x s1 => Ok (b c σ s1) (fun y s2 => Ok (extD x y s2) Q E) E) E) E := by
  unfold eExt
  repeat (first | rfl | rw [ok_bind] | refine cgQ fun _ _ => ?_)
end
/-! ### repr -/
@[simp] theorem b1P_reprT {xs : List P} : b1P .repr (.tup xs) = repP (.tup xs) := rfl
@[simp] theorem b1P_reprL {xs : List P} : b1P .repr (.lst xs) = repP (.lst xs) := rfl
/-- a thing whose text is known to be short: how deep, how long at most -/
inductive Rp : Nat → Nat → P → Prop
  | non (k n : Nat) : 10 ≤ n → Rp k n .non
  | bl (k n : Nat) (b : Bool) : 10 ≤ n → Rp k n (.bl b)
  | int (k n : Nat) (i : Int) : bits i < 1900 → 1902 ≤ n → Rp k n (.int i)
  | str (k n : Nat) (x : Str) : PyData.canLay0 (.str x) = true → x.length ≤ 100 → 2000 ≤ n → Rp k n (.str x)
  | tup (k n m : Nat) (xs : List P) : (∀ x ∈ xs, Rp k m x) → (m + 2) * xs.length + 3 ≤ n → Rp (k + 1) n (.tup xs)
  | lst (k n m : Nat) (xs : List P) : (∀ x ∈ xs, Rp k m x) → (m + 2) * xs.length + 3 ≤ n → Rp (k + 1) n (.lst xs)
theorem sum_le {f : Str → Nat} {m : Nat} : ∀ {ts : List Str}, (∀ t ∈ ts, f t ≤ m) → (ts.map f).sum ≤ m * ts.length
  | [], _ => by simp
  | t :: ts, h => by
    have h1 := h t (by simp)
    have h2 := sum_le (f := f) (m := m) (ts := ts) fun x hx => h x (by simp [hx])
    simp only [List.map_cons, List.sum_cons, List.length_cons, Nat.mul_add]
    omega
theorem pyL_get : ∀ {xs : List P} {ds : List PyData}, P.pyL xs = some ds → ds.length = xs.length ∧ ∀ d ∈ ds, ∃ x ∈ xs, P.py x = some d
  | [], ds, h => by
    simp [P.pyL] at h
    subst h
    simp
  | x :: xs, ds, h => by
    simp only [P.pyL] at h
    split at h
    · rename_i d ds' h1 h2
      cases h
      obtain ⟨e1, e2⟩ := pyL_get h2
      refine ⟨by simp [e1], fun z hz => ?_⟩
      rcases List.mem_cons.mp hz with rfl | hz
      · exact ⟨x, by simp, h1⟩
      · obtain ⟨y, hy, e⟩ := e2 z hz
        exact ⟨y, by simp [hy], e⟩
    · cases h
theorem pyL_some : ∀ {xs : List P}, (∀ x ∈ xs, ∃ d, P.py x = some d) → ∃ ds, P.pyL xs = some ds
  | [], _ => ⟨[], rfl⟩
  | x :: xs, h => by
    obtain ⟨d, hd⟩ := h x (by simp)
    obtain ⟨ds, hds⟩ := pyL_some (xs := xs) fun y hy => h y (by simp [hy])
    exact ⟨d :: ds, by simp [P.pyL, hd, hds]⟩
theorem depthAll_le {k : Nat} : ∀ {ds : List PyData}, (∀ d ∈ ds, d.depth ≤ k) → PyData.depthAll ds ≤ k
  | [], _ => by simp [PyData.depthAll]
  | d :: ds, h => by
    have h1 := h d (by simp)
    have h2 := depthAll_le (ds := ds) fun x hx => h x (by simp [hx])
    simp [PyData.depthAll]
    omega
theorem shownAll_map : ∀ ds : List PyData, PyData.shownAll ds = ds.map PyData.shown
  | [] => by simp [PyData.shownAll]
  | d :: ds => by simp [PyData.shownAll, shownAll_map ds]
theorem shwAll : ∀ {ds : List PyData}, (∀ d ∈ ds, d.showable = true) → PyData.showableAll ds = true
  | [], _ => by simp [PyData.showableAll]
  | d :: ds, h => by
    simp only [PyData.showableAll, Bool.and_eq_true]
    exact ⟨h d (by simp), shwAll fun x hx => h x (by simp [hx])⟩
theorem rp_seq {k m : Nat} {xs : List P} (h : ∀ x ∈ xs, ∃ d, P.py x = some d ∧ d.showable = true ∧ d.depth ≤ k ∧ d.shown.length ≤ m) : ∃ ds, P.pyL xs = some ds ∧ PyData.showableAll ds = true ∧ PyData.depthAll ds ≤ k ∧ ((PyData.shownAll ds).map (·.length)).sum + 2 * (PyData.shownAll ds).length + 3 ≤ (m + 2) * xs.length + 3 := by
  obtain ⟨ds, hds⟩ := pyL_some fun x hx => let ⟨d, hd, _⟩ := h x hx; ⟨d, hd⟩
  obtain ⟨e1, e2⟩ := pyL_get hds
  have all : ∀ d ∈ ds, d.showable = true ∧ d.depth ≤ k ∧ d.shown.length ≤ m := fun d hd => by
    obtain ⟨x, hx, e⟩ := e2 d hd
    obtain ⟨d', h1, h2⟩ := h x hx
    rw [e] at h1
    cases h1
    exact h2
  refine ⟨ds, hds, shwAll fun d hd => (all d hd).1, depthAll_le fun d hd => (all d hd).2.1, ?_⟩
  rw [shownAll_map]
  have := sum_le (f := fun t => t.length) (m := m) (ts := ds.map PyData.shown) fun t ht => by
    obtain ⟨d, hd, rfl⟩ := List.mem_map.mp ht
    exact (all d hd).2.2
  simp only [List.length_map] at this ⊢
  rw [Nat.add_mul, ← e1]
  omega
theorem rp_py : ∀ {k n : Nat} {x : P}, Rp k n x → ∃ d, P.py x = some d ∧ d.showable = true ∧ d.depth ≤ k ∧ d.shown.length ≤ n := fun {k n x} h => by
  induction h with
  | non k n hn => exact ⟨.none, by simp [P.py], by simp [PyData.showable], by simp [PyData.depth], Nat.le_trans (m := 4) (by decide +kernel) (by omega)⟩
  | bl k n b hn => 
    refine ⟨.bool b, by simp [P.py], by simp [PyData.showable], by simp [PyData.depth], Nat.le_trans (m := 5) ?_ (by omega)⟩
    cases b <;> decide +kernel
  | int k n i hb hn =>
    refine ⟨.int i, by simp [P.py], ?_, by simp [PyData.depth], ?_⟩
    · simp only [PyData.showable]
      unfold bits at hb
      exact decide_eq_true (by omega)
    · simp only [PyData.shown]
      have := int_text_length_le (a := i) (k := 1900) (by omega) (by unfold bits at hb; exact hb)
      rw [ofString_length]
      omega
  | str k n x hx hl hn =>
    refine ⟨.str x, by simp [P.py, hx], by simp [PyData.showable], by simp [PyData.depth], ?_⟩
    simp only [PyData.shown]
    have := StrLaws.reprText_len x fun c hc => by
      have q : x.cps.all (· < 0x110000) = true := hx
      rw [← Array.all_toList, List.all_eq_true] at q
      have := of_decide_eq_true (q c hc)
      omega
    omega
  | tup k n m xs _ hn ih =>
    obtain ⟨ds, h1, h2, h3, h4⟩ := rp_seq ih
    refine ⟨.tuple ds, by simp [P.py, h1], by simpa [PyData.showable] using h2, by simp [PyData.depth]; omega, ?_⟩
    simp only [PyData.shown]
    have := tupleText_len_le (PyData.shownAll ds)
    omega
  | lst k n m xs _ hn ih =>
    obtain ⟨ds, h1, h2, h3, h4⟩ := rp_seq ih
    refine ⟨.list ds, by simp [P.py, h1], by simpa [PyData.showable] using h2, by simp [PyData.depth]; omega, ?_⟩
    simp only [PyData.shown]
    have := listText_len_le (PyData.shownAll ds)
    omega
/-- it has a text -/
theorem rep_ok {k n : Nat} {x : P} (h : Rp k n x) (hk : k ≤ 60) (hn : n ≤ L) : ∃ t, repP x = some (.str t) := by
  obtain ⟨d, h1, h2, h3, h4⟩ := rp_py h
  unfold repP
  rw [h1]
  simp only
  rw [if_pos ⟨h2, by omega, by omega⟩]
  exact ⟨_, rfl⟩
@[simp] theorem eqP_strs {x y : Str} : eqP (.str x) (.str y) = some (decide (x = y)) := rfl
end EV
end
section
/-! P05m: merging steps, plainly. -/
namespace MG
open PySem EV
abbrev St := List (Int × Int)
def keep (e : Option Int) (t : Int) : Bool := match e with
  | none => true
  | some i => decide (t < i)
def sumT (t : Int) (as : St) : Int := ((as.filter fun a => a.2 == t).map (·.1)).sum
def addK (ks : List Int) (t : Int) : List Int := if t ∈ ks then ks else ks ++ [t]
def keysD (as : St) : List Int := as.foldl (fun ks a => addK ks a.2) []
/-- the dict that stands for the steps as -/
def dctT (as : St) : List (Ky × P) := (keysD as).map fun t => (.inl t, .int (sumT t as))
theorem keysD_snoc (as : St) (a : Int × Int) : keysD (as ++ [a]) = addK (keysD as) a.2 := by simp [keysD, List.foldl_append]
theorem mem_addK {ks : List Int} {t u : Int} : u ∈ addK ks t ↔ u ∈ ks ∨ u = t := by
  unfold addK
  by_cases h : t ∈ ks
  · simp only [h, if_true]
    constructor
    · exact .inl
    · rintro (z | rfl)
      · exact z
      · exact h
  · simp [h]
theorem nodup_addK {ks : List Int} {t : Int} (h : ks.Nodup) : (addK ks t).Nodup := by
  unfold addK
  by_cases ht : t ∈ ks
  · simpa [ht] using h
  · simp only [ht, if_false]
    rw [List.nodup_append]
    refine ⟨h, by simp, fun a ha b hb e => ?_⟩
    rw [List.mem_singleton.mp hb] at e
    exact ht (e ▸ ha)
theorem keysD_aux : ∀ (as : St) (ks : List Int), ks.Nodup → (as.foldl (fun ks a => addK ks a.2) ks).Nodup ∧ ∀ t, t ∈ as.foldl (fun ks a => addK ks a.2) ks ↔ t ∈ ks ∨ ∃ a ∈ as, a.2 = t
  | [], ks, h => ⟨h, fun t => by simp⟩
  | a :: as, ks, h => by
    obtain ⟨h1, h2⟩ := keysD_aux as (addK ks a.2) (nodup_addK h)
    refine ⟨h1, fun t => ?_⟩
    rw [List.foldl_cons, h2 t, mem_addK]
    simp only [List.mem_cons, exists_eq_or_imp]
    constructor
    · rintro ((z | rfl) | z)
      · exact .inl z
      · exact .inr (.inl rfl)
      · exact .inr (.inr z)
    · rintro (z | rfl | z)
      · exact .inl (.inl z)
      · exact .inl (.inr rfl)
      · exact .inr z
theorem keysD_nodup (as : St) : (keysD as).Nodup := (keysD_aux as [] (by simp)).1
theorem mem_keysD {as : St} {t : Int} : t ∈ keysD as ↔ ∃ a ∈ as, a.2 = t := by
  have := (keysD_aux as [] (by simp)).2 t
  simpa [keysD] using this
theorem keysD_len (as : St) : (keysD as).length ≤ as.length := by
  have : ∀ (as : St) (ks : List Int), (as.foldl (fun ks a => addK ks a.2) ks).length ≤ ks.length + as.length := fun as => by
    induction as with
    | nil => simp
    | cons a as ih =>
      intro ks
      have h1 := ih (addK ks a.2)
      have h2 : (addK ks a.2).length ≤ ks.length + 1 := by
        unfold addK
        by_cases h : a.2 ∈ ks <;> simp [h]
      simp only [List.foldl_cons, List.length_cons]
      omega
  simpa [keysD] using this as []
theorem sumT_snoc (t : Int) (as : St) (a : Int × Int) : sumT t (as ++ [a]) = sumT t as + (if a.2 = t then a.1 else 0) := by
  unfold sumT
  by_cases h : a.2 = t <;> simp [List.filter_append, h]
theorem sumT_none {t : Int} {as : St} (h : t ∉ keysD as) : sumT t as = 0 := by
  unfold sumT
  have : as.filter (fun a => a.2 == t) = [] := by
    rw [List.filter_eq_nil_iff]
    intro a ha e
    exact h (mem_keysD.mpr ⟨a, ha, by simpa using e⟩)
  rw [this] <;> rfl
theorem dget_map {f : Int → P} {t : Int} : ∀ {ks : List Int}, dget (.inl t) (ks.map fun t => ((.inl t : Ky), f t)) = if t ∈ ks then some (f t) else none
  | [] => by simp [dget]
  | k :: ks => by
    simp only [List.map_cons, dget, dget_map (ks := ks), Sum.inl.injEq, List.mem_cons]
    by_cases h : k = t
    · simp [h]
    · have : ¬ t = k := fun z => h z.symm
      simp [h, this]
theorem dput_map {f : Int → P} {t : Int} {v : P} : ∀ {ks : List Int}, ks.Nodup → dput (.inl t) v (ks.map fun t => ((.inl t : Ky), f t)) = (addK ks t).map fun u => (.inl u, if u = t then v else f u)
  | [], _ => by simp [dput, addK]
  | k :: ks, hn => by
    obtain ⟨h1, h2⟩ := List.nodup_cons.mp hn
    simp only [List.map_cons, dput, Sum.inl.injEq]
    by_cases h : k = t
    · subst h
      simp only [if_true]
      have : addK (k :: ks) k = k :: ks := by simp [addK]
      rw [this]
      simp only [List.map_cons, if_true, List.cons.injEq, true_and]
      refine List.map_congr_left fun u hu => ?_
      have : u ≠ k := fun z => h1 (z ▸ hu)
      simp [this]
    · have hk : addK (k :: ks) t = k :: addK ks t := by
        have : ¬ t = k := fun z => h z.symm
        unfold addK
        by_cases ht : t ∈ ks <;> simp [ht, this]
      simp only [if_neg h]
      rw [hk, dput_map h2]
      simp [h]
def oI : Option P → Int
  | some (.int i) => i
  | _ => 0
/-- one more step is laid in -/
theorem dctT_snoc (as : St) (a t : Int) : dput (.inl t) (.int (oI (dget (.inl t) (dctT as)) + a)) (dctT as) = dctT (as ++ [(a, t)]) := by
  unfold dctT
  rw [dget_map, dput_map (keysD_nodup as), keysD_snoc]
  refine List.map_congr_left fun u hu => ?_
  rw [sumT_snoc]
  by_cases h : u = t
  · subst h
    by_cases hm : u ∈ keysD as
    · simp [hm, oI]
    · simp [hm, sumT_none hm, oI]
  · have : ¬ t = u := fun z => h z.symm
    simp [h, this]
theorem dget_dct {as : St} {t : Int} (h : t ∈ keysD as) : dget (.inl t) (dctT as) = some (.int (sumT t as)) := by
  unfold dctT
  rw [dget_map, if_pos h]
/-! ### in order -/
theorem mem_insI {x y : Int} : ∀ {l : List Int}, y ∈ insI x l ↔ y = x ∨ y ∈ l
  | [] => by simp [insI]
  | z :: r => by
    unfold insI
    split
    · simp
    · simp only [List.mem_cons, mem_insI (l := r)]
      constructor
      · rintro (h | h | h)
        · exact .inr (.inl h)
        · exact .inl h
        · exact .inr (.inr h)
      · rintro (h | h | h)
        · exact .inr (.inl h)
        · exact .inl h
        · exact .inr (.inr h)
theorem mem_isort {y : Int} : ∀ {l : List Int}, y ∈ isort l ↔ y ∈ l
  | [] => by simp [isort]
  | x :: r => by
    unfold isort
    rw [mem_insI, mem_isort (l := r)]
    simp
/-- each less than all behind it -/
def Asc (l : List Int) : Prop := l.Pairwise (· < ·)
theorem asc_insI {x : Int} : ∀ {l : List Int}, Asc l → x ∉ l → Asc (insI x l)
  | [], _, _ => by simp [insI, Asc]
  | z :: r, h, hx => by
    obtain ⟨h1, h2⟩ := List.pairwise_cons.mp h
    have hz : x ≠ z := fun e => hx (by simp [e])
    have hr : x ∉ r := fun e => hx (by simp [e])
    unfold insI
    split
    · rename_i hle
      refine List.pairwise_cons.mpr ⟨fun y hy => ?_, h⟩
      rcases List.mem_cons.mp hy with rfl | hy
      · omega
      · have := h1 y hy
        omega
    · rename_i hle
      refine List.pairwise_cons.mpr ⟨fun y hy => ?_, asc_insI h2 hr⟩
      rcases mem_insI.mp hy with rfl | hy
      · omega
      · exact h1 y hy
theorem asc_isort : ∀ {l : List Int}, l.Nodup → Asc (isort l)
  | [], _ => by simp [isort, Asc]
  | x :: r, h => by
    obtain ⟨h1, h2⟩ := List.nodup_cons.mp h
    unfold isort
    exact asc_insI (asc_isort h2) fun z => h1 (mem_isort.mp z)
theorem asc_eq : ∀ {l m : List Int}, Asc l → Asc m → (∀ x, x ∈ l ↔ x ∈ m) → l = m
  | [], [], _, _, _ => rfl
  | [], y :: m, _, _, h => by have := (h y).mpr (by simp); simp at this
  | x :: l, [], _, _, h => by have := (h x).mp (by simp); simp at this
  | x :: l, y :: m, hl, hm, h => by
    obtain ⟨h1, h2⟩ := List.pairwise_cons.mp hl
    obtain ⟨h3, h4⟩ := List.pairwise_cons.mp hm
    have e : x = y := by
      rcases List.mem_cons.mp ((h x).mp (by simp)) with z | z
      · exact z
      · rcases List.mem_cons.mp ((h y).mpr (by simp)) with w | w
        · exact w.symm
        · have := h1 y w
          have := h3 x z
          omega
    subst e
    congr 1
    refine asc_eq h2 h4 fun u => ?_
    constructor
    · intro hu
      rcases List.mem_cons.mp ((h u).mp (by simp [hu])) with z | z
      · have := h1 u hu
        omega
      · exact z
    · intro hu
      rcases List.mem_cons.mp ((h u).mpr (by simp [hu])) with z | z
      · have := h3 u hu
        omega
      · exact z
/-- the steps put together -/
def merge (e : Option Int) (as : St) : St := (isort (keysD (as.filter fun a => keep e a.2))).map fun t => (sumT t (as.filter fun a => keep e a.2), t)
theorem sum_perm : ∀ {l m : List Int}, l.Perm m → l.sum = m.sum
  | _, _, .nil => rfl
  | _, _, .cons x h => by simp only [List.sum_cons, sum_perm h]
  | _, _, .swap x y l => by simp only [List.sum_cons]; omega
  | _, _, .trans h1 h2 => (sum_perm h1).trans (sum_perm h2)
theorem sumT_perm {as bs : St} (h : as.Perm bs) (t : Int) : sumT t as = sumT t bs := by
  unfold sumT
  exact sum_perm ((h.filter _).map _)
theorem merge_perm {e : Option Int} {as bs : St} (h : as.Perm bs) : merge e as = merge e bs := by
  have hf := h.filter (fun a => keep e a.2)
  unfold merge
  have ek : isort (keysD (as.filter fun a => keep e a.2)) = isort (keysD (bs.filter fun a => keep e a.2)) := by
    refine asc_eq (asc_isort (keysD_nodup _)) (asc_isort (keysD_nodup _)) fun x => ?_
    rw [mem_isort, mem_isort, mem_keysD, mem_keysD]
    constructor
    · rintro ⟨a, ha, e⟩
      exact ⟨a, hf.mem_iff.mp ha, e⟩
    · rintro ⟨a, ha, e⟩
      exact ⟨a, hf.mem_iff.mpr ha, e⟩
  rw [ek]
  refine List.map_congr_left fun t _ => ?_
  rw [sumT_perm hf]
theorem keep_dct {e : Option Int} {as : St} (a : Int × Int) : (as ++ [a]).filter (fun a => keep e a.2) = if keep e a.2 then as.filter (fun a => keep e a.2) ++ [a] else as.filter (fun a => keep e a.2) := by
  rw [List.filter_append]
  cases h : keep e a.2 <;> simp [h]
/-- positive amounts, in order -/
theorem sumT_pos {as : St} {t : Int} (hp : ∀ a ∈ as, 1 ≤ a.1) (h : ∃ a ∈ as, a.2 = t) : 1 ≤ sumT t as := by
  induction as with
  | nil => obtain ⟨a, ha, _⟩ := h; simp at ha
  | cons b as ih =>
    have h0 : 0 ≤ sumT t as := by
      clear ih h
      unfold sumT
      have hp' : ∀ a ∈ as, 1 ≤ a.1 := fun a ha => hp a (by simp [ha])
      clear hp
      induction as with
      | nil => simp
      | cons c as ih =>
        have h1 := ih fun a ha => hp' a (by simp [ha])
        have h2 := hp' c (by simp)
        by_cases e : c.2 = t
        · simp [e]
          omega
        · simpa [e] using h1
    have hb := hp b (by simp)
    have e : sumT t (b :: as) = (if b.2 = t then b.1 else 0) + sumT t as := by
      unfold sumT
      by_cases e : b.2 = t <;> simp [e]
    rw [e]
    by_cases eb : b.2 = t
    · simp [eb]
      omega
    · simp [eb]
      obtain ⟨a, ha, e2⟩ := h
      rcases List.mem_cons.mp ha with z | z
      · subst z
        exact absurd e2 eb
      · exact ih (fun a ha => hp a (by simp [ha])) ⟨a, z, e2⟩
theorem merge_snd (e : Option Int) (as : St) : (merge e as).map (·.2) = isort (keysD (as.filter fun a => keep e a.2)) := by
  unfold merge
  rw [List.map_map]
  simp [Function.comp_def]
/-- ascending tolls -/
def AscS (as : St) : Prop := Asc (as.map (·.2))
theorem merge_asc (e : Option Int) (as : St) : AscS (merge e as) := by
  unfold AscS
  rw [merge_snd]
  exact asc_isort (keysD_nodup _)
theorem merge_mem {e : Option Int} {as : St} {p : Int × Int} (h : p ∈ merge e as) : keep e p.2 = true ∧ p.1 = sumT p.2 (as.filter fun a => keep e a.2) ∧ ∃ a ∈ as, a.2 = p.2 := by
  unfold merge at h
  obtain ⟨t, ht, rfl⟩ := List.mem_map.mp h
  obtain ⟨a, ha, e2⟩ := mem_keysD.mp (mem_isort.mp ht)
  obtain ⟨h1, h2⟩ := List.mem_filter.mp ha
  subst e2
  exact ⟨h2, rfl, a, h1, rfl⟩
theorem sumT_asc : ∀ {as : St}, AscS as → ∀ {p : Int × Int}, p ∈ as → sumT p.2 as = p.1
  | [], _, p, h => by simp at h
  | b :: as, ha, p, h => by
    obtain ⟨h1, h2⟩ := List.pairwise_cons.mp ha
    have key : sumT p.2 (b :: as) = (if b.2 = p.2 then b.1 else 0) + sumT p.2 as := by
      unfold sumT
      by_cases e : b.2 = p.2 <;> simp [e]
    rw [key]
    rcases List.mem_cons.mp h with rfl | h
    · have : sumT p.2 as = 0 := sumT_none fun z => by
        obtain ⟨a, hm, e⟩ := mem_keysD.mp z
        have : p.2 < a.2 := h1 a.2 (List.mem_map.mpr ⟨a, hm, rfl⟩)
        omega
      simp [this]
    · have : b.2 < p.2 := h1 p.2 (List.mem_map.mpr ⟨p, h, rfl⟩)
      have e : ¬ b.2 = p.2 := by omega
      simp [e, sumT_asc (as := as) h2 h]
/-- steps in order, all kept: nothing changes -/
theorem merge_id {e : Option Int} {as : St} (h : AscS as) (hk : ∀ a ∈ as, keep e a.2 = true) : merge e as = as := by
  have hf : as.filter (fun a => keep e a.2) = as := List.filter_eq_self.mpr hk
  unfold merge
  rw [hf]
  have ek : isort (keysD as) = as.map (·.2) := asc_eq (asc_isort (keysD_nodup _)) h fun x => by
    rw [mem_isort, mem_keysD]
    simp
  rw [ek, List.map_map]
  conv => rhs; rw [← List.map_id as]
  refine List.map_congr_left fun p hp => ?_
  show (sumT p.2 as, p.2) = p
  rw [sumT_asc h hp]
theorem merge_merge (e : Option Int) (as : St) : merge e (merge e as) = merge e as := merge_id (merge_asc e as) fun _ h => (merge_mem h).1
end MG
end
section
/-! Sta: stairs, plainly. -/
namespace MG
open PySem EV
abbrev Sr := St × Option Int
/-- steps and an end, as they are to be; perhaps nothing -/
structure Va (A : St) (e : Option Int) : Prop where
  asc : AscS A
  pos : ∀ a ∈ A, 1 ≤ a.1 ∧ 0 ≤ a.2
  en : ∀ i, e = some i → 1 ≤ i ∧ ∀ a ∈ A, a.2 < i
/-- a stair -/
structure Gs (S : Sr) : Prop where
  va : Va S.1 S.2
  ne : S.2 = none → S.1 ≠ []
/-- all numbers at most 2 ^ k -/
structure Bk (k : Nat) (S : Sr) : Prop where
  st : ∀ a ∈ S.1, a.1 ≤ 2 ^ k ∧ a.2 ≤ 2 ^ k
  en : ∀ i, S.2 = some i → i ≤ 2 ^ k
theorem Bk.mono {k m : Nat} {S : Sr} (h : Bk k S) (hk : k ≤ m) : Bk m S := by
  have h2 : (2 : Int) ^ k ≤ 2 ^ m := by
    have := Nat.pow_le_pow_right (n := 2) (by omega) hk
    exact_mod_cast this
  exact ⟨fun a ha => ⟨Int.le_trans (h.st a ha).1 h2, Int.le_trans (h.st a ha).2 h2⟩, fun i hi => Int.le_trans (h.en i hi) h2⟩
theorem Va.tail {a : Int × Int} {A : St} {e : Option Int} (h : Va (a :: A) e) : Va A e where
  asc := (List.pairwise_cons.mp h.asc).2
  pos := fun b hb => h.pos b (by simp [hb])
  en := fun i hi => ⟨(h.en i hi).1, fun b hb => (h.en i hi).2 b (by simp [hb])⟩
theorem Va.cut {a b t : Int} {A : St} {e : Option Int} (h : Va ((a, t) :: A) e) (hb : 1 ≤ b) : Va ((b, t) :: A) e where
  asc := h.asc
  pos := fun c hc => by
    rcases List.mem_cons.mp hc with rfl | hc
    · exact ⟨hb, (h.pos (a, t) (by simp)).2⟩
    · exact h.pos c (by simp [hc])
  en := fun i hi => ⟨(h.en i hi).1, fun c hc => by
    rcases List.mem_cons.mp hc with rfl | hc
    · exact (h.en i hi).2 (a, t) (by simp)
    · exact (h.en i hi).2 c (by simp [hc])⟩
theorem Va.head {a t : Int} {A : St} {e : Option Int} (h : Va ((a, t) :: A) e) : ∀ c ∈ A, t < c.2 := fun c hc => (List.pairwise_cons.mp h.asc).1 c.2 (List.mem_map.mpr ⟨c, hc, rfl⟩)
/-- the toll of the next piece -/
def hd : St → Option Int → Option Int
  | [], e => e
  | a :: _, _ => some a.2
theorem Va.hd_tail {a t : Int} {A : St} {e : Option Int} (h : Va ((a, t) :: A) e) {u : Int} (hu : hd A e = some u) : t < u := by
  cases A with
  | nil => exact (h.en u hu).2 (a, t) (by simp)
  | cons b A =>
    simp only [hd, Option.some.injEq] at hu
    subst hu
    exact h.head b (by simp)
def oMin : Option Int → Option Int → Option Int
  | none, y => y
  | some x, none => some x
  | some x, some y => some (if y < x then y else x)
def oAdd : Option Int → Option Int → Option Int
  | some x, some y => some (x + y)
  | _, _ => none
/-! ### beside one another -/
def sideS (A B : Sr) : Sr := (merge (oMin A.2 B.2) (A.1 ++ B.1), oMin A.2 B.2)
theorem mergeVa {e : Option Int} {as : St} (hp : ∀ a ∈ as, 1 ≤ a.1 ∧ 0 ≤ a.2) (he : ∀ i, e = some i → 1 ≤ i) : Va (merge e as) e where
  asc := merge_asc e as
  pos := fun a h => by
    obtain ⟨h1, h2, b, hb, h3⟩ := merge_mem h
    refine ⟨?_, by rw [← h3]; exact (hp b hb).2⟩
    rw [h2]
    refine sumT_pos (fun c hc => (hp c (List.mem_filter.mp hc).1).1) ⟨b, List.mem_filter.mpr ⟨hb, ?_⟩, h3⟩
    rw [h3]; exact h1
  en := fun i hi => ⟨he i hi, fun a ha => by
    have := (merge_mem ha).1
    rw [hi] at this
    simpa [keep] using this⟩
theorem merge_ne {as : St} (h : as ≠ []) : merge none as ≠ [] := by
  cases as with
  | nil => exact absurd rfl h
  | cons a r =>
    intro z
    have h2 : keysD ((a :: r).filter fun a => keep none a.2) = [] := by
      have := congrArg List.length z
      simp only [merge, List.length_map, (isort_perm _).length_eq, List.length_nil] at this
      exact List.eq_nil_of_length_eq_zero this
    have h3 : a.2 ∈ keysD ((a :: r).filter fun a => keep none a.2) := mem_keysD.mpr ⟨a, by simp [keep], rfl⟩
    rw [h2] at h3
    cases h3
theorem oMin_none {x y : Option Int} (h : oMin x y = none) : x = none ∧ y = none := by
  cases x <;> cases y <;> simp [oMin] at h ⊢
theorem oMin_pos {x y : Option Int} (hx : ∀ i, x = some i → 1 ≤ i) (hy : ∀ i, y = some i → 1 ≤ i) : ∀ i, oMin x y = some i → 1 ≤ i := by
  intro i hi
  cases x with
  | none => exact hy i hi
  | some a =>
    cases y with
    | none => exact hx i hi
    | some b =>
      simp only [oMin, Option.some.injEq] at hi
      have := hx a rfl
      have := hy b rfl
      split at hi <;> omega
theorem side_gs {A B : Sr} (ha : Gs A) (hb : Gs B) : Gs (sideS A B) where
  va := mergeVa (fun a h => by
    rcases List.mem_append.mp h with h | h
    · exact ha.va.pos a h
    · exact hb.va.pos a h) (oMin_pos (fun i hi => (ha.va.en i hi).1) fun i hi => (hb.va.en i hi).1)
  ne := fun h => by
    obtain ⟨h1, h2⟩ := oMin_none h
    have e : (sideS A B).1 = merge none (A.1 ++ B.1) := by
      have h : oMin A.2 B.2 = none := h
      simp only [sideS, h]
    rw [e]
    exact merge_ne (by simp [ha.ne h1])
/-! ### in a row -/
def rowL : St → Option Int → St → Option Int → St
  | [], _, [], _ => []
  | [], none, _ :: _, _ => []
  | [], some x, (b, u) :: B, eb => (b, x + u) :: rowL [] (some x) B eb
  | _ :: _, _, [], none => []
  | (a, t) :: A, ea, [], some y => (a, t + y) :: rowL A ea [] (some y)
  | (a, t) :: A, ea, (b, u) :: B, eb => if a < b then (a, t + u) :: rowL A ea ((b - a, u) :: B) eb else if b < a then (b, t + u) :: rowL ((a - b, t) :: A) ea B eb else (a, t + u) :: rowL A ea B eb
termination_by A _ B _ => A.length + B.length
def rowS (A B : Sr) : Sr := (rowL A.1 A.2 B.1 B.2, oAdd A.2 B.2)
theorem row_va : ∀ (A : St) (ea : Option Int) (B : St) (eb : Option Int), Va A ea → Va B eb → AscS (rowL A ea B eb) ∧ ∀ p ∈ rowL A ea B eb, 1 ≤ p.1 ∧ (∃ t u, hd A ea = some t ∧ hd B eb = some u ∧ t + u ≤ p.2) ∧ (∀ x y, ea = some x → eb = some y → p.2 < x + y) := by
  intro A ea B eb
  fun_induction rowL A ea B eb with
  | case1 => intro _ _; exact ⟨by simp [AscS, Asc], by simp⟩
  | case2 => intro _ _; exact ⟨by simp [AscS, Asc], by simp⟩
  | case3 x b u B eb ih =>
    intro ha hb
    obtain ⟨h1, h2⟩ := ih ha hb.tail
    refine ⟨List.pairwise_cons.mpr ⟨fun q hq => ?_, h1⟩, fun p hp => ?_⟩
    · obtain ⟨p, hp, rfl⟩ := List.mem_map.mp hq
      obtain ⟨_, ⟨t, v, e1, e2, e3⟩, _⟩ := h2 p hp
      have := hb.hd_tail e2
      simp only [hd, Option.some.injEq] at e1
      subst e1
      show x + u < p.2
      omega
    · rcases List.mem_cons.mp hp with rfl | hp
      · refine ⟨(hb.pos (b, u) (by simp)).1, ⟨x, u, rfl, rfl, Int.le_refl _⟩, fun x' y e1 e2 => ?_⟩
        cases e1
        have := (hb.en y e2).2 (b, u) (by simp)
        simp only at this ⊢
        omega
      · obtain ⟨q1, ⟨t, v, e1, e2, e3⟩, q3⟩ := h2 p hp
        have := hb.hd_tail e2
        exact ⟨q1, ⟨t, u, e1, rfl, by omega⟩, q3⟩
  | case4 => intro _ _; exact ⟨by simp [AscS, Asc], by simp⟩
  | case5 a t A ea y ih =>
    intro ha hb
    obtain ⟨h1, h2⟩ := ih ha.tail hb
    refine ⟨List.pairwise_cons.mpr ⟨fun q hq => ?_, h1⟩, fun p hp => ?_⟩
    · obtain ⟨p, hp, rfl⟩ := List.mem_map.mp hq
      obtain ⟨_, ⟨v, u, e1, e2, e3⟩, _⟩ := h2 p hp
      have := ha.hd_tail e1
      simp only [hd, Option.some.injEq] at e2
      subst e2
      show t + y < p.2
      omega
    · rcases List.mem_cons.mp hp with rfl | hp
      · refine ⟨(ha.pos (a, t) (by simp)).1, ⟨t, y, rfl, rfl, Int.le_refl _⟩, fun x y' e1 e2 => ?_⟩
        cases e2
        have := (ha.en x e1).2 (a, t) (by simp)
        simp only at this ⊢
        omega
      · obtain ⟨q1, ⟨v, u, e1, e2, e3⟩, q3⟩ := h2 p hp
        have := ha.hd_tail e1
        exact ⟨q1, ⟨t, u, rfl, e2, by omega⟩, q3⟩
  | case6 a t A ea b u B eb hlt ih =>
    intro ha hb
    have hb1 := hb.pos (b, u) (by simp)
    have ha1 := ha.pos (a, t) (by simp)
    simp only at hb1 ha1
    obtain ⟨h1, h2⟩ := ih ha.tail (hb.cut (b := b - a) (by omega))
    refine ⟨List.pairwise_cons.mpr ⟨fun q hq => ?_, h1⟩, fun p hp => ?_⟩
    · obtain ⟨p, hp, rfl⟩ := List.mem_map.mp hq
      obtain ⟨_, ⟨v, w, e1, e2, e3⟩, _⟩ := h2 p hp
      have := ha.hd_tail e1
      simp only [hd, Option.some.injEq] at e2
      subst e2
      show t + u < p.2
      omega
    · rcases List.mem_cons.mp hp with rfl | hp
      · refine ⟨ha1.1, ⟨t, u, rfl, rfl, Int.le_refl _⟩, fun x y e1 e2 => ?_⟩
        have := (ha.en x e1).2 (a, t) (by simp)
        have := (hb.en y e2).2 (b, u) (by simp)
        simp only at *
        omega
      · obtain ⟨q1, ⟨v, w, e1, e2, e3⟩, q3⟩ := h2 p hp
        have := ha.hd_tail e1
        exact ⟨q1, ⟨t, w, rfl, e2, by omega⟩, q3⟩
  | case7 a t A ea b u B eb hnl hlt ih =>
    intro ha hb
    have hb1 := hb.pos (b, u) (by simp)
    have ha1 := ha.pos (a, t) (by simp)
    simp only at hb1 ha1
    obtain ⟨h1, h2⟩ := ih (ha.cut (b := a - b) (by omega)) hb.tail
    refine ⟨List.pairwise_cons.mpr ⟨fun q hq => ?_, h1⟩, fun p hp => ?_⟩
    · obtain ⟨p, hp, rfl⟩ := List.mem_map.mp hq
      obtain ⟨_, ⟨v, w, e1, e2, e3⟩, _⟩ := h2 p hp
      have := hb.hd_tail e2
      simp only [hd, Option.some.injEq] at e1
      subst e1
      show t + u < p.2
      omega
    · rcases List.mem_cons.mp hp with rfl | hp
      · refine ⟨hb1.1, ⟨t, u, rfl, rfl, Int.le_refl _⟩, fun x y e1 e2 => ?_⟩
        have := (ha.en x e1).2 (a, t) (by simp)
        have := (hb.en y e2).2 (b, u) (by simp)
        simp only at *
        omega
      · obtain ⟨q1, ⟨v, w, e1, e2, e3⟩, q3⟩ := h2 p hp
        have := hb.hd_tail e2
        exact ⟨q1, ⟨v, u, e1, rfl, by omega⟩, q3⟩
  | case8 a t A ea b u B eb hnl hnl2 ih =>
    intro ha hb
    have hb1 := hb.pos (b, u) (by simp)
    have ha1 := ha.pos (a, t) (by simp)
    simp only at hb1 ha1
    obtain ⟨h1, h2⟩ := ih ha.tail hb.tail
    refine ⟨List.pairwise_cons.mpr ⟨fun q hq => ?_, h1⟩, fun p hp => ?_⟩
    · obtain ⟨p, hp, rfl⟩ := List.mem_map.mp hq
      obtain ⟨_, ⟨v, w, e1, e2, e3⟩, _⟩ := h2 p hp
      have := ha.hd_tail e1
      have := hb.hd_tail e2
      show t + u < p.2
      omega
    · rcases List.mem_cons.mp hp with rfl | hp
      · refine ⟨ha1.1, ⟨t, u, rfl, rfl, Int.le_refl _⟩, fun x y e1 e2 => ?_⟩
        have := (ha.en x e1).2 (a, t) (by simp)
        have := (hb.en y e2).2 (b, u) (by simp)
        simp only at *
        omega
      · obtain ⟨q1, ⟨v, w, e1, e2, e3⟩, q3⟩ := h2 p hp
        have := ha.hd_tail e1
        have := hb.hd_tail e2
        exact ⟨q1, ⟨t, u, rfl, rfl, by omega⟩, q3⟩
theorem oAdd_some {x y : Option Int} {i : Int} (h : oAdd x y = some i) : ∃ a b, x = some a ∧ y = some b ∧ i = a + b := by
  cases x <;> cases y <;> simp [oAdd] at h
  exact ⟨_, _, rfl, rfl, h.symm⟩
theorem row_nil {A : St} {ea : Option Int} {B : St} {eb : Option Int} (h : rowL A ea B eb = []) : (A = [] ∧ B = []) ∨ (A = [] ∧ ea = none) ∨ (B = [] ∧ eb = none) := by
  fun_cases rowL A ea B eb with
  | case1 => simp
  | case2 => simp
  | case3 => simp [rowL] at h
  | case4 => simp
  | case5 => simp [rowL] at h
  | case6 => simp [rowL, *] at h
  | case7 => simp [rowL, *] at h
  | case8 => simp [rowL, *] at h
theorem row_gs {A B : Sr} (ha : Gs A) (hb : Gs B) : Gs (rowS A B) where
  va := by
    obtain ⟨h1, h2⟩ := row_va A.1 A.2 B.1 B.2 ha.va hb.va
    refine ⟨h1, fun a h => ⟨(h2 a h).1, ?_⟩, fun i hi => ?_⟩
    · obtain ⟨_, ⟨t, u, e1, e2, e3⟩, _⟩ := h2 a h
      have p : ∀ {S : Sr} {t : Int}, Gs S → hd S.1 S.2 = some t → 0 ≤ t := fun {S t} g e => by
        obtain ⟨A, e'⟩ := S
        cases A with
        | nil => have := (g.va.en t e).1; omega
        | cons c A =>
          simp only [hd, Option.some.injEq] at e
          subst e
          exact (g.va.pos c (by simp)).2
      have := p ha e1
      have := p hb e2
      omega
    · obtain ⟨x, y, e1, e2, rfl⟩ := oAdd_some hi
      have := (ha.va.en x e1).1
      have := (hb.va.en y e2).1
      exact ⟨by omega, fun a h => (h2 a h).2.2 x y e1 e2⟩
  ne := fun h z => by
    have h : oAdd A.2 B.2 = none := h
    rcases row_nil z with ⟨h1, h2⟩ | ⟨h1, h2⟩ | ⟨h1, h2⟩
    · cases ea : A.2 with
      | none => exact ha.ne ea h1
      | some x =>
        cases eb : B.2 with
        | none => exact hb.ne eb h2
        | some y => rw [ea, eb] at h; cases h
    · exact ha.ne h2 h1
    · exact hb.ne h2 h1
/-! ### times, copies -/
def timesS (n : Int) (A : Sr) : Sr := (A.1.map fun a => (a.1, n * a.2), A.2.map (n * ·))
def copyS (n : Int) (A : Sr) : Sr := (A.1.map fun a => (n * a.1, a.2), A.2)
theorem times_gs {n : Int} {A : Sr} (hn : 1 ≤ n) (h : Gs A) : Gs (timesS n A) where
  va := by
    refine ⟨?_, fun a ha => ?_, fun i hi => ?_⟩
    · have := h.va.asc
      unfold AscS Asc at *
      simp only [timesS, List.map_map]
      rw [List.pairwise_map] at this ⊢
      exact this.imp fun {a b} q => Int.mul_lt_mul_of_pos_left q (by omega)
    · obtain ⟨b, hb, rfl⟩ := List.mem_map.mp ha
      have := h.va.pos b hb
      exact ⟨this.1, Int.mul_nonneg (by omega) this.2⟩
    · obtain ⟨j, hj, rfl⟩ := Option.map_eq_some_iff.mp hi
      have := h.va.en j hj
      refine ⟨?_, fun a ha => ?_⟩
      · have := Int.mul_le_mul hn this.1 (by omega) (by omega)
        omega
      · obtain ⟨b, hb, rfl⟩ := List.mem_map.mp ha
        exact Int.mul_lt_mul_of_pos_left (this.2 b hb) (by omega)
  ne := fun z => by
    have : A.2 = none := by simpa [timesS] using z
    simpa [timesS] using h.ne this
theorem copy_gs {n : Int} {A : Sr} (hn : 1 ≤ n) (h : Gs A) : Gs (copyS n A) where
  va := by
    refine ⟨?_, fun a ha => ?_, fun i hi => ⟨(h.va.en i hi).1, fun a ha => ?_⟩⟩
    · have := h.va.asc
      unfold AscS at *
      simpa [copyS, List.map_map, Function.comp_def] using this
    · obtain ⟨b, hb, rfl⟩ := List.mem_map.mp ha
      have := h.va.pos b hb
      refine ⟨?_, this.2⟩
      have := Int.mul_le_mul hn this.1 (by omega) (by omega)
      simpa using this
    · obtain ⟨b, hb, rfl⟩ := List.mem_map.mp ha
      exact (h.va.en i hi).2 b hb
  ne := fun z => by
    have := h.ne z
    simpa [copyS] using this
end MG
end
section
/-! Pln: plans, plainly. -/
namespace MG
open PySem EV
/-! ### how great, how many -/
theorem pow_mono {k m : Nat} (h : k ≤ m) : (2 : Int) ^ k ≤ 2 ^ m := by
  have := Nat.pow_le_pow_right (n := 2) (by omega) h
  exact_mod_cast this
theorem pow_dbl (k : Nat) : (2 : Int) ^ (k + 1) = 2 ^ k + 2 ^ k := by rw [Int.pow_succ]; omega
theorem sumT_app (t : Int) (A B : St) : sumT t (A ++ B) = sumT t A + sumT t B := by
  unfold sumT
  rw [List.filter_append, List.map_append, List.sum_append]
theorem sumT_bd {A : St} {k : Nat} {t : Int} (h : AscS A) (hb : ∀ a ∈ A, 1 ≤ a.1 ∧ a.1 ≤ 2 ^ k) : 0 ≤ sumT t A ∧ sumT t A ≤ 2 ^ k := by
  have hp : (0 : Int) ≤ 2 ^ k := Int.pow_nonneg (by omega)
  by_cases hm : t ∈ keysD A
  · obtain ⟨a, ha, rfl⟩ := mem_keysD.mp hm
    rw [sumT_asc h ha]
    have := hb a ha
    omega
  · rw [sumT_none hm]
    omega
theorem sumT_filter {e : Option Int} {A : St} {t : Int} (h : keep e t = true) : sumT t (A.filter fun a => keep e a.2) = sumT t A := by
  unfold sumT
  rw [List.filter_filter]
  congr 2
  refine List.filter_congr fun a _ => ?_
  by_cases e1 : a.2 = t
  · simp [e1, h]
  · simp [e1]
theorem oMin_le {x y : Option Int} {i : Int} (h : oMin x y = some i) : x = some i ∨ y = some i := by
  cases x with
  | none => exact .inr h
  | some a =>
    cases y with
    | none => exact .inl h
    | some b =>
      simp only [oMin, Option.some.injEq] at h
      split at h
      · exact .inr (by rw [h])
      · exact .inl (by rw [h])
theorem side_bk {A B : Sr} {k : Nat} (ga : Gs A) (gb : Gs B) (ha : Bk k A) (hb : Bk k B) : Bk (k + 1) (sideS A B) where
  st := fun a h => by
    obtain ⟨h1, h2, b, hm, h3⟩ := merge_mem h
    rw [sumT_filter h1, sumT_app] at h2
    have q1 := sumT_bd (t := a.2) ga.va.asc fun c hc => ⟨(ga.va.pos c hc).1, (ha.st c hc).1⟩
    have q2 := sumT_bd (t := a.2) gb.va.asc fun c hc => ⟨(gb.va.pos c hc).1, (hb.st c hc).1⟩
    have hp : (0 : Int) ≤ 2 ^ k := Int.pow_nonneg (by omega)
    rw [pow_dbl]
    refine ⟨by omega, ?_⟩
    rw [← h3]
    rcases List.mem_append.mp hm with hm | hm
    · have := (ha.st b hm).2; omega
    · have := (hb.st b hm).2; omega
  en := fun i hi => by
    rw [pow_dbl]
    have hp : (0 : Int) ≤ 2 ^ k := Int.pow_nonneg (by omega)
    rcases oMin_le hi with h | h
    · have := ha.en i h; omega
    · have := hb.en i h; omega
theorem row_bd : ∀ (A : St) (ea : Option Int) (B : St) (eb : Option Int) (k : Nat), Va A ea → Va B eb → Bk k (A, ea) → Bk k (B, eb) → ∀ p ∈ rowL A ea B eb, p.1 ≤ 2 ^ k ∧ p.2 ≤ 2 ^ (k + 1) := by
  intro A ea B eb k
  have tl : ∀ {a : Int × Int} {A : St} {e : Option Int}, Bk k (a :: A, e) → Bk k (A, e) := fun {a A e} h => ⟨fun b hb => h.st b (by simp [hb]), h.en⟩
  have ct : ∀ {a b t : Int} {A : St} {e : Option Int}, Bk k ((a, t) :: A, e) → b ≤ a → Bk k ((b, t) :: A, e) := fun {a b t A e} h hb => ⟨fun c hc => by
    rcases List.mem_cons.mp hc with rfl | hc
    · have := h.st (a, t) (by simp)
      exact ⟨by simp only at *; omega, this.2⟩
    · exact h.st c (by simp [hc]), h.en⟩
  fun_induction rowL A ea B eb with
  | case1 => intro _ _ _ _ p hp; simp at hp
  | case2 => intro _ _ _ _ p hp; simp at hp
  | case3 x b u B eb ih =>
    intro va vb ha hb p hp
    rcases List.mem_cons.mp hp with rfl | hp
    · have := hb.st (b, u) (by simp)
      have := ha.en x rfl
      rw [pow_dbl]
      exact ⟨by simp only at *; omega, by simp only at *; omega⟩
    · exact ih va vb.tail ha (tl hb) p hp
  | case4 => intro _ _ _ _ p hp; simp at hp
  | case5 a t A ea y ih =>
    intro va vb ha hb p hp
    rcases List.mem_cons.mp hp with rfl | hp
    · have := ha.st (a, t) (by simp)
      have := hb.en y rfl
      rw [pow_dbl]
      exact ⟨by simp only at *; omega, by simp only at *; omega⟩
    · exact ih va.tail vb (tl ha) hb p hp
  | case6 a t A ea b u B eb hlt ih =>
    intro va vb ha hb p hp
    have b1 := vb.pos (b, u) (by simp)
    have a1 := va.pos (a, t) (by simp)
    rcases List.mem_cons.mp hp with rfl | hp
    · have := ha.st (a, t) (by simp)
      have := hb.st (b, u) (by simp)
      rw [pow_dbl]
      exact ⟨by simp only at *; omega, by simp only at *; omega⟩
    · exact ih va.tail (vb.cut (by simp only at *; omega)) (tl ha) (ct hb (by simp only at *; omega)) p hp
  | case7 a t A ea b u B eb hnl hlt ih =>
    intro va vb ha hb p hp
    have b1 := vb.pos (b, u) (by simp)
    have a1 := va.pos (a, t) (by simp)
    rcases List.mem_cons.mp hp with rfl | hp
    · have := ha.st (a, t) (by simp)
      have := hb.st (b, u) (by simp)
      rw [pow_dbl]
      exact ⟨by simp only at *; omega, by simp only at *; omega⟩
    · exact ih (va.cut (by simp only at *; omega)) vb.tail (ct ha (by simp only at *; omega)) (tl hb) p hp
  | case8 a t A ea b u B eb hnl hnl2 ih =>
    intro va vb ha hb p hp
    rcases List.mem_cons.mp hp with rfl | hp
    · have := ha.st (a, t) (by simp)
      have := hb.st (b, u) (by simp)
      rw [pow_dbl]
      exact ⟨by simp only at *; omega, by simp only at *; omega⟩
    · exact ih va.tail vb.tail (tl ha) (tl hb) p hp
theorem row_bk {A B : Sr} {k : Nat} (ga : Gs A) (gb : Gs B) (ha : Bk k A) (hb : Bk k B) : Bk (k + 1) (rowS A B) where
  st := fun a h => by
    obtain ⟨h1, h2⟩ := row_bd A.1 A.2 B.1 B.2 k ga.va gb.va ha hb a h
    exact ⟨Int.le_trans h1 (pow_mono (by omega)), h2⟩
  en := fun i hi => by
    obtain ⟨x, y, e1, e2, rfl⟩ := oAdd_some hi
    have := ha.en x e1
    have := hb.en y e2
    rw [pow_dbl]
    omega
theorem merge_len (e : Option Int) (as : St) : (merge e as).length ≤ as.length := by
  have h1 : (keysD (as.filter fun a => keep e a.2)).length ≤ as.length := Nat.le_trans (keysD_len _) (List.length_filter_le _ _)
  have h2 := (isort_perm (keysD (as.filter fun a => keep e a.2))).length_eq
  simp only [merge, List.length_map]
  omega
theorem row_len (A : St) (ea : Option Int) (B : St) (eb : Option Int) : (rowL A ea B eb).length ≤ A.length + B.length := by
  fun_induction rowL A ea B eb <;> simp at * <;> omega
theorem side_len (A B : Sr) : (sideS A B).1.length ≤ A.1.length + B.1.length := by
  have := merge_len (oMin A.2 B.2) (A.1 ++ B.1)
  simpa [sideS] using this
theorem rowS_len (A B : Sr) : (rowS A B).1.length ≤ A.1.length + B.1.length := row_len _ _ _ _
theorem times_bk {n : Int} {k : Nat} {A : Sr} (h1 : 1 ≤ n) (hn : n ≤ 2 ^ 100) (g : Gs A) (h : Bk k A) : Bk (k + 100) (timesS n A) := by
  have mul : ∀ x : Int, 0 ≤ x → x ≤ 2 ^ k → n * x ≤ 2 ^ (k + 100) := fun x h0 hx => by
    have := Int.mul_le_mul hn hx h0 (Int.pow_nonneg (by omega))
    rw [Int.pow_add, Int.mul_comm (2 ^ k)]
    exact this
  refine ⟨fun a ha => ?_, fun i hi => ?_⟩
  · obtain ⟨b, hb, rfl⟩ := List.mem_map.mp ha
    exact ⟨Int.le_trans (h.st b hb).1 (pow_mono (by omega)), mul _ (g.va.pos b hb).2 (h.st b hb).2⟩
  · obtain ⟨j, hj, rfl⟩ := Option.map_eq_some_iff.mp hi
    have := g.va.en j hj
    exact mul _ (by omega) (h.en j hj)
theorem copy_bk {n : Int} {k : Nat} {A : Sr} (h1 : 1 ≤ n) (hn : n ≤ 2 ^ 100) (g : Gs A) (h : Bk k A) : Bk (k + 100) (copyS n A) := by
  have mul : ∀ x : Int, 0 ≤ x → x ≤ 2 ^ k → n * x ≤ 2 ^ (k + 100) := fun x h0 hx => by
    have := Int.mul_le_mul hn hx h0 (Int.pow_nonneg (by omega))
    rw [Int.pow_add, Int.mul_comm (2 ^ k)]
    exact this
  refine ⟨fun a ha => ?_, fun i hi => Int.le_trans (h.en i hi) (pow_mono (by omega))⟩
  obtain ⟨b, hb, rfl⟩ := List.mem_map.mp ha
  have := g.va.pos b hb
  exact ⟨mul _ (by omega) (h.st b hb).1, Int.le_trans (h.st b hb).2 (pow_mono (by omega))⟩
/-! ### plans -/
inductive Pn where
  | lane (a t : Int) | endl (t : Int) | many (row : Bool) (ps : List Pn) | rep (tm : Bool) (n : Int) (p : Pn)
def jnW (row : Bool) : P := .str (if row then "row" else "beside")
def rpW (tm : Bool) : P := .str (if tm then "times" else "copies")
mutual
def Pn.enc : Pn → P
  | .lane a t => .tup [.int a, .int t]
  | .endl t => .tup [.str "endless", .int t]
  | .many r ps => .tup [jnW r, .tup (Pn.encL ps)]
  | .rep t n p => .tup [rpW t, .int n, p.enc]
def Pn.encL : List Pn → List P
  | [] => []
  | p :: ps => p.enc :: Pn.encL ps
end
mutual
def Pn.size : Pn → Nat
  | .lane _ _ => 1
  | .endl _ => 1
  | .many _ ps => 1 + Pn.sizeL ps
  | .rep _ _ p => 1 + p.size
def Pn.sizeL : List Pn → Nat
  | [] => 0
  | p :: ps => p.size + Pn.sizeL ps
end
mutual
def Pn.depth : Pn → Nat
  | .lane _ _ => 1
  | .endl _ => 1
  | .many _ ps => 1 + Pn.depthL ps
  | .rep _ _ p => 1 + p.depth
def Pn.depthL : List Pn → Nat
  | [] => 0
  | p :: ps => max p.depth (Pn.depthL ps)
end
def joinS (row : Bool) (A B : Sr) : Sr := if row then rowS A B else sideS A B
def foldS (row : Bool) : List Sr → Sr
  | [] => ([], none)
  | s :: ss => ss.foldl (joinS row) s
mutual
def Pn.st : Pn → Sr
  | .lane a t => ([(a, t)], none)
  | .endl t => ([], some t)
  | .many r ps => foldS r (Pn.stL ps)
  | .rep t n p => if t then timesS n p.st else copyS n p.st
def Pn.stL : List Pn → List Sr
  | [] => []
  | p :: ps => p.st :: Pn.stL ps
end
/-- made of right numbers -/
inductive Pn.Ok : Pn → Prop
  | lane (a t : Int) : 1 ≤ a → a < 1000000000000 → 0 ≤ t → t < 1000000000000 → Pn.Ok (.lane a t)
  | endl (t : Int) : 1 ≤ t → t < 1000000000000 → Pn.Ok (.endl t)
  | many (r : Bool) (ps : List Pn) : ps ≠ [] → ps.length ≤ 12 → (∀ p ∈ ps, Pn.Ok p) → Pn.Ok (.many r ps)
  | rep (t : Bool) (n : Int) (p : Pn) : 1 ≤ n → n ≤ 1000000000000000000000000000000 → Pn.Ok p → Pn.Ok (.rep t n p)
theorem encL_map : ∀ ps : List Pn, Pn.encL ps = ps.map Pn.enc
  | [] => rfl
  | p :: ps => by simp [Pn.encL, encL_map ps]
theorem stL_map : ∀ ps : List Pn, Pn.stL ps = ps.map Pn.st
  | [] => rfl
  | p :: ps => by simp [Pn.stL, stL_map ps]
theorem depthL_le : ∀ {ps : List Pn} {p : Pn}, p ∈ ps → p.depth ≤ Pn.depthL ps
  | q :: ps, p, h => by
    simp only [Pn.depthL]
    rcases List.mem_cons.mp h with rfl | h
    · omega
    · have := depthL_le h
      omega
theorem sizeL_le : ∀ {ps : List Pn} {p : Pn}, p ∈ ps → p.size ≤ Pn.sizeL ps
  | q :: ps, p, h => by
    simp only [Pn.sizeL]
    rcases List.mem_cons.mp h with rfl | h
    · omega
    · have := sizeL_le h
      omega
theorem join_gs {r : Bool} {A B : Sr} (ha : Gs A) (hb : Gs B) : Gs (joinS r A B) := by
  cases r
  · exact side_gs ha hb
  · exact row_gs ha hb
theorem join_bk {r : Bool} {A B : Sr} {k : Nat} (ga : Gs A) (gb : Gs B) (ha : Bk k A) (hb : Bk k B) : Bk (k + 1) (joinS r A B) := by
  cases r
  · exact side_bk ga gb ha hb
  · exact row_bk ga gb ha hb
theorem join_len {r : Bool} (A B : Sr) : (joinS r A B).1.length ≤ A.1.length + B.1.length := by
  cases r
  · exact side_len A B
  · exact rowS_len A B
theorem fold_all {r : Bool} : ∀ (ss : List Sr) (s : Sr) (k : Nat), Gs s → Bk k s → (∀ q ∈ ss, Gs q ∧ Bk k q) → Gs (ss.foldl (joinS r) s) ∧ Bk (k + ss.length) (ss.foldl (joinS r) s) ∧ (ss.foldl (joinS r) s).1.length ≤ s.1.length + (ss.map fun q => q.1.length).sum
  | [], s, k, g, b, _ => ⟨g, b, by simp⟩
  | q :: ss, s, k, g, b, h => by
    obtain ⟨gq, bq⟩ := h q (by simp)
    obtain ⟨h1, h2, h3⟩ := fold_all ss (joinS r s q) (k + 1) (join_gs g gq) (join_bk g gq b bq) fun z hz => ⟨(h z (by simp [hz])).1, (h z (by simp [hz])).2.mono (by omega)⟩
    have := join_len (r := r) s q
    refine ⟨h1, ?_, ?_⟩
    · have e : k + 1 + ss.length = k + (q :: ss).length := by simp; omega
      rw [← e]; exact h2
    · simp only [List.foldl_cons, List.map_cons, List.sum_cons]
      omega
def bkOf (d : Nat) : Nat := 41 + 112 * d
mutual
theorem Pn.good : ∀ p : Pn, p.Ok → Gs p.st ∧ Bk (bkOf p.depth) p.st ∧ p.st.1.length ≤ p.size
  | .lane a t, h => by
    cases h with
    | lane _ _ h1 h2 h3 h4 =>
      have e : (2 : Int) ^ (bkOf 1) = 2 ^ 113 * 2 ^ 40 := by rw [← Int.pow_add] <;> rfl
      have e2 : (2 : Int) ^ 40 = 1099511627776 := by decide
      have e3 : (1 : Int) ≤ 2 ^ 113 := by decide
      have big : (1000000000000 : Int) ≤ 2 ^ (bkOf 1) := by
        rw [e, e2]
        omega
      refine ⟨⟨⟨by simp [Pn.st, AscS, Asc], by simp [Pn.st]; omega, by simp [Pn.st]⟩, by simp [Pn.st]⟩, ⟨by simp [Pn.st, Pn.depth]; omega, by simp [Pn.st]⟩, by simp [Pn.st, Pn.size]⟩
  | .endl t, h => by
    cases h with
    | endl _ h1 h2 =>
      have e : (2 : Int) ^ (bkOf 1) = 2 ^ 113 * 2 ^ 40 := by rw [← Int.pow_add] <;> rfl
      have e2 : (2 : Int) ^ 40 = 1099511627776 := by decide
      have e3 : (1 : Int) ≤ 2 ^ 113 := by decide
      have big : (1000000000000 : Int) ≤ 2 ^ (bkOf 1) := by
        rw [e, e2]
        omega
      refine ⟨⟨⟨by simp [Pn.st, AscS, Asc], by simp [Pn.st], by simp [Pn.st]; omega⟩, by simp [Pn.st]⟩, ⟨by simp [Pn.st], by simp [Pn.st, Pn.depth]; omega⟩, by simp [Pn.st, Pn.size]⟩
  | .many r ps, h => by
    cases h with
    | many _ _ hne hl hok =>
      have ih := Pn.goodL ps hok
      cases ps with
      | nil => exact absurd rfl hne
      | cons p ps =>
        have hp := ih p (by simp)
        have up : ∀ q ∈ p :: ps, Gs q.st ∧ Bk (bkOf (Pn.depthL (p :: ps))) q.st := fun q hq => ⟨(ih q hq).1, (ih q hq).2.1.mono (by
          have := depthL_le hq
          unfold bkOf
          omega)⟩
        obtain ⟨h1, h2, h3⟩ := fold_all (r := r) (ps.map Pn.st) p.st _ hp.1 (up p (by simp)).2 fun q hq => by
          obtain ⟨z, hz, rfl⟩ := List.mem_map.mp hq
          exact up z (by simp [hz])
        have e : (Pn.many r (p :: ps)).st = (ps.map Pn.st).foldl (joinS r) p.st := by simp [Pn.st, Pn.stL, foldS, stL_map]
        rw [e]
        refine ⟨h1, h2.mono ?_, ?_⟩
        · simp only [Pn.depth, bkOf, List.length_map, List.length_cons] at *
          omega
        · refine Nat.le_trans h3 ?_
          have hs : ∀ qs : List Pn, (∀ q ∈ qs, q.st.1.length ≤ q.size) → ((qs.map Pn.st).map fun q => q.1.length).sum ≤ Pn.sizeL qs := fun qs => by
            induction qs with
            | nil => intro _; simp [Pn.sizeL]
            | cons q qs ih =>
              intro h
              have a1 := h q (by simp)
              have a2 := ih fun z hz => h z (by simp [hz])
              simp only [List.map_cons, List.sum_cons, Pn.sizeL]
              omega
          have := hs ps fun q hq => (ih q (by simp [hq])).2.2
          have := hp.2.2
          simp only [Pn.size, Pn.sizeL]
          omega
  | .rep t n p, h => by
    cases h with
    | rep _ _ _ h1 h2 hok =>
      obtain ⟨i1, i2, i3⟩ := Pn.good p hok
      have hn : n ≤ 2 ^ 100 := Int.le_trans h2 (by decide)
      cases t
      · refine ⟨copy_gs h1 i1, (copy_bk h1 hn i1 i2).mono ?_, ?_⟩
        · simp only [Pn.depth, bkOf]
          omega
        · simp [Pn.st, copyS, Pn.size]
          omega
      · refine ⟨times_gs h1 i1, (times_bk h1 hn i1 i2).mono ?_, ?_⟩
        · simp only [Pn.depth, bkOf]
          omega
        · simp [Pn.st, timesS, Pn.size]
          omega
theorem Pn.goodL : ∀ ps : List Pn, (∀ p ∈ ps, p.Ok) → ∀ p ∈ ps, Gs p.st ∧ Bk (bkOf p.depth) p.st ∧ p.st.1.length ≤ p.size
  | [], _, p, hp => by cases hp
  | q :: ps, h, p, hp => by
    rcases List.mem_cons.mp hp with e | hp
    · rw [e]
      exact Pn.good q (h q (by simp))
    · exact Pn.goodL ps (fun z hz => h z (by simp [hz])) p hp
end
end MG
namespace MG
mutual
theorem depth_size : ∀ p : Pn, p.depth ≤ p.size
  | .lane _ _ | .endl _ => by simp [Pn.depth, Pn.size]
  | .many _ ps => by
    have := depth_sizeL ps
    simp only [Pn.depth, Pn.size]
    omega
  | .rep _ _ p => by
    have := depth_size p
    simp only [Pn.depth, Pn.size]
    omega
theorem depth_sizeL : ∀ ps : List Pn, Pn.depthL ps ≤ Pn.sizeL ps
  | [] => by simp [Pn.depthL]
  | p :: ps => by
    have := depth_size p
    have := depth_sizeL ps
    simp only [Pn.depthL, Pn.sizeL]
    omega
end
end MG
end
section
/-! Sta2: a row by all loads at which either part changes, plainly. -/
namespace MG
open PySem EV
/-- what is left behind h pieces -/
def rest : Int → St → St
  | _, [] => []
  | h, (a, t) :: A => if h < a then (a - h, t) :: A else rest (h - a) A
def tollB : St → Option Int → Int → Option Int
  | [], e, _ => e
  | (a, t) :: A, e, l => if l < a then some t else tollB A e (l - a)
theorem tollB_rest : ∀ (A : St) (e : Option Int) (l : Int), tollB A e l = hd (rest l A) e
  | [], e, l => rfl
  | (a, t) :: A, e, l => by
    simp only [tollB, rest]
    split
    · rfl
    · exact tollB_rest A e (l - a)
theorem rest_zero {A : St} (h : ∀ a ∈ A, 1 ≤ a.1) : rest 0 A = A := by
  cases A with
  | nil => rfl
  | cons a A =>
    obtain ⟨a, t⟩ := a
    have := h (a, t) (by simp)
    simp only at this
    simp [rest, show (0 : Int) < a from by omega]
theorem rest_add : ∀ (A : St) (h d : Int), 0 ≤ h → 0 ≤ d → rest (h + d) A = rest d (rest h A)
  | [], _, _, _, _ => rfl
  | (a, t) :: A, h, d, h0, d0 => by
    by_cases h1 : h < a
    · have e : rest h ((a, t) :: A) = (a - h, t) :: A := by simp [rest, h1]
      rw [e]
      by_cases h2 : h + d < a
      · simp only [rest]
        rw [if_pos h2, if_pos (by omega)]
        congr 2
        omega
      · simp only [rest]
        rw [if_neg h2, if_neg (by omega)]
        congr 1
        omega
    · have e : rest h ((a, t) :: A) = rest (h - a) A := by simp [rest, h1]
      rw [e, ← rest_add A (h - a) d (by omega) d0]
      simp only [rest]
      rw [if_neg (by omega)]
      congr 1
      omega
def sums : Int → St → List Int
  | _, [] => []
  | h, a :: A => (h + a.1) :: sums (h + a.1) A
/-- the next change: how far, what is left -/
def stepM : St → St → Option (Int × St × St)
  | [], [] => none
  | [], (b, _) :: B => some (b, [], B)
  | (a, _) :: A, [] => some (a, A, [])
  | (a, t) :: A, (b, u) :: B => if a < b then some (a, A, (b - a, u) :: B) else if b < a then some (b, (a - b, t) :: A, B) else some (a, A, B)
theorem stepM_none {A B : St} (h : stepM A B = none) : A = [] ∧ B = [] := by
  match A, B, h with
  | [], [], _ => simp
  | [], b :: B, h => simp [stepM] at h
  | a :: A, [], h => simp [stepM] at h
  | (a, t) :: A, (b, u) :: B, h =>
    simp only [stepM] at h
    split at h
    · cases h
    · split at h <;> cases h
abbrev Po (A : St) : Prop := ∀ a ∈ A, 1 ≤ a.1
structure StepOk (A B : St) (d : Int) (A' B' : St) : Prop where
  pos : 1 ≤ d
  ra : rest d A = A'
  rb : rest d B = B'
  pa : Po A'
  pb : Po B'
  len : A'.length + B'.length < A.length + B.length
  row : ∀ ea eb, (∃ t u, hd A ea = some t ∧ hd B eb = some u ∧ rowL A ea B eb = (d, t + u) :: rowL A' ea B' eb) ∨ ((hd A ea = none ∨ hd B eb = none) ∧ rowL A ea B eb = [] ∧ rowL A' ea B' eb = [])
  mks : ∀ h z, (z ∈ sums h A ∨ z ∈ sums h B) ↔ (z = h + d ∨ z ∈ sums (h + d) A' ∨ z ∈ sums (h + d) B')
theorem rowL_nil_none (B : St) (eb : Option Int) : rowL [] none B eb = [] := by cases B <;> simp [rowL]
theorem rowL_none_nil (A : St) (ea : Option Int) : rowL A ea [] none = [] := by
  cases A with
  | nil => cases ea <;> simp [rowL]
  | cons a A => obtain ⟨a, t⟩ := a; simp [rowL]
theorem stepM_ok {A B A' B' : St} {d : Int} (pa : Po A) (pb : Po B) (h : stepM A B = some (d, A', B')) : StepOk A B d A' B' := by
  match A, B, pa, pb, h with
  | [], [], _, _, h => simp [stepM] at h
  | [], (b, u) :: B, pa, pb, h =>
    simp only [stepM, Option.some.injEq, Prod.mk.injEq] at h
    obtain ⟨rfl, rfl, rfl⟩ := h
    have b1 := pb (b, u) (by simp)
    simp only at b1
    refine ⟨b1, rfl, ?_, by simp [Po], fun c hc => pb c (by simp [hc]), by simp, fun ea eb => ?_, fun h z => ?_⟩
    · simp only [rest]
      rw [if_neg (by omega), Int.sub_self, rest_zero fun c hc => pb c (by simp [hc])]
    · cases ea with
      | none => exact .inr ⟨.inl rfl, rowL_nil_none _ _, rowL_nil_none _ _⟩
      | some x => exact .inl ⟨x, u, rfl, rfl, by rw [rowL]⟩
    · simp [sums]
  | (a, t) :: A, [], pa, pb, h =>
    simp only [stepM, Option.some.injEq, Prod.mk.injEq] at h
    obtain ⟨rfl, rfl, rfl⟩ := h
    have a1 := pa (a, t) (by simp)
    simp only at a1
    refine ⟨a1, ?_, rfl, fun c hc => pa c (by simp [hc]), by simp [Po], by simp, fun ea eb => ?_, fun h z => ?_⟩
    · simp only [rest]
      rw [if_neg (by omega), Int.sub_self, rest_zero fun c hc => pa c (by simp [hc])]
    · cases eb with
      | none => exact .inr ⟨.inr rfl, rowL_none_nil _ _, rowL_none_nil _ _⟩
      | some x => exact .inl ⟨t, x, rfl, rfl, by rw [rowL]⟩
    · simp [sums]
  | (a, t) :: A, (b, u) :: B, pa, pb, h =>
    have a1 := pa (a, t) (by simp)
    have b1 := pb (b, u) (by simp)
    have pA : Po A := fun c hc => pa c (by simp [hc])
    have pB : Po B := fun c hc => pb c (by simp [hc])
    simp only at a1 b1
    simp only [stepM] at h
    split at h
    · rename_i h1
      simp only [Option.some.injEq, Prod.mk.injEq] at h
      obtain ⟨rfl, rfl, rfl⟩ := h
      refine ⟨a1, ?_, ?_, pA, fun c hc => ?_, by simp, fun ea eb => .inl ⟨t, u, rfl, rfl, by rw [rowL]; simp [h1]⟩, fun h z => ?_⟩
      · simp only [rest]
        rw [if_neg (by omega), Int.sub_self, rest_zero pA]
      · simp [rest, h1]
      · rcases List.mem_cons.mp hc with rfl | hc
        · simp only; omega
        · exact pB c hc
      · simp only [sums, List.mem_cons]
        have e : h + a + (b - a) = h + b := by omega
        rw [e]
        constructor
        · rintro ((z | z) | (z | z)) <;> simp [z]
        · rintro (z | z | z | z) <;> simp [z]
    · split at h
      · rename_i h1 h2
        simp only [Option.some.injEq, Prod.mk.injEq] at h
        obtain ⟨rfl, rfl, rfl⟩ := h
        refine ⟨b1, ?_, ?_, fun c hc => ?_, pB, by simp, fun ea eb => .inl ⟨t, u, rfl, rfl, by rw [rowL]; simp [h1, h2]⟩, fun h z => ?_⟩
        · simp [rest, h2]
        · simp only [rest]
          rw [if_neg (by omega), Int.sub_self, rest_zero pB]
        · rcases List.mem_cons.mp hc with rfl | hc
          · simp only; omega
          · exact pA c hc
        · simp only [sums, List.mem_cons]
          have e : h + b + (a - b) = h + a := by omega
          rw [e]
          constructor
          · rintro ((z | z) | (z | z)) <;> simp [z]
          · rintro (z | (z | z) | z) <;> simp [z]
      · rename_i h1 h2
        have e : b = a := by omega
        subst e
        simp only [Option.some.injEq, Prod.mk.injEq] at h
        obtain ⟨rfl, rfl, rfl⟩ := h
        refine ⟨b1, ?_, ?_, pA, pB, by simp; omega, fun ea eb => .inl ⟨t, u, rfl, rfl, by rw [rowL]; simp⟩, fun h z => ?_⟩
        · simp only [rest]
          rw [if_neg (by omega), Int.sub_self, rest_zero pA]
        · simp only [rest]
          rw [if_neg (by omega), Int.sub_self, rest_zero pB]
        · simp only [sums, List.mem_cons]
          constructor
          · rintro ((z | z) | (z | z)) <;> simp [z]
          · rintro (z | z | z) <;> simp [z]
/-- all loads of changes -/
inductive Marks : Int → St → St → List Int → Prop
  | nil (h : Int) : Marks h [] [] []
  | cons (h : Int) (A B A' B' : St) (d : Int) (l : List Int) : stepM A B = some (d, A', B') → Marks (h + d) A' B' l → Marks h A B ((h + d) :: l)
theorem marks_ex : ∀ (k : Nat) (h : Int) (A B : St), A.length + B.length ≤ k → Po A → Po B → ∃ l, Marks h A B l := by
  intro k
  induction k with
  | zero =>
    intro h A B hk _ _
    have e1 : A = [] := List.eq_nil_of_length_eq_zero (by omega)
    have e2 : B = [] := List.eq_nil_of_length_eq_zero (by omega)
    subst e1 e2
    exact ⟨[], .nil h⟩
  | succ k ih =>
    intro h A B hk pa pb
    cases hs : stepM A B with
    | none =>
      obtain ⟨rfl, rfl⟩ := stepM_none hs
      exact ⟨[], .nil h⟩
    | some q =>
      obtain ⟨d, A', B'⟩ := q
      have so := stepM_ok pa pb hs
      obtain ⟨l, hl⟩ := ih (h + d) A' B' (by have := so.len; omega) so.pa so.pb
      exact ⟨_, .cons h A B A' B' d l hs hl⟩
theorem marks_mem {h : Int} {A B : St} {l : List Int} (m : Marks h A B l) : Po A → Po B → l.Pairwise (· < ·) ∧ (∀ z ∈ l, h < z) ∧ (∀ z, z ∈ l ↔ z ∈ sums h A ∨ z ∈ sums h B) ∧ l.length ≤ A.length + B.length := by
  induction m with
  | nil h => intro _ _; exact ⟨.nil, by simp, by simp [sums], by simp⟩
  | cons h A B A' B' d l hs m ih =>
    intro pa pb
    have so := stepM_ok pa pb hs
    obtain ⟨h1, h2, h3, h4⟩ := ih so.pa so.pb
    have := so.pos
    refine ⟨List.pairwise_cons.mpr ⟨fun z hz => h2 z hz, h1⟩, fun z hz => ?_, fun z => ?_, ?_⟩
    · rcases List.mem_cons.mp hz with rfl | hz
      · omega
      · have := h2 z hz; omega
    · rw [so.mks h z, List.mem_cons, h3 z]
    · have := so.len
      simp only [List.length_cons]
      omega
theorem marks_usort {h : Int} {A B : St} {l : List Int} (m : Marks h A B l) (pa : Po A) (pb : Po B) : usort (sums h A ++ sums h B) = l := by
  obtain ⟨h1, h2, h3, h4⟩ := marks_mem m pa pb
  exact asc_unique (usort_asc _) h1 fun x => by rw [mem_usort, List.mem_append, h3 x]
theorem sums_len : ∀ (A : St) (h : Int), (sums h A).length = A.length
  | [], _ => rfl
  | a :: A, h => by simp [sums, sums_len A]
end MG
end
section
/-! Sta3: what is earned at a price; the least hour. -/
namespace MG
open PySem EV
def pos (x : Int) : Int := if 0 < x then x else 0
def earnS : St → Int → Int
  | [], _ => 0
  | a :: A, p => a.1 * pos (p - a.2) + earnS A p
theorem pos_nn (x : Int) : 0 ≤ pos x := by unfold pos; split <;> omega
theorem pos_mono {x y : Int} (h : x ≤ y) : pos x ≤ pos y := by unfold pos; split <;> split <;> omega
theorem earn_mono : ∀ {A : St} {p q : Int}, Po A → p ≤ q → earnS A p ≤ earnS A q
  | [], _, _, _, _ => by simp [earnS]
  | a :: A, p, q, h, hpq => by
    have h1 := earn_mono (A := A) (fun c hc => h c (by simp [hc])) hpq
    have h2 := h a (by simp)
    have h3 := Int.mul_le_mul_of_nonneg_left (pos_mono (show p - a.2 ≤ q - a.2 by omega)) (show 0 ≤ a.1 by omega)
    simp only [earnS]
    omega
theorem earn_nn : ∀ {A : St} {p : Int}, Po A → 0 ≤ earnS A p
  | [], _, _ => by simp [earnS]
  | a :: A, p, h => by
    have h1 := earn_nn (A := A) (p := p) (fun c hc => h c (by simp [hc]))
    have h2 := h a (by simp)
    have h3 := Int.mul_nonneg (show 0 ≤ a.1 by omega) (pos_nn (p - a.2))
    simp only [earnS]
    omega
theorem earn_low : ∀ {A : St} {p : Int}, (∀ a ∈ A, p ≤ a.2) → earnS A p = 0
  | [], _, _ => rfl
  | a :: A, p, h => by
    have h1 := earn_low (A := A) (p := p) (fun c hc => h c (by simp [hc]))
    have h2 := h a (by simp)
    have h3 : pos (p - a.2) = 0 := by unfold pos; rw [if_neg (by omega)]
    simp only [earnS, h1, h3]
    simp
/-- as the program has it: a sum over the steps below the price -/
theorem earn_filter : ∀ (A : St) (p : Int), earnS A p = ((A.filter fun a => decide (a.2 < p)).map fun a => a.1 * (p - a.2)).sum
  | [], _ => rfl
  | a :: A, p => by
    simp only [earnS, earn_filter A p]
    by_cases h : a.2 < p
    · have : pos (p - a.2) = p - a.2 := by unfold pos; rw [if_pos (by omega)]
      simp [h, this]
    · have : pos (p - a.2) = 0 := by unfold pos; rw [if_neg (by omega)]
      simp [h, this]
theorem earn_max : ∀ (A : St) (p : Int), earnS A p = (A.map fun a => a.1 * (if 0 < p - a.2 then p - a.2 else 0)).sum
  | [], _ => rfl
  | a :: A, p => by simp [earnS, earn_max A p, pos]
/-- what has come by an hour; none: no bound -/
def comeS (A : St) (e : Option Int) (h : Int) : Option Int := match e with
  | some i => if i ≤ h then none else some (earnS A (h + 1))
  | none => some (earnS A (h + 1))
/-- a load has come by an hour -/
def Reach (A : St) (e : Option Int) (load h : Int) : Prop := ∀ v, comeS A e h = some v → load ≤ v
/-- T is the least hour of a load -/
structure Least (A : St) (e : Option Int) (load T : Int) : Prop where
  nn : 0 ≤ T
  at_ : Reach A e load T
  ahead : 0 < T → ¬ Reach A e load (T - 1)
  en : ∀ i, e = some i → T ≤ i
/-- the program's walk: rate, so far, last, the steps that are left -/
def quickL (load : Int) : Int → Int → Int → St → Option Int → Int
  | rate, far, last, [], none => last + (load - far - 1) / rate
  | rate, far, last, [], some i => if rate > 0 ∧ far + rate * (i - last) ≥ load then last + (load - far - 1) / rate else i
  | rate, far, last, (a, t) :: A, e => if rate > 0 ∧ far + rate * (t - last) ≥ load then last + (load - far - 1) / rate else quickL load (rate + a) (far + rate * (t - last)) t A e
def quickS (A : St) (e : Option Int) (load : Int) : Int := if load = 0 then 0 else quickL load 0 0 0 A e
/-- steps behind: rate, so far at last -/
structure Behind (B : St) (rate far last : Int) : Prop where
  low : ∀ a ∈ B, a.2 ≤ last
  rate : rate = (B.map (·.1)).sum
  far : far = earnS B last
theorem earn_lin : ∀ {B : St} {last p : Int}, (∀ a ∈ B, a.2 ≤ last) → last ≤ p → earnS B p = earnS B last + (B.map (·.1)).sum * (p - last)
  | [], _, _, _, _ => by simp [earnS]
  | a :: B, last, p, h, hp => by
    have ih := earn_lin (B := B) (last := last) (p := p) (fun c hc => h c (by simp [hc])) hp
    have ha := h a (by simp)
    have e1 : pos (p - a.2) = pos (last - a.2) + (p - last) := by unfold pos; split <;> split <;> omega
    simp only [earnS, ih, e1, List.map_cons, List.sum_cons, Int.mul_add, Int.add_mul]
    omega
theorem earn_app : ∀ (B A : St) (p : Int), earnS (B ++ A) p = earnS B p + earnS A p
  | [], A, p => by simp [earnS]
  | b :: B, A, p => by simp only [List.cons_append, earnS, earn_app B A p]; omega
/-- within a stretch the least hour is at a division -/
theorem least_div {A : St} {e : Option Int} {load rate far last bound : Int} (hl : 0 ≤ last) (hr : 0 < rate) (hlt : far < load) (hlin : ∀ p, last ≤ p → p ≤ bound → earnS A p = far + rate * (p - last)) (hb : far + rate * (bound - last) ≥ load) (he : ∀ i, e = some i → bound ≤ i) : Least A e load (last + (load - far - 1) / rate) := by
  have q0 : 0 ≤ (load - far - 1) / rate := Int.ediv_nonneg (by omega) (by omega)
  have q1 : rate * ((load - far - 1) / rate) ≤ load - far - 1 := Int.mul_ediv_self_le (by omega)
  have q2 : load - far - 1 < rate * ((load - far - 1) / rate) + rate := Int.lt_mul_ediv_self_add hr
  generalize (load - far - 1) / rate = q at q0 q1 q2
  have q3 : q + 1 ≤ bound - last := by
    have h1 : rate * q < rate * (bound - last) := by omega
    have := Int.lt_of_mul_lt_mul_left h1 (by omega)
    omega
  have e1 : earnS A (last + q + 1) = far + rate * (q + 1) := by
    rw [hlin _ (by omega) (by omega)]
    congr 2
    omega
  have e2 : earnS A (last + q) = far + rate * q := by
    rw [hlin _ (by omega) (by omega)]
    congr 2
    omega
  refine ⟨by omega, fun v hv => ?_, fun h0 hR => ?_, fun i hi => by have := he i hi; omega⟩
  · have : v = earnS A (last + q + 1) := by
      unfold comeS at hv
      split at hv
      · split at hv
        · cases hv
        · simp only [Option.some.injEq] at hv; omega
      · simp only [Option.some.injEq] at hv; omega
    rw [this, e1, Int.mul_add]
    omega
  · have e3 : comeS A e (last + q - 1) = some (earnS A (last + q)) := by
      have e4 : last + q - 1 + 1 = last + q := by omega
      unfold comeS
      split
      · rename_i i
        have := he i rfl
        rw [if_neg (by omega), e4]
      · rw [e4]
    have := hR _ e3
    rw [e2] at this
    omega
theorem sum_pos {B : St} (h : Po B) : 0 ≤ (B.map (·.1)).sum ∧ (B ≠ [] → 0 < (B.map (·.1)).sum) := by
  induction B with
  | nil => simp
  | cons b B ih =>
    have h1 := h b (by simp)
    have h2 := ih fun a ha => h a (by simp [ha])
    simp only [List.map_cons, List.sum_cons]
    exact ⟨by omega, fun _ => by omega⟩
theorem quick_least : ∀ (A B : St) (e : Option Int) (load rate far last : Int), Va A e → Po B → (e = none → B ++ A ≠ []) → Behind B rate far last → (∀ x, hd A e = some x → last ≤ x) → 0 ≤ last → 0 < load → far < load → Least (B ++ A) e load (quickL load rate far last A e)
  | [], B, e, load, rate, far, last, va, pb, ne, bh, hle, hl, h0, hf => by
    rw [List.append_nil] at ne ⊢
    have lin : ∀ p, last ≤ p → earnS B p = far + rate * (p - last) := fun p hp => by rw [bh.far, bh.rate]; exact earn_lin bh.low hp
    cases e with
    | none =>
      have hr : 0 < rate := by rw [bh.rate]; exact (sum_pos pb).2 (ne rfl)
      simp only [quickL]
      have hb : far + rate * (last + (load - far) - last) ≥ load := by
        have := Int.mul_le_mul_of_nonneg_right (show 1 ≤ rate by omega) (show 0 ≤ load - far by omega)
        have e1 : last + (load - far) - last = load - far := by omega
        rw [e1]
        omega
      exact least_div hl hr hf (fun p h1 _ => lin p h1) hb (by simp)
    | some i =>
      have hi := (va.en i rfl).1
      have hli := hle i rfl
      have hr0 : 0 ≤ rate := by rw [bh.rate]; exact (sum_pos pb).1
      simp only [quickL]
      by_cases hc : rate > 0 ∧ far + rate * (i - last) ≥ load
      · rw [if_pos hc]
        exact least_div hl hc.1 hf (fun p h1 _ => lin p h1) hc.2 (fun j hj => by cases hj; omega)
      · rw [if_neg hc]
        have hlt : far + rate * (i - last) < load := by
          by_cases hr : rate > 0
          · have := fun h => hc ⟨hr, h⟩
            omega
          · have : rate = 0 := by omega
            subst this
            simpa using hf
        refine ⟨by omega, fun v hv => ?_, fun _ hR => ?_, fun j hj => by cases hj; exact Int.le_refl _⟩
        · simp [comeS] at hv
        · have e1 : comeS B (some i) (i - 1) = some (earnS B i) := by
            simp only [comeS]
            rw [if_neg (by omega)]
            congr 2
            omega
          have := hR _ e1
          rw [lin i hli] at this
          omega
  | (a, t) :: A, B, e, load, rate, far, last, va, pb, ne, bh, hle, hl, h0, hf => by
    have hlt := hle t rfl
    have hr0 : 0 ≤ rate := by rw [bh.rate]; exact (sum_pos pb).1
    have a1 := va.pos (a, t) (by simp)
    have lin : ∀ p, last ≤ p → p ≤ t → earnS (B ++ (a, t) :: A) p = far + rate * (p - last) := fun p hp hpt => by
      rw [earn_app, earn_lin bh.low hp, ← bh.far, ← bh.rate, earn_low, Int.add_zero]
      intro c hc
      rcases List.mem_cons.mp hc with rfl | hc
      · exact hpt
      · have := va.head c hc
        omega
    simp only [quickL]
    by_cases hc : rate > 0 ∧ far + rate * (t - last) ≥ load
    · rw [if_pos hc]
      exact least_div hl hc.1 hf lin hc.2 (fun j hj => by have := (va.en j hj).2 (a, t) (by simp); simp only at this; omega)
    · rw [if_neg hc]
      have hlt2 : far + rate * (t - last) < load := by
        by_cases hr : rate > 0
        · have := fun h => hc ⟨hr, h⟩
          omega
        · have : rate = 0 := by omega
          subst this
          simpa using hf
      have e1 : B ++ (a, t) :: A = (B ++ [(a, t)]) ++ A := by simp
      rw [e1]
      refine quick_least A (B ++ [(a, t)]) e load (rate + a) (far + rate * (t - last)) t va.tail (fun c hc => ?_) (fun _ => by simp) ⟨fun c hc => ?_, ?_, ?_⟩ (fun x hx => Int.le_of_lt (va.hd_tail hx)) a1.2 h0 hlt2
      · rcases List.mem_append.mp hc with hc | hc
        · exact pb c hc
        · rw [List.mem_singleton.mp hc]; exact a1.1
      · rcases List.mem_append.mp hc with hc | hc
        · exact Int.le_trans (bh.low c hc) hlt
        · rw [List.mem_singleton.mp hc]; exact Int.le_refl _
      · rw [bh.rate]; simp
      · rw [earn_app, earn_lin bh.low hlt, ← bh.far, ← bh.rate]
        simp [earnS, pos]
theorem quickS_least {A : St} {e : Option Int} {load : Int} (va : Va A e) (ne : e = none → A ≠ []) (h : 0 < load) : Least A e load (quickS A e load) := by
  unfold quickS
  rw [if_neg (by omega)]
  have := quick_least A [] e load 0 0 0 va (by simp [Po]) (by simpa using ne) ⟨by simp, by simp, by simp [earnS]⟩ (fun x hx => ?_) (Int.le_refl _) h h
  · simpa using this
  · cases A with
    | nil => have := (va.en x hx).1; omega
    | cons c A =>
      simp only [hd, Option.some.injEq] at hx
      subst hx
      exact (va.pos c (by simp)).2
/-- later loads come no earlier -/
theorem least_mono {A : St} {e : Option Int} {load more T T' : Int} (pa : Po A) (h : Least A e load T) (h' : Least A e more T') (hm : load ≤ more) : T ≤ T' := by
  by_cases hlt : T' < T
  · exfalso
    have h0 : 0 < T := by have := h'.nn; omega
    refine h.ahead h0 fun v hv => ?_
    have hw := h'.at_
    have : ∃ w, comeS A e T' = some w ∧ w ≤ v := by
      unfold comeS at hv ⊢
      split at hv
      · rename_i i
        split at hv
        · cases hv
        · simp only [Option.some.injEq] at hv
          rw [if_neg (by omega)]
          exact ⟨_, rfl, by rw [← hv]; exact earn_mono pa (by omega)⟩
      · simp only [Option.some.injEq] at hv
        exact ⟨_, rfl, by rw [← hv]; exact earn_mono pa (by omega)⟩
    obtain ⟨w, e1, e2⟩ := this
    have := hw w e1
    omega
  · omega
end MG
end
section
/-! Sta4: the cost of a load; loads below a price; earnings of what is put beside. -/
namespace MG
open PySem EV
/-! ### cost -/
def minI (a l : Int) : Int := if l < a then l else a
def leftL : St → Int → Int
  | [], l => l
  | a :: A, l => leftL A (l - minI a.1 l)
def costL : St → Int → Int
  | [], _ => 0
  | a :: A, l => minI a.1 l * a.2 + costL A (l - minI a.1 l)
def costS (A : St) (e : Option Int) (l : Int) : Option Int := if leftL A l = 0 then some (costL A l) else match e with
  | none => none
  | some i => some (costL A l + leftL A l * i)
theorem left_nn : ∀ {A : St} {l : Int}, Po A → 0 ≤ l → 0 ≤ leftL A l
  | [], l, _, h => h
  | a :: A, l, pa, h => by
    have h1 := pa a (by simp)
    simp only [leftL]
    refine left_nn (fun c hc => pa c (by simp [hc])) ?_
    unfold minI
    split <;> omega
/-- nothing earns more than a price allows -/
theorem cost_dual : ∀ {A : St} {l p : Int}, Po A → 0 ≤ l → p * (l - leftL A l) - costL A l ≤ earnS A p
  | [], l, p, _, _ => by simp [leftL, costL, earnS]
  | a :: A, l, p, pa, h => by
    have h1 := pa a (by simp)
    have m0 : 0 ≤ minI a.1 l ∧ minI a.1 l ≤ a.1 ∧ minI a.1 l ≤ l := by unfold minI; split <;> omega
    have ih := cost_dual (A := A) (l := l - minI a.1 l) (p := p) (fun c hc => pa c (by simp [hc])) (by omega)
    simp only [leftL, costL, earnS]
    generalize minI a.1 l = m at *
    have e1 : m * (p - a.2) ≤ a.1 * pos (p - a.2) := by
      unfold pos
      split
      · exact Int.mul_le_mul_of_nonneg_right m0.2.1 (by omega)
      · have := Int.mul_le_mul_of_nonneg_left (show p - a.2 ≤ 0 by omega) m0.1
        rw [Int.mul_zero] at this
        rw [Int.mul_zero]
        exact this
    have e2 : p * (l - leftL A (l - m)) = p * (l - m - leftL A (l - m)) + m * p := by
      rw [Int.mul_comm m p, ← Int.mul_add]
      congr 1
      omega
    rw [Int.mul_sub] at e1
    omega
theorem cost_earn {A : St} {e : Option Int} {l p c : Int} (pa : Po A) (h : 0 ≤ l) (he : ∀ i, e = some i → p ≤ i) (hc : costS A e l = some c) : p * l - c ≤ earnS A p := by
  have d := cost_dual (p := p) pa h
  have hl := left_nn pa h
  rw [Int.mul_sub] at d
  unfold costS at hc
  split at hc
  · rename_i h0
    simp only [Option.some.injEq] at hc
    rw [h0, Int.mul_zero] at d
    omega
  · cases e with
    | none => cases hc
    | some i =>
      simp only [Option.some.injEq] at hc
      have := Int.mul_le_mul_of_nonneg_left (he i rfl) hl
      rw [Int.mul_comm (leftL A l) p] at this
      omega
/-! ### loads below a price -/
def lowS (A : St) (p : Int) : Int := ((A.filter fun a => decide (a.2 < p)).map (·.1)).sum
def highS (A : St) (p : Int) : Int := ((A.filter fun a => decide (a.2 ≤ p)).map (·.1)).sum
theorem high_low (A : St) (p : Int) : highS A p = lowS A (p + 1) := by
  unfold highS lowS
  congr 3
  funext a
  exact decide_eq_decide.mpr (by omega)
theorem low_cons (a : Int × Int) (A : St) (p : Int) : lowS (a :: A) p = (if a.2 < p then a.1 else 0) + lowS A p := by
  unfold lowS
  by_cases h : a.2 < p <;> simp [h]
theorem low_nn : ∀ {A : St} {p : Int}, Po A → 0 ≤ lowS A p
  | [], _, _ => by simp [lowS]
  | a :: A, p, h => by
    have h1 := low_nn (A := A) (p := p) fun c hc => h c (by simp [hc])
    have h2 := h a (by simp)
    rw [low_cons]
    split <;> omega
theorem low_none : ∀ {A : St} {p : Int}, (∀ a ∈ A, p ≤ a.2) → lowS A p = 0
  | [], _, _ => rfl
  | a :: A, p, h => by
    have h1 := low_none (A := A) (p := p) fun c hc => h c (by simp [hc])
    have h2 := h a (by simp)
    rw [low_cons, if_neg (by omega), h1]
    rfl
theorem low_le {A : St} {p q : Int} (pa : Po A) (h : p ≤ q) : lowS A p ≤ lowS A q := by
  induction A with
  | nil => simp [lowS]
  | cons a A ih =>
    have h1 := ih fun c hc => pa c (by simp [hc])
    have h2 := pa a (by simp)
    rw [low_cons, low_cons]
    split <;> split <;> omega
theorem earn_high : ∀ {A : St} {p : Int}, earnS A (p + 1) - earnS A p = highS A p
  | [], _ => rfl
  | a :: A, p => by
    have ih := earn_high (A := A) (p := p)
    rw [high_low] at ih ⊢
    rw [low_cons]
    simp only [earnS]
    have e : a.1 * pos (p + 1 - a.2) - a.1 * pos (p - a.2) = if a.2 < p + 1 then a.1 else 0 := by
      rw [← Int.mul_sub]
      unfold pos
      by_cases h : a.2 < p + 1
      · rw [if_pos (by omega), if_pos h]
        by_cases h2 : 0 < p - a.2
        · rw [if_pos h2]
          have : p + 1 - a.2 - (p - a.2) = 1 := by omega
          rw [this, Int.mul_one]
        · rw [if_neg h2]
          have : p + 1 - a.2 - 0 = 1 := by omega
          rw [this, Int.mul_one]
      · rw [if_neg (by omega), if_neg (by omega), if_neg h]
        simp
    omega
/-- the pieces below a price have tolls below it -/
theorem toll_low : ∀ {A : St} {e : Option Int} {p k : Int}, Va A e → 0 ≤ k → k < lowS A p → ∃ t, tollB A e k = some t ∧ t < p
  | [], e, p, k, va, h0, h => by
    simp [lowS] at h
    omega
  | (a, t) :: A, e, p, k, va, h0, h => by
    simp only [tollB]
    have h1 := va.pos (a, t) (by simp)
    by_cases hp : t < p
    · by_cases hk : k < a
      · rw [if_pos hk]
        exact ⟨t, rfl, hp⟩
      · rw [if_neg hk]
        refine toll_low va.tail (by omega) ?_
        rw [low_cons, if_pos hp] at h
        simp only at h
        omega
    · have l0 : lowS ((a, t) :: A) p = 0 := low_none fun c hc => by
        rcases List.mem_cons.mp hc with rfl | hc
        · simp only; omega
        · have := va.head c hc
          omega
      omega
/-- the piece behind them does not -/
theorem toll_high : ∀ {A : St} {e : Option Int} {p t : Int}, Va A e → (∀ i, e = some i → p ≤ i) → tollB A e (lowS A p) = some t → p ≤ t
  | [], e, p, t, va, he, h => he t h
  | (a, u) :: A, e, p, t, va, he, h => by
    have h1 := va.pos (a, u) (by simp)
    rw [low_cons] at h
    simp only [tollB] at h
    simp only at h h1
    by_cases hp : u < p
    · have := low_nn (p := p) (A := A) fun c hc => (va.tail.pos c hc).1
      rw [if_pos hp, if_neg (by omega)] at h
      refine toll_high va.tail he ?_
      have e1 : a + lowS A p - a = lowS A p := by omega
      rw [e1] at h
      exact h
    · have l0 : lowS A p = 0 := low_none fun c hc => by have := va.head c hc; omega
      rw [if_neg hp, l0, if_pos (by omega)] at h
      simp only [Option.some.injEq] at h
      omega
/-! ### the corner that earns most -/
structure Best (B : St) (p best load spent : Int) : Prop where
  isE : best = earnS B p
  le : p * load - spent ≤ best
  eq : (∀ b ∈ B, b.2 < p) → p * load - spent = best
theorem best_nil (p : Int) : Best [] p 0 0 0 := ⟨rfl, by simp, fun _ => by simp⟩
theorem best_snoc {B : St} {p best load spent a t : Int} (h : Best B p best load spent) (ha : 1 ≤ a) (hb : ∀ b ∈ B, b.2 < t) : Best (B ++ [(a, t)]) p (if p * (load + a) - (spent + a * t) > best then p * (load + a) - (spent + a * t) else best) (load + a) (spent + a * t) := by
  have e1 : p * (load + a) - (spent + a * t) = p * load - spent + a * (p - t) := by
    rw [Int.mul_add, Int.mul_sub, Int.mul_comm p a]
    omega
  have e2 : earnS (B ++ [(a, t)]) p = best + a * pos (p - t) := by
    rw [earn_app, ← h.isE]
    simp [earnS]
  rw [e1]
  by_cases hp : t < p
  · have q := h.eq fun b hb' => Int.lt_trans (hb b hb') hp
    have e3 : pos (p - t) = p - t := by unfold pos; rw [if_pos (by omega)]
    rw [e3] at e2
    have : 0 < a * (p - t) := Int.mul_pos (by omega) (by omega)
    rw [if_pos (by omega)]
    exact ⟨by omega, by omega, fun _ => by omega⟩
  · have e3 : pos (p - t) = 0 := by unfold pos; rw [if_neg (by omega)]
    rw [e3, Int.mul_zero] at e2
    have : a * (p - t) ≤ 0 := by
      have := Int.mul_le_mul_of_nonneg_left (show p - t ≤ 0 by omega) (show 0 ≤ a by omega)
      rw [Int.mul_zero] at this
      exact this
    have l := h.le
    rw [if_neg (by omega)]
    exact ⟨by omega, by omega, fun hh => absurd (hh (a, t) (by simp)) (by simp only; omega)⟩
/-! ### beside -/
theorem sum_one {x : Int} {f : Int → Int} {u : Int} : ∀ {K : List Int}, K.Nodup → u ∈ K → (K.map fun t => (if u = t then x else 0) * f t).sum = x * f u
  | [], _, h => by cases h
  | k :: K, nd, h => by
    rw [List.nodup_cons] at nd
    simp only [List.map_cons, List.sum_cons]
    rcases List.mem_cons.mp h with rfl | h
    · have z : (K.map fun t => (if u = t then x else 0) * f t).sum = 0 := by
        have : ∀ (M : List Int), u ∉ M → (M.map fun t => (if u = t then x else 0) * f t).sum = 0 := fun M => by
          induction M with
          | nil => intro _; rfl
          | cons m M ih =>
            intro hm
            simp only [List.mem_cons, not_or] at hm
            simp only [List.map_cons, List.sum_cons, ih hm.2]
            rw [if_neg hm.1]
            simp
        exact this K nd.1
      rw [z, if_pos rfl, Int.add_zero]
    · have ne : ¬ u = k := fun e => nd.1 (e ▸ h)
      rw [if_neg ne, sum_one nd.2 h]
      simp
theorem sum_keys {f : Int → Int} : ∀ {as : St} {K : List Int}, K.Nodup → (∀ a ∈ as, a.2 ∈ K) → (K.map fun t => sumT t as * f t).sum = (as.map fun a => a.1 * f a.2).sum
  | [], K, _, _ => by
    have : ∀ M : List Int, (M.map fun t => sumT t [] * f t).sum = 0 := fun M => by
      induction M with
      | nil => rfl
      | cons m M ih => simp only [List.map_cons, List.sum_cons, ih]; simp [sumT]
    rw [this]
    rfl
  | a :: as, K, nd, h => by
    have ih := sum_keys (f := f) (as := as) nd fun c hc => h c (List.mem_cons_of_mem _ hc)
    have o := sum_one (x := a.1) (f := f) nd (h a (by simp))
    have : ∀ M : List Int, (M.map fun t => sumT t (a :: as) * f t).sum = (M.map fun t => (if a.2 = t then a.1 else 0) * f t).sum + (M.map fun t => sumT t as * f t).sum := fun M => by
      induction M with
      | nil => rfl
      | cons m M ih =>
        simp only [List.map_cons, List.sum_cons, ih]
        have : sumT m (a :: as) = (if a.2 = m then a.1 else 0) + sumT m as := by
          unfold sumT
          by_cases h : a.2 = m <;> simp [h]
        rw [this, Int.add_mul]
        omega
    rw [this, o, ih]
    simp
theorem earn_map : ∀ (A : St) (p : Int), earnS A p = (A.map fun a => a.1 * pos (p - a.2)).sum
  | [], _ => rfl
  | a :: A, p => by simp [earnS, earn_map A p]
theorem earn_merge {e : Option Int} {as : St} {p : Int} (he : ∀ i, e = some i → p ≤ i) : earnS (merge e as) p = earnS as p := by
  have k1 : earnS (merge e as) p = earnS (as.filter fun a => keep e a.2) p := by
    rw [earn_map, earn_map]
    unfold merge
    rw [List.map_map]
    have nd : (isort (keysD (as.filter fun a => keep e a.2))).Nodup := (asc_isort (keysD_nodup _)).imp fun h => by omega
    exact sum_keys (f := fun t => pos (p - t)) nd fun a ha => mem_isort.mpr (mem_keysD.mpr ⟨a, ha, rfl⟩)
  rw [k1]
  clear k1
  induction as with
  | nil => rfl
  | cons a as ih =>
    by_cases hk : keep e a.2 = true
    · simp only [List.filter_cons, hk, if_true, earnS, ih]
    · have : pos (p - a.2) = 0 := by
        unfold pos
        rw [if_neg]
        cases e with
        | none => exact absurd rfl hk
        | some i =>
          have := he i rfl
          simp [keep] at hk
          omega
      simp only [Bool.not_eq_true] at hk
      simp only [List.filter_cons, hk, earnS, this, Int.mul_zero, Int.zero_add]
      simpa using ih
theorem earn_side {A B : Sr} {p : Int} (ha : ∀ i, A.2 = some i → p ≤ i) (hb : ∀ i, B.2 = some i → p ≤ i) : earnS (sideS A B).1 p = earnS A.1 p + earnS B.1 p := by
  have : earnS (sideS A B).1 p = earnS (A.1 ++ B.1) p := earn_merge fun i hi => by
    cases h1 : A.2 <;> cases h2 : B.2 <;> simp only [h1, h2, oMin] at hi
    · cases hi
    · simp only [Option.some.injEq] at hi; subst hi; exact hb _ h2
    · simp only [Option.some.injEq] at hi; subst hi; exact ha _ h1
    · have := ha _ h1
      have := hb _ h2
      simp only [Option.some.injEq] at hi
      split at hi <;> omega
  rw [this, earn_app]
end MG
end
section
/-! Sta5: costs rise by tolls; costs beside, in a row. -/
namespace MG
open PySem EV
theorem left_zero : ∀ {A : St}, Po A → leftL A 0 = 0 ∧ costL A 0 = 0
  | [], _ => ⟨rfl, rfl⟩
  | a :: A, pa => by
    have h1 := pa a (by simp)
    obtain ⟨h2, h3⟩ := left_zero (A := A) fun c hc => pa c (by simp [hc])
    have m : minI a.1 0 = 0 := by unfold minI; rw [if_pos (by omega)]
    simp only [leftL, costL, m, Int.sub_zero, h2, h3]
    simp
theorem cost_zero {A : St} {e : Option Int} (pa : Po A) : costS A e 0 = some 0 := by
  obtain ⟨h1, h2⟩ := left_zero pa
  unfold costS
  rw [h1, if_pos rfl, h2]
theorem cost_in {a t : Int} {A : St} {e : Option Int} {l : Int} (pa : Po A) (h : l ≤ a) : costS ((a, t) :: A) e l = some (l * t) := by
  obtain ⟨h1, h2⟩ := left_zero pa
  have m : minI a l = l := by unfold minI; split <;> omega
  have z : l - l = 0 := by omega
  unfold costS
  simp only [leftL, costL, m, z, h1, h2, if_true, Int.add_zero]
theorem cost_cons {a t : Int} {A : St} {e : Option Int} {l : Int} (h : a ≤ l) : costS ((a, t) :: A) e l = (costS A e (l - a)).map (a * t + ·) := by
  have m : minI a l = a := by unfold minI; split <;> omega
  unfold costS
  simp only [leftL, costL, m]
  split
  · rfl
  · cases e with
    | none => rfl
    | some i => simp only [Option.map_some, Option.some.injEq]; omega
theorem cost_nil {e : Option Int} {l : Int} : costS [] e l = if l = 0 then some 0 else e.map (l * ·) := by
  by_cases hl : l = 0
  · subst hl; simp [costS, leftL, costL]
  · simp [costS, leftL, costL, hl]
    cases e <;> simp
@[simp] theorem oAdd_none (x : Option Int) : oAdd x none = none := by cases x <;> rfl
@[simp] theorem oAdd_none' (x : Option Int) : oAdd none x = none := by cases x <;> rfl
/-- a piece more costs its toll -/
theorem cost_step : ∀ {A : St} {e : Option Int} {l : Int}, Po A → 0 ≤ l → costS A e (l + 1) = oAdd (costS A e l) (tollB A e l)
  | [], e, l, _, h => by
    rw [cost_nil, cost_nil]
    simp only [tollB]
    rw [if_neg (by omega)]
    cases e with
    | none => simp
    | some i =>
      by_cases hl : l = 0
      · subst hl; simp [oAdd]
      · rw [if_neg hl]
        simp only [oAdd, Option.map_some, Option.some.injEq, Int.add_mul, Int.one_mul]
  | (a, t) :: A, e, l, pa, h => by
    have pA : Po A := fun c hc => pa c (by simp [hc])
    simp only [tollB]
    by_cases hl : l < a
    · rw [if_pos hl, cost_in pA (by omega), cost_in pA (by omega)]
      simp only [oAdd, Option.some.injEq, Int.add_mul, Int.one_mul]
    · have ih := cost_step (A := A) (e := e) (l := l - a) pA (by omega)
      have e1 : l + 1 - a = l - a + 1 := by omega
      rw [if_neg hl, cost_cons (by omega), cost_cons (by omega), e1, ih]
      cases costS A e (l - a) <;> cases tollB A e (l - a) <;> simp [oAdd]
      omega
theorem toll_mono : ∀ {A : St} {e : Option Int} {k k' u : Int}, Va A e → k ≤ k' → tollB A e k' = some u → ∃ t, tollB A e k = some t ∧ t ≤ u
  | [], e, k, k', u, va, h, hu => ⟨u, hu, Int.le_refl _⟩
  | (a, t) :: A, e, k, k', u, va, h, hu => by
    simp only [tollB] at hu ⊢
    by_cases h1 : k < a
    · rw [if_pos h1]
      refine ⟨t, rfl, ?_⟩
      by_cases h2 : k' < a
      · rw [if_pos h2] at hu
        simp only [Option.some.injEq] at hu
        omega
      · rw [if_neg h2, tollB_rest] at hu
        have key : ∀ (B : St) (l : Int), (∀ c ∈ B, t < c.2) → hd (rest l B) e = some u → t ≤ u := fun B => by
          induction B with
          | nil =>
            intro l _ hh
            simp only [rest, hd] at hh
            have := (va.en u hh).2 (a, t) (by simp)
            simp only at this
            omega
          | cons b B ih =>
            intro l hb hh
            obtain ⟨b, w⟩ := b
            simp only [rest] at hh
            split at hh
            · simp only [hd, Option.some.injEq] at hh
              have := hb (b, w) (by simp)
              simp only at this
              omega
            · exact ih _ (fun c hc => hb c (by simp [hc])) hh
        exact key A _ va.head hu
    · rw [if_neg h1]
      rw [if_neg (by omega)] at hu
      exact toll_mono va.tail (by omega) hu
theorem toll_end : ∀ {A : St} {e : Option Int} {k u : Int}, Va A e → tollB A e k = some u → ∀ i, e = some i → u ≤ i
  | [], e, k, u, va, hu, i, hi => by
    simp only [tollB] at hu
    rw [hi] at hu
    simp only [Option.some.injEq] at hu
    omega
  | (a, t) :: A, e, k, u, va, hu, i, hi => by
    simp only [tollB] at hu
    split at hu
    · have := (va.en i hi).2 (a, t) (by simp)
      simp only [Option.some.injEq] at hu this
      omega
    · exact toll_end va.tail hu i hi
theorem toll_nn {A : St} {e : Option Int} {k u : Int} (va : Va A e) (hu : tollB A e k = some u) : 0 ≤ u := by
  induction A generalizing k with
  | nil =>
    have := (va.en u hu).1
    omega
  | cons c A ih =>
    obtain ⟨a, t⟩ := c
    simp only [tollB] at hu
    split at hu
    · have := va.pos (a, t) (by simp)
      simp only [Option.some.injEq] at hu this
      omega
    · exact ih va.tail hu
/-- between the loads of a price the cost is on its line -/
theorem cost_line : ∀ {A : St} {e : Option Int} {p j : Int}, Va A e → 0 ≤ j → lowS A p ≤ j → (j ≤ highS A p ∨ e = some p) → costS A e j = some (p * j - earnS A p)
  | [], e, p, j, va, h0, h1, h2 => by
    simp only [lowS, highS, List.filter_nil, List.map_nil, List.sum_nil] at h1 h2
    rw [cost_nil]
    simp only [earnS]
    by_cases hj : j = 0
    · subst hj; simp
    · rw [if_neg hj]
      rcases h2 with h2 | h2
      · omega
      · rw [h2]
        simp only [Option.map_some, Option.some.injEq, Int.sub_zero]
        exact Int.mul_comm _ _
  | (a, t) :: A, e, p, j, va, h0, h1, h2 => by
    have pA : Po A := fun c hc => (va.tail.pos c hc).1
    have a1 := va.pos (a, t) (by simp)
    rw [high_low] at h2
    rw [low_cons] at h1 h2
    simp only at h1 h2 a1
    simp only [earnS]
    have ln := low_nn (p := p) pA
    by_cases htp : t < p
    · rw [if_pos htp] at h1
      rw [if_pos (by omega)] at h2
      have ih := cost_line (A := A) (e := e) (p := p) (j := j - a) va.tail (by omega) (by omega) (by rw [high_low]; rcases h2 with h2 | h2; exact .inl (by omega); exact .inr h2)
      have e3 : pos (p - t) = p - t := by unfold pos; rw [if_pos (by omega)]
      rw [cost_cons (by omega), ih]
      simp only [Option.map_some, Option.some.injEq, e3, Int.mul_sub]
      rw [Int.mul_comm p a]
      omega
    · have l0 : lowS A (p + 1) = 0 := low_none fun c hc => by have := va.head c hc; omega
      have e0 : earnS A p = 0 := earn_low fun c hc => by have := va.head c hc; omega
      have e3 : pos (p - t) = 0 := by unfold pos; rw [if_neg (by omega)]
      have ne : e ≠ some p := fun h => by
        have := (va.en p h).2 (a, t) (by simp)
        simp only at this
        omega
      have hj := h2.resolve_right ne
      rw [l0] at hj
      rw [e0, e3]
      by_cases hpt : t = p
      · subst hpt
        rw [if_pos (by omega)] at hj
        rw [cost_in pA (by omega)]
        simp only [Option.some.injEq, Int.mul_zero, Int.add_zero, Int.sub_zero]
        exact Int.mul_comm _ _
      · rw [if_neg (by omega)] at hj
        have : j = 0 := by omega
        subst this
        rw [cost_in pA (by omega)]
        simp
/-- the price of a piece -/
theorem toll_low_high {A : St} {e : Option Int} {p k : Int} (va : Va A e) (h0 : 0 ≤ k) (h : tollB A e k = some p) : lowS A p ≤ k ∧ (k < highS A p ∨ e = some p) := by
  constructor
  · by_cases hk : k < lowS A p
    · obtain ⟨t, h1, h2⟩ := toll_low va h0 hk
      rw [h] at h1
      simp only [Option.some.injEq] at h1
      omega
    · omega
  · by_cases he : e = some p
    · exact .inr he
    · refine .inl ?_
      by_cases hk : k < highS A p
      · exact hk
      · exfalso
        obtain ⟨t, h1, h2⟩ := toll_mono va (show highS A p ≤ k by omega) h
        rw [high_low] at h1
        have := toll_high va (fun i hi => by
          have := toll_end va h i hi
          have : i ≠ p := fun hh => he (hh ▸ hi)
          omega) h1
        omega
/-! ### beside -/
theorem low_map : ∀ (A : St) (p : Int), lowS A p = (A.map fun a => a.1 * (if a.2 < p then 1 else 0)).sum
  | [], _ => rfl
  | a :: A, p => by
    rw [low_cons, low_map A p]
    simp only [List.map_cons, List.sum_cons]
    split <;> simp
theorem low_app : ∀ (B A : St) (p : Int), lowS (B ++ A) p = lowS B p + lowS A p
  | [], A, p => by simp [lowS]
  | b :: B, A, p => by rw [List.cons_append, low_cons, low_cons, low_app B A p]; omega
theorem low_merge {e : Option Int} {as : St} {p : Int} (he : ∀ i, e = some i → p ≤ i) : lowS (merge e as) p = lowS as p := by
  have k1 : lowS (merge e as) p = lowS (as.filter fun a => keep e a.2) p := by
    rw [low_map, low_map]
    unfold merge
    rw [List.map_map]
    have nd : (isort (keysD (as.filter fun a => keep e a.2))).Nodup := (asc_isort (keysD_nodup _)).imp fun h => by omega
    exact sum_keys (f := fun t => if t < p then 1 else 0) nd fun a ha => mem_isort.mpr (mem_keysD.mpr ⟨a, ha, rfl⟩)
  rw [k1]
  clear k1
  induction as with
  | nil => rfl
  | cons a as ih =>
    by_cases hk : keep e a.2 = true
    · simp only [List.filter_cons, hk, if_true]
      rw [low_cons, low_cons, ih]
    · have : ¬ a.2 < p := by
        cases e with
        | none => exact absurd rfl hk
        | some i =>
          have := he i rfl
          simp [keep] at hk
          omega
      simp only [Bool.not_eq_true] at hk
      simp only [List.filter_cons, hk]
      rw [low_cons, if_neg this]
      simpa using ih
theorem le_ends {A B : Sr} {p : Int} (h : ∀ i, (sideS A B).2 = some i → p ≤ i) : (∀ i, A.2 = some i → p ≤ i) ∧ (∀ i, B.2 = some i → p ≤ i) := by
  have e : (sideS A B).2 = oMin A.2 B.2 := rfl
  rw [e] at h
  refine ⟨fun i hi => ?_, fun i hi => ?_⟩
  · cases h2 : B.2 with
    | none => exact h i (by rw [hi, h2]; rfl)
    | some j =>
      have := h (if j < i then j else i) (by rw [hi, h2]; rfl)
      split at this <;> omega
  · cases h2 : A.2 with
    | none => exact h i (by rw [hi, h2]; rfl)
    | some j =>
      have := h (if i < j then i else j) (by rw [hi, h2]; rfl)
      split at this <;> omega
theorem low_side {A B : Sr} {p : Int} (h : ∀ i, (sideS A B).2 = some i → p ≤ i) : lowS (sideS A B).1 p = lowS A.1 p + lowS B.1 p := by
  rw [← low_app]
  exact low_merge h
theorem end_side {A B : Sr} {p : Int} (h : (sideS A B).2 = some p) : A.2 = some p ∨ B.2 = some p := by
  have e : (sideS A B).2 = oMin A.2 B.2 := rfl
  rw [e] at h
  cases h1 : A.2 <;> cases h2 : B.2 <;> simp only [h1, h2, oMin] at h
  · cases h
  · exact .inr h
  · exact .inl h
  · simp only [Option.some.injEq] at h
    split at h
    · exact .inr (by rw [h])
    · exact .inl (by rw [h])
/-- all of a load that is carried -/
theorem cost_some {A : St} {e : Option Int} {l c : Int} (h : costS A e (l + 1) = some c) (pa : Po A) (h0 : 0 ≤ l) : ∃ p, tollB A e l = some p := by
  rw [cost_step pa h0] at h
  cases h1 : tollB A e l with
  | some p => exact ⟨p, rfl⟩
  | none => rw [h1] at h; cases hh : costS A e l <;> rw [hh] at h <;> simp [oAdd] at h
/-- a load is parted best -/
theorem side_parts {A B : Sr} {l c : Int} (ga : Gs A) (gb : Gs B) (gc : Gs (sideS A B)) (h0 : 0 ≤ l) (hc : costS (sideS A B).1 (sideS A B).2 l = some c) : ∃ j ca cb, 0 ≤ j ∧ j ≤ l ∧ costS A.1 A.2 j = some ca ∧ costS B.1 B.2 (l - j) = some cb ∧ c = ca + cb := by
  have pa : Po A.1 := fun a ha => (ga.va.pos a ha).1
  have pb : Po B.1 := fun a ha => (gb.va.pos a ha).1
  have pc : Po (sideS A B).1 := fun a ha => (gc.va.pos a ha).1
  by_cases hl : l = 0
  · subst hl
    rw [cost_zero pc] at hc
    simp only [Option.some.injEq] at hc
    exact ⟨0, 0, 0, by omega, by omega, cost_zero pa, cost_zero pb, by omega⟩
  have e1 : l = l - 1 + 1 := by omega
  rw [e1] at hc
  obtain ⟨p, hp⟩ := cost_some hc pc (by omega)
  rw [← e1] at hc
  have hend := toll_end gc.va hp
  obtain ⟨hA, hB⟩ := le_ends hend
  obtain ⟨lo, hi⟩ := toll_low_high gc.va (by omega) hp
  have ls := low_side hend
  have es := earn_side hA hB
  have cl := cost_line gc.va h0 (by omega) (hi.imp (fun h => by omega) id)
  rw [hc] at cl
  simp only [Option.some.injEq] at cl
  have la := low_nn (p := p) pa
  have lb := low_nn (p := p) pb
  have ha1 : lowS A.1 p ≤ highS A.1 p := by rw [high_low]; exact low_le pa (by omega)
  have hb1 : lowS B.1 p ≤ highS B.1 p := by rw [high_low]; exact low_le pb (by omega)
  obtain ⟨j, j1, j2, j3, j4⟩ : ∃ j, lowS A.1 p ≤ j ∧ (j ≤ highS A.1 p ∨ A.2 = some p) ∧ lowS B.1 p ≤ l - j ∧ (l - j ≤ highS B.1 p ∨ B.2 = some p) := by
    by_cases qa : A.2 = some p
    · exact ⟨l - lowS B.1 p, by omega, .inr qa, by omega, .inl (by omega)⟩
    by_cases qb : B.2 = some p
    · exact ⟨lowS A.1 p, by omega, .inl (by omega), by omega, .inr qb⟩
    have qc : (sideS A B).2 ≠ some p := fun h => by
      rcases end_side h with h | h
      · exact qa h
      · exact qb h
    have hi := hi.resolve_right qc
    have hs : highS (sideS A B).1 p = highS A.1 p + highS B.1 p := by
      rw [high_low, high_low, high_low]
      exact low_side fun i h => by
        have := hend i h
        have : i ≠ p := fun hh => qc (hh ▸ h)
        omega
    by_cases hj : l - lowS B.1 p ≤ highS A.1 p
    · exact ⟨l - lowS B.1 p, by omega, .inl hj, by omega, .inl (by omega)⟩
    · exact ⟨highS A.1 p, by omega, .inl (by omega), by omega, .inl (by omega)⟩
  refine ⟨j, _, _, by omega, by omega, cost_line ga.va (by omega) j1 j2, cost_line gb.va (by omega) j3 j4, ?_⟩
  rw [cl, es, Int.mul_sub]
  omega
def total (A : St) : Int := (A.map (·.1)).sum
theorem left_total : ∀ {A : St} {l : Int}, Po A → 0 ≤ l → leftL A l = if l ≤ total A then 0 else l - total A
  | [], l, _, h => by
    simp only [leftL, total, List.map_nil, List.sum_nil]
    split <;> omega
  | a :: A, l, pa, h => by
    have h1 := pa a (by simp)
    have pA : Po A := fun c hc => pa c (by simp [hc])
    have t0 : 0 ≤ total A := (sum_pos pA).1
    have e1 : total (a :: A) = a.1 + total A := by simp [total]
    simp only [leftL]
    by_cases hl : l < a.1
    · have m : minI a.1 l = l := by unfold minI; rw [if_pos hl]
      rw [m, Int.sub_self, (left_zero pA).1, if_pos (by omega)]
    · have m : minI a.1 l = a.1 := by unfold minI; rw [if_neg hl]
      rw [m, left_total pA (by omega), e1]
      by_cases h2 : l - a.1 ≤ total A
      · rw [if_pos h2, if_pos (by omega)]
      · rw [if_neg h2, if_neg (by omega)]
        omega
theorem total_merge (as : St) : total (merge none as) = total as := by
  have f : (as.filter fun a => keep none a.2) = as := by
    rw [List.filter_eq_self]
    intro a _
    rfl
  have := sum_keys (f := fun _ => 1) (as := as) (K := isort (keysD as)) ((asc_isort (keysD_nodup _)).imp fun h => by omega) fun a ha => mem_isort.mpr (mem_keysD.mpr ⟨a, ha, rfl⟩)
  unfold total merge
  rw [f, List.map_map]
  simp only [Int.mul_one] at this
  exact this
/-- no parting is better -/
theorem side_le {A B : Sr} {l j ca cb : Int} (ga : Gs A) (gb : Gs B) (gc : Gs (sideS A B)) (h0 : 0 ≤ j) (h1 : j ≤ l) (ha : costS A.1 A.2 j = some ca) (hb : costS B.1 B.2 (l - j) = some cb) : ∃ c, costS (sideS A B).1 (sideS A B).2 l = some c ∧ c ≤ ca + cb := by
  have pa : Po A.1 := fun a ha => (ga.va.pos a ha).1
  have pb : Po B.1 := fun a ha => (gb.va.pos a ha).1
  have pc : Po (sideS A B).1 := fun a ha => (gc.va.pos a ha).1
  cases hc : costS (sideS A B).1 (sideS A B).2 l with
  | none =>
    exfalso
    have none_of : ∀ {X : St} {e : Option Int} {m : Int}, costS X e m = none → e = none ∧ leftL X m ≠ 0 := fun {X e m} h => by
      unfold costS at h
      split at h
      · cases h
      · cases e with
        | none => exact ⟨rfl, by assumption⟩
        | some i => cases h
    have some_of : ∀ {X : St} {m v : Int}, costS X none m = some v → leftL X m = 0 := fun {X m v} h => by
      unfold costS at h
      split at h
      · assumption
      · cases h
    obtain ⟨e1, e2⟩ := none_of hc
    have e3 : oMin A.2 B.2 = none := e1
    obtain ⟨e4, e5⟩ : A.2 = none ∧ B.2 = none := by
      cases h1 : A.2 <;> cases h2 : B.2 <;> simp [h1, h2, oMin] at e3 ⊢
    rw [e4] at ha
    rw [e5] at hb
    have z1 := some_of ha
    have z2 := some_of hb
    rw [left_total pa h0] at z1
    rw [left_total pb (by omega)] at z2
    rw [left_total pc (by omega)] at e2
    have tc : total (sideS A B).1 = total A.1 + total B.1 := by
      have : (sideS A B).1 = merge none (A.1 ++ B.1) := by unfold sideS; rw [e3]
      rw [this, total_merge]
      simp [total]
    apply e2
    rw [if_pos]
    split at z1 <;> split at z2 <;> omega
  | some c =>
    refine ⟨c, rfl, ?_⟩
    by_cases hl : l = 0
    · have : j = 0 := by omega
      subst hl this
      rw [cost_zero pc] at hc
      rw [cost_zero pa] at ha
      rw [Int.sub_zero, cost_zero pb] at hb
      simp only [Option.some.injEq] at hc ha hb
      omega
    · have e1 : l = l - 1 + 1 := by omega
      rw [e1] at hc
      obtain ⟨p, hp⟩ := cost_some hc pc (by omega)
      rw [← e1] at hc
      have hend := toll_end gc.va hp
      obtain ⟨hA, hB⟩ := le_ends hend
      obtain ⟨lo, hi⟩ := toll_low_high gc.va (by omega) hp
      have es := earn_side hA hB
      have cl := cost_line (j := l) gc.va (by omega) (by omega) (hi.imp (fun h => by omega) id)
      rw [hc] at cl
      simp only [Option.some.injEq] at cl
      have d1 := cost_earn pa h0 hA ha
      have d2 := cost_earn pb (show 0 ≤ l - j by omega) hB hb
      rw [Int.mul_sub] at d2
      omega
/-! ### in a row -/
theorem toll_row : ∀ (A : St) (ea : Option Int) (B : St) (eb : Option Int), ∀ k, tollB (rowL A ea B eb) (oAdd ea eb) k = oAdd (tollB A ea k) (tollB B eb k) := by
  intro A ea B eb
  fun_induction rowL A ea B eb with
  | case1 => intro k; rfl
  | case2 => intro k; simp [tollB, oAdd]
  | case3 x b u B eb ih =>
    intro k
    simp only [tollB]
    split
    · rfl
    · rw [ih]; rfl
  | case4 => intro k; simp [tollB]
  | case5 a t A ea y ih =>
    intro k
    simp only [tollB]
    split
    · rfl
    · rw [ih]; rfl
  | case6 a t A ea b u B eb hab ih =>
    intro k
    simp only [tollB]
    by_cases h1 : k < a
    · rw [if_pos h1, if_pos h1, if_pos (by omega)]; rfl
    · rw [if_neg h1, if_neg h1, ih]
      simp only [tollB]
      by_cases h2 : k < b
      · rw [if_pos h2, if_pos (by omega)]
      · have e : k - a - (b - a) = k - b := by omega
        rw [if_neg h2, if_neg (by omega), e]
  | case7 a t A ea b u B eb hab hba ih =>
    intro k
    simp only [tollB]
    by_cases h1 : k < b
    · rw [if_pos h1, if_pos h1, if_pos (by omega)]; rfl
    · rw [if_neg h1, if_neg h1, ih]
      simp only [tollB]
      by_cases h2 : k < a
      · rw [if_pos h2, if_pos (by omega)]
      · have e : k - b - (a - b) = k - a := by omega
        rw [if_neg h2, if_neg (by omega), e]
  | case8 a t A ea b u B eb hab hba ih =>
    intro k
    have e : a = b := by omega
    subst e
    simp only [tollB]
    by_cases h1 : k < a
    · rw [if_pos h1, if_pos h1, if_pos h1]; rfl
    · rw [if_neg h1, if_neg h1, if_neg h1, ih]
theorem cost_row {A B : Sr} {l : Int} (ga : Gs A) (gb : Gs B) (gc : Gs (rowS A B)) (h0 : 0 ≤ l) : costS (rowS A B).1 (rowS A B).2 l = oAdd (costS A.1 A.2 l) (costS B.1 B.2 l) := by
  have pa : Po A.1 := fun a ha => (ga.va.pos a ha).1
  have pb : Po B.1 := fun a ha => (gb.va.pos a ha).1
  have pc : Po (rowS A B).1 := fun a ha => (gc.va.pos a ha).1
  obtain ⟨n, rfl⟩ := Int.eq_ofNat_of_zero_le h0
  induction n with
  | zero => 
    show costS _ _ 0 = oAdd (costS _ _ 0) (costS _ _ 0)
    rw [cost_zero pc, cost_zero pa, cost_zero pb]; rfl
  | succ n ih =>
    have ih := ih (by omega)
    have e1 : ((n + 1 : Nat) : Int) = (n : Int) + 1 := by simp
    have tr := toll_row A.1 A.2 B.1 B.2 n
    have e2 : tollB (rowS A B).1 (rowS A B).2 n = oAdd (tollB A.1 A.2 n) (tollB B.1 B.2 n) := tr
    rw [e1, cost_step pc (by omega), cost_step pa (by omega), cost_step pb (by omega), ih, e2]
    cases costS A.1 A.2 n <;> cases costS B.1 B.2 n <;> cases tollB A.1 A.2 n <;> cases tollB B.1 B.2 n <;> simp [oAdd]
    omega
end MG
end
section
/-! Sta6: fee rates: the greatest price that earns no more than a fee, as a fraction. -/
namespace MG
open PySem EV
def sL (B : St) : Int := (B.map (·.1)).sum
def sS (B : St) : Int := (B.map fun a => a.1 * a.2).sum
/-- d times what is earned at n / d -/
def earnQ : St → Int → Int → Int
  | [], _, _ => 0
  | a :: A, n, d => a.1 * pos (n - d * a.2) + earnQ A n d
theorem sL_app (B A : St) : sL (B ++ A) = sL B + sL A := by simp [sL]
theorem sS_app (B A : St) : sS (B ++ A) = sS B + sS A := by simp [sS]
theorem earnQ_one : ∀ (A : St) (n : Int), earnQ A n 1 = earnS A n
  | [], _ => rfl
  | a :: A, n => by simp [earnQ, earnS, earnQ_one A n]
/-- weak: no corner earns more -/
theorem dual_weak : ∀ {B X : St} {n d : Int}, Po B → Po X → n * sL B - d * sS B ≤ earnQ (B ++ X) n d
  | [], X, n, d, _, px => by
    have nn : ∀ {X : St}, Po X → 0 ≤ earnQ X n d := fun {X} => by
      induction X with
      | nil => intro _; simp [earnQ]
      | cons x X ih =>
        intro h
        have h1 := ih fun c hc => h c (by simp [hc])
        have h2 := Int.mul_nonneg (show 0 ≤ x.1 by have := h x (by simp); omega) (pos_nn (n - d * x.2))
        simp only [earnQ]
        omega
    have := nn px
    simpa [sL, sS] using this
  | b :: B, X, n, d, pb, px => by
    have ih := dual_weak (B := B) (X := X) (n := n) (d := d) (fun c hc => pb c (by simp [hc])) px
    have h1 := pb b (by simp)
    have e1 : sL (b :: B) = b.1 + sL B := by simp [sL]
    have e2 : sS (b :: B) = b.1 * b.2 + sS B := by simp [sS]
    have h2 : b.1 * (n - d * b.2) ≤ b.1 * pos (n - d * b.2) := Int.mul_le_mul_of_nonneg_left (by unfold pos; split <;> omega) (by omega)
    have e3 : d * (b.1 * b.2) = b.1 * (d * b.2) := by rw [← Int.mul_assoc, Int.mul_comm d b.1, Int.mul_assoc]
    simp only [List.cons_append, earnQ, e1, e2, Int.mul_add, e3]
    rw [Int.mul_sub] at h2
    have e4 := Int.mul_comm n b.1
    omega
/-- strong: some corner earns it -/
theorem dual_strong : ∀ {A : St} {n d : Int}, AscS A → 0 ≤ d → ∃ B X, B ++ X = A ∧ earnQ A n d = n * sL B - d * sS B
  | [], n, d, _, _ => ⟨[], [], rfl, by simp [earnQ, sL, sS]⟩
  | (a, t) :: A, n, d, asc, hd => by
    have asc' : AscS A := (List.pairwise_cons.mp asc).2
    have later : ∀ c ∈ A, t < c.2 := fun c hc => (List.pairwise_cons.mp asc).1 c.2 (List.mem_map.mpr ⟨c, hc, rfl⟩)
    by_cases h : d * t < n
    · obtain ⟨B, X, e1, e2⟩ := dual_strong (n := n) (d := d) asc' hd
      refine ⟨(a, t) :: B, X, by rw [List.cons_append, e1], ?_⟩
      have e3 : pos (n - d * t) = n - d * t := by unfold pos; rw [if_pos (by omega)]
      have e4 : sL ((a, t) :: B) = a + sL B := by simp [sL]
      have e5 : sS ((a, t) :: B) = a * t + sS B := by simp [sS]
      simp only [earnQ, e2, e3, e4, e5, Int.mul_add, Int.mul_sub]
      have e6 := Int.mul_comm n a
      have e7 : d * (a * t) = a * (d * t) := by rw [← Int.mul_assoc, Int.mul_comm d a, Int.mul_assoc]
      omega
    · refine ⟨[], (a, t) :: A, rfl, ?_⟩
      have z : ∀ {X : St}, (∀ c ∈ X, n ≤ d * c.2) → earnQ X n d = 0 := fun {X} => by
        induction X with
        | nil => intro _; rfl
        | cons x X ih =>
          intro h
          have h1 := ih fun c hc => h c (by simp [hc])
          have h2 : pos (n - d * x.2) = 0 := by unfold pos; rw [if_neg (by have := h x (by simp); omega)]
          simp only [earnQ, h1, h2]
          simp
      rw [z fun c hc => ?_]
      · simp [sL, sS]
      · rcases List.mem_cons.mp hc with rfl | hc
        · simp only; omega
        · have := Int.mul_le_mul_of_nonneg_left (Int.le_of_lt (later c hc)) hd
          omega
/-- the least of the rates -/
structure Rt (A : St) (e : Option Int) (F n d : Int) : Prop where
  d0 : 0 < d
  n0 : 0 ≤ n
  le : ∀ B X, B ++ X = A → n * sL B ≤ d * (sS B + F)
  en : ∀ i, e = some i → n ≤ d * i
  at_ : (∃ B X, B ++ X = A ∧ 0 < sL B ∧ n * sL B = d * (sS B + F)) ∨ e = some (n / d) ∧ d * (n / d) = n
theorem mul3 (a b c : Int) : a * (b * c) = b * (a * c) := by rw [← Int.mul_assoc, Int.mul_comm a b, Int.mul_assoc]
/-- a greater fee, a rate no less -/
theorem rt_mono {A : St} {e : Option Int} {F F' n d n' d' : Int} (h : Rt A e F n d) (h' : Rt A e F' n' d') (hF : F ≤ F') : n * d' ≤ n' * d := by
  have hd := h.d0
  have hd' := h'.d0
  rcases h'.at_ with ⟨B, X, e1, hL, e2⟩ | ⟨e1, e2⟩
  · have h1 := h.le B X e1
    have h2 : d' * (n * sL B) ≤ d' * (d * (sS B + F)) := Int.mul_le_mul_of_nonneg_left h1 (by omega)
    have h3 : d' * (d * (sS B + F)) ≤ d * (n' * sL B) := by
      rw [e2, mul3 d' d]
      exact Int.mul_le_mul_of_nonneg_left (Int.mul_le_mul_of_nonneg_left (by omega) (by omega)) (by omega)
    have h4 : (n * d') * sL B ≤ (n' * d) * sL B := by
      have a1 : (n * d') * sL B = d' * (n * sL B) := by rw [Int.mul_comm n d', Int.mul_assoc]
      have a2 : (n' * d) * sL B = d * (n' * sL B) := by rw [Int.mul_comm n' d, Int.mul_assoc]
      rw [a1, a2]
      omega
    exact Int.le_of_mul_le_mul_right h4 hL
  · have h1 := h.en _ e1
    have h2 : n * d' ≤ (d * (n' / d')) * d' := Int.mul_le_mul_of_nonneg_right h1 (by omega)
    have h3 : (d * (n' / d')) * d' = n' * d := by
      rw [Int.mul_assoc, Int.mul_comm (n' / d') d', e2, Int.mul_comm]
    omega
theorem rt_same {A : St} {e : Option Int} {F n d n' d' : Int} (h : Rt A e F n d) (h' : Rt A e F n' d') : n * d' = n' * d := Int.le_antisymm (rt_mono h h' (Int.le_refl _)) (rt_mono h' h (Int.le_refl _))
/-- what is earned at the rate is at most the fee -/
theorem rt_earn {A : St} {e : Option Int} {F n d : Int} (asc : AscS A) (h : Rt A e F n d) : earnQ A n d ≤ d * F := by
  obtain ⟨B, X, e1, e2⟩ := dual_strong (n := n) asc (Int.le_of_lt h.d0)
  have := h.le B X e1
  rw [Int.mul_add] at this
  omega
/-- no load is cheaper -/
theorem rt_cost : ∀ {A : St} {l n d : Int}, Po A → 0 ≤ l → n * (l - leftL A l) - d * costL A l ≤ earnQ A n d
  | [], l, n, d, _, _ => by simp [leftL, costL, earnQ]
  | a :: A, l, n, d, pa, h => by
    have h1 := pa a (by simp)
    have m0 : 0 ≤ minI a.1 l ∧ minI a.1 l ≤ a.1 ∧ minI a.1 l ≤ l := by unfold minI; split <;> omega
    have ih := rt_cost (A := A) (l := l - minI a.1 l) (n := n) (d := d) (fun c hc => pa c (by simp [hc])) (by omega)
    simp only [leftL, costL, earnQ]
    generalize minI a.1 l = m at *
    have e1 : m * (n - d * a.2) ≤ a.1 * pos (n - d * a.2) := by
      unfold pos
      split
      · exact Int.mul_le_mul_of_nonneg_right m0.2.1 (by omega)
      · have := Int.mul_le_mul_of_nonneg_left (show n - d * a.2 ≤ 0 by omega) m0.1
        rw [Int.mul_zero] at this
        rw [Int.mul_zero]
        exact this
    have e2 : n * (l - leftL A (l - m)) = n * (l - m - leftL A (l - m)) + m * n := by
      rw [Int.mul_comm m n, ← Int.mul_add]
      congr 1
      omega
    rw [Int.mul_sub] at e1
    rw [Int.mul_add, mul3 d m]
    omega
theorem rt_load {A : St} {e : Option Int} {F n d l c : Int} (pa : Po A) (asc : AscS A) (h : Rt A e F n d) (hl : 0 ≤ l) (hc : costS A e l = some c) : n * l ≤ d * (F + c) := by
  have q := rt_cost (n := n) (d := d) pa hl
  have r := rt_earn asc h
  have hn := left_nn pa hl
  rw [Int.mul_add]
  rw [Int.mul_sub] at q
  unfold costS at hc
  split at hc
  · rename_i h0
    simp only [Option.some.injEq] at hc
    rw [h0, Int.mul_zero] at q
    rw [hc] at q
    omega
  · cases e with
    | none => cases hc
    | some i =>
      simp only [Option.some.injEq] at hc
      have h2 := Int.mul_le_mul_of_nonneg_left (h.en i rfl) hn
      rw [mul3 _ d, Int.mul_comm (leftL A l) n] at h2
      rw [← hc, Int.mul_add]
      omega
/-- at fee 0 it is the first toll -/
theorem sS_ge {t : Int} : ∀ {B : St}, Po B → (∀ b ∈ B, t ≤ b.2) → t * sL B ≤ sS B
  | [], _, _ => by simp [sL, sS]
  | b :: B, pb, h => by
    have ih := sS_ge (t := t) (B := B) (fun c hc => pb c (by simp [hc])) fun c hc => h c (by simp [hc])
    have h1 := Int.mul_le_mul_of_nonneg_left (h b (by simp)) (show 0 ≤ b.1 by have := pb b (by simp); omega)
    have e1 : sL (b :: B) = b.1 + sL B := by simp [sL]
    have e2 : sS (b :: B) = b.1 * b.2 + sS B := by simp [sS]
    rw [e1, e2, Int.mul_add, Int.mul_comm t b.1]
    omega
theorem hdnn {A : St} {e : Option Int} (va : Va A e) : ∀ z, hd A e = some z → 0 ≤ z := fun x hx => by
  cases A with
  | nil => have := (va.en x hx).1; omega
  | cons c A =>
    simp only [hd, Option.some.injEq] at hx
    subst hx
    exact (va.pos c (by simp)).2
theorem rt_first {A : St} {e : Option Int} {t : Int} (va : Va A e) (h : hd A e = some t) : Rt A e 0 t 1 := by
  have pa : Po A := fun c hc => (va.pos c hc).1
  refine ⟨by omega, hdnn va t h, fun B X hB => ?_, fun i hi => ?_, ?_⟩
  · rw [Int.add_zero, Int.one_mul]
    refine sS_ge (fun c hc => pa c (by rw [← hB]; simp [hc])) fun b hb => ?_
    cases A with
    | nil => simp at hB; rw [hB.1] at hb; cases hb
    | cons a A =>
      simp only [hd, Option.some.injEq] at h
      have hb' : b ∈ a :: A := by rw [← hB]; simp [hb]
      rcases List.mem_cons.mp hb' with rfl | hb'
      · omega
      · have := (List.pairwise_cons.mp va.asc).1 b.2 (List.mem_map.mpr ⟨b, hb', rfl⟩)
        simp only at this
        omega
  · rw [Int.one_mul]
    cases A with
    | nil =>
      simp only [hd] at h
      rw [h] at hi
      cases hi
      omega
    | cons a A =>
      simp only [hd, Option.some.injEq] at h
      have := (va.en i hi).2 a (by simp)
      omega
  · cases A with
    | nil =>
      simp only [hd] at h
      exact .inr ⟨by simpa using h, by simp⟩
    | cons a A =>
      simp only [hd, Option.some.injEq] at h
      refine .inl ⟨[a], A, rfl, ?_, ?_⟩
      · have := pa a (by simp)
        simp [sL]
        omega
      · simp [sL, sS, h]
        exact Int.mul_comm _ _
/-- a price at its earning -/
theorem rt_price {A : St} {e : Option Int} {p : Int} (va : Va A e) (h0 : 0 ≤ p) (he : ∀ i, e = some i → p ≤ i) (hp : earnS A p ≠ 0) : Rt A e (earnS A p) p 1 := by
  have pa : Po A := fun c hc => (va.pos c hc).1
  refine ⟨by omega, h0, fun B X hB => ?_, fun i hi => by have := he i hi; omega, ?_⟩
  · have := dual_weak (B := B) (X := X) (n := p) (d := 1) (fun c hc => pa c (by rw [← hB]; simp [hc])) (fun c hc => pa c (by rw [← hB]; simp [hc]))
    rw [hB, earnQ_one] at this
    omega
  · obtain ⟨B, X, e1, e2⟩ := dual_strong (n := p) (d := 1) va.asc (by omega)
    rw [earnQ_one] at e2
    refine .inl ⟨B, X, e1, ?_, by omega⟩
    have pB : Po B := fun c hc => pa c (by rw [← e1]; simp [hc])
    have := sum_pos pB
    refine this.2 fun hb => ?_
    subst hb
    simp [sL, sS] at e2
    exact hp e2
/-- a whole rate below the end earns the fee -/
theorem rt_whole {A : St} {e : Option Int} {F n : Int} (va : Va A e) (h : Rt A e F n 1) (hn : e ≠ some n) : earnS A n = F ∧ ∀ i, e = some i → n ≤ i := by
  have pa : Po A := fun c hc => (va.pos c hc).1
  have h1 := rt_earn va.asc h
  rw [earnQ_one, Int.one_mul] at h1
  refine ⟨?_, fun i hi => by have := h.en i hi; omega⟩
  rcases h.at_ with ⟨B, X, e1, hL, e2⟩ | ⟨e1, _⟩
  · have := dual_weak (B := B) (X := X) (n := n) (d := 1) (fun c hc => pa c (by rw [← e1]; simp [hc])) (fun c hc => pa c (by rw [← e1]; simp [hc]))
    rw [e1, earnQ_one] at this
    omega
  · rw [Int.ediv_one] at e1
    exact absurd e1 hn
/-! ### the program's walk -/
theorem earnQ_app : ∀ (B X : St) (n d : Int), earnQ (B ++ X) n d = earnQ B n d + earnQ X n d
  | [], X, n, d => by simp [earnQ]
  | b :: B, X, n, d => by simp only [List.cons_append, earnQ, earnQ_app B X n d]; omega
theorem earnQ_all : ∀ {B : St} {n d : Int}, (∀ b ∈ B, d * b.2 ≤ n) → earnQ B n d = n * sL B - d * sS B
  | [], n, d, _ => by simp [earnQ, sL, sS]
  | b :: B, n, d, h => by
    have ih := earnQ_all (B := B) (n := n) (d := d) fun c hc => h c (by simp [hc])
    have h1 := h b (by simp)
    have e0 : pos (n - d * b.2) = n - d * b.2 := by unfold pos; split <;> omega
    have e1 : sL (b :: B) = b.1 + sL B := by simp [sL]
    have e2 : sS (b :: B) = b.1 * b.2 + sS B := by simp [sS]
    have e3 : d * (b.1 * b.2) = b.1 * (d * b.2) := mul3 _ _ _
    simp only [earnQ, ih, e0, e1, e2, Int.mul_add, e3, Int.mul_sub]
    have e4 := Int.mul_comm n b.1
    omega
theorem earnQ_none : ∀ {X : St} {n d : Int}, (∀ c ∈ X, n ≤ d * c.2) → earnQ X n d = 0
  | [], n, d, _ => rfl
  | x :: X, n, d, h => by
    have ih := earnQ_none (X := X) (n := n) (d := d) fun c hc => h c (by simp [hc])
    have h2 : pos (n - d * x.2) = 0 := by unfold pos; rw [if_neg (by have := h x (by simp); omega)]
    simp only [earnQ, ih, h2]
    simp
theorem sS_nn : ∀ {B : St}, (∀ b ∈ B, 1 ≤ b.1 ∧ 0 ≤ b.2) → 0 ≤ sS B
  | [], _ => by simp [sS]
  | b :: B, h => by
    have ih := sS_nn (B := B) fun c hc => h c (by simp [hc])
    have h1 := h b (by simp)
    have := Int.mul_nonneg (show 0 ≤ b.1 by omega) h1.2
    have e2 : sS (b :: B) = b.1 * b.2 + sS B := by simp [sS]
    omega
theorem rt_at {A B X : St} {e : Option Int} {F : Int} (va : Va A e) (hA : B ++ X = A) (hF : 0 ≤ F) (hL : 0 < sL B) (h1 : ∀ b ∈ B, sL B * b.2 ≤ sS B + F) (h2 : ∀ x ∈ X, sS B + F ≤ sL B * x.2) (h3 : ∀ i, e = some i → sS B + F ≤ sL B * i) : Rt A e F (sS B + F) (sL B) := by
  have pa : Po A := fun c hc => (va.pos c hc).1
  refine ⟨hL, ?_, fun B' X' hB' => ?_, h3, .inl ⟨B, X, hA, hL, Int.mul_comm _ _⟩⟩
  · have := sS_nn (B := B) fun b hb => va.pos b (by rw [← hA]; simp [hb])
    omega
  · have q := dual_weak (B := B') (X := X') (n := sS B + F) (d := sL B) (fun c hc => pa c (by rw [← hB']; simp [hc])) (fun c hc => pa c (by rw [← hB']; simp [hc]))
    rw [hB', ← hA, earnQ_app, earnQ_all h1, earnQ_none h2] at q
    rw [Int.mul_add]
    have e1 : (sS B + F) * sL B = sL B * sS B + sL B * F := by rw [Int.mul_comm, Int.mul_add]
    omega
def rateN (F : Int) : Int → Int → Int → St → Option Int → Int × Int
  | rate, far, last, [], none => (last * rate + F - far, rate)
  | rate, far, last, [], some i => if far + rate * (i - last) ≤ F then (i, 1) else (last * rate + F - far, rate)
  | rate, far, last, (a, t) :: X, e => if far + rate * (t - last) > F then (last * rate + F - far, rate) else rateN F (rate + a) (far + rate * (t - last)) t X e
theorem rateN_rt : ∀ (X B : St) (e : Option Int) (A : St) (F far last : Int), B ++ X = A → Va A e → (e = none → A ≠ []) → 0 ≤ F → far = last * sL B - sS B → far ≤ F → (∀ b ∈ B, b.2 ≤ last) → 0 ≤ last → Rt A e F (rateN F (sL B) far last X e).1 (rateN F (sL B) far last X e).2
  | [], B, e, A, F, far, last, hA, va, ne, hF, hf, hle, hb, hl => by
    have eB : B = A := by rw [List.append_nil] at hA; exact hA
    have pB : Po B := fun c hc => (va.pos c (by rw [← eB]; exact hc)).1
    have sp := sum_pos pB
    have main : ∀ (i : Option Int), (∀ j, e = some j → sS B + F ≤ sL B * j) → 0 < sL B → Rt A e F (last * sL B + F - far) (sL B) := fun _ h3 hL => by
      have e1 : last * sL B + F - far = sS B + F := by omega
      rw [e1]
      refine rt_at va hA hF hL (fun b hb' => ?_) (by simp) h3
      have := Int.mul_le_mul_of_nonneg_left (hb b hb') (Int.le_of_lt hL)
      rw [Int.mul_comm (sL B) last] at this
      omega
    cases e with
    | none =>
      simp only [rateN]
      exact main none (by simp) (sp.2 fun h => ne rfl (by rw [← eB, h]))
    | some i =>
      simp only [rateN]
      have hi := va.en i rfl
      have ex : far + sL B * (i - last) = sL B * i - sS B := by
        rw [Int.mul_sub, Int.mul_comm (sL B) last]
        omega
      rw [ex]
      by_cases hc : sL B * i - sS B ≤ F
      · rw [if_pos hc]
        refine ⟨by simp, by simp only; omega, fun B' X' hB' => ?_, fun j hj => by cases hj; simp, .inr ⟨by simp, by simp⟩⟩
        have q := dual_weak (B := B') (X := X') (n := i) (d := 1) (fun c hc => (va.pos c (by rw [← hB']; simp [hc])).1) (fun c hc => (va.pos c (by rw [← hB']; simp [hc])).1)
        rw [hB', ← eB, earnQ_all (fun b hb' => by have := hi.2 b (by rw [← eB]; exact hb'); omega)] at q
        have := Int.mul_comm (sL B) i
        simp only
        omega
      · rw [if_neg hc]
        have hL : 0 < sL B := by
          refine sp.2 fun h => hc ?_
          subst h
          simpa [sL, sS] using hF
        exact main (some i) (fun j hj => by cases hj; omega) hL
  | (a, t) :: X, B, e, A, F, far, last, hA, va, ne, hF, hf, hle, hb, hl => by
    have pB : ∀ b ∈ B, 1 ≤ b.1 ∧ 0 ≤ b.2 := fun c hc => va.pos c (by rw [← hA]; simp [hc])
    have sp := sum_pos (B := B) fun c hc => (pB c hc).1
    have asc := va.asc
    rw [← hA] at asc
    unfold AscS Asc at asc
    rw [List.map_append, List.pairwise_append] at asc
    have ht := va.pos (a, t) (by rw [← hA]; simp)
    simp only at ht
    have bt : ∀ b ∈ B, b.2 < t := fun b hb' => asc.2.2 b.2 (List.mem_map.mpr ⟨b, hb', rfl⟩) t (by simp)
    have tx : ∀ c ∈ X, t < c.2 := fun c hc' => (List.pairwise_cons.mp (by simpa using asc.2.1)).1 c.2 (List.mem_map.mpr ⟨c, hc', rfl⟩)
    have ex : far + sL B * (t - last) = sL B * t - sS B := by
      rw [Int.mul_sub, Int.mul_comm (sL B) last]
      omega
    simp only [rateN]
    rw [ex]
    by_cases hc : sL B * t - sS B > F
    · rw [if_pos hc]
      have hL : 0 < sL B := by
        refine sp.2 fun h => ?_
        subst h
        simp [sL, sS] at hc
        omega
      have e1 : last * sL B + F - far = sS B + F := by omega
      simp only [e1]
      refine rt_at va hA hF hL (fun b hb' => ?_) (fun x hx => ?_) (fun i hi => ?_)
      · have := Int.mul_le_mul_of_nonneg_left (hb b hb') (Int.le_of_lt hL)
        rw [Int.mul_comm (sL B) last] at this
        omega
      · have : t ≤ x.2 := by
          rcases List.mem_cons.mp hx with rfl | hx
          · exact Int.le_refl _
          · exact Int.le_of_lt (tx x hx)
        have := Int.mul_le_mul_of_nonneg_left this (Int.le_of_lt hL)
        omega
      · have h1 := (va.en i hi).2 (a, t) (by rw [← hA]; simp)
        simp only at h1
        have := Int.mul_le_mul_of_nonneg_left (Int.le_of_lt h1) (Int.le_of_lt hL)
        omega
    · rw [if_neg hc]
      have e1 : sL B + a = sL (B ++ [(a, t)]) := by simp [sL]
      have e2 : sS (B ++ [(a, t)]) = sS B + a * t := by simp [sS]
      rw [e1]
      refine rateN_rt X (B ++ [(a, t)]) e A F (sL B * t - sS B) t (by simpa using hA) va ne hF ?_ (by omega) (fun b hb' => ?_) ht.2
      · rw [← e1, e2, Int.mul_add, Int.mul_comm t (sL B), Int.mul_comm t a]
        omega
      · rcases List.mem_append.mp hb' with hb' | hb'
        · exact Int.le_of_lt (bt b hb')
        · rw [List.mem_singleton.mp hb']; exact Int.le_refl _
/-! ### lowest terms -/
def cutN (n d : Int) : Int × Int := (((n.toNat / n.toNat.gcd d.toNat : Nat) : Int), ((d.toNat / n.toNat.gcd d.toNat : Nat) : Int))
theorem cut_of {n d : Int} (hn : 0 ≤ n) (hd : 0 < d) : ∃ g : Int, 0 < g ∧ n = g * (cutN n d).1 ∧ d = g * (cutN n d).2 ∧ 0 < (cutN n d).2 ∧ 0 ≤ (cutN n d).1 ∧ g = (n.toNat.gcd d.toNat : Nat) := by
  obtain ⟨N, rfl⟩ := Int.eq_ofNat_of_zero_le hn
  obtain ⟨D, rfl⟩ := Int.eq_ofNat_of_zero_le (Int.le_of_lt hd)
  have hD : 0 < D := by omega
  have hg : 0 < N.gcd D := Nat.gcd_pos_of_pos_right N hD
  refine ⟨(N.gcd D : Nat), by omega, ?_, ?_, ?_, ?_, by simp⟩
  · simp only [cutN, Int.toNat_natCast]
    rw [← Int.natCast_mul, Nat.mul_div_cancel' (Nat.gcd_dvd_left N D)]
  · simp only [cutN, Int.toNat_natCast]
    rw [← Int.natCast_mul, Nat.mul_div_cancel' (Nat.gcd_dvd_right N D)]
  · simp only [cutN, Int.toNat_natCast]
    have := Nat.div_pos (Nat.le_of_dvd hD (Nat.gcd_dvd_right N D)) hg
    omega
  · exact Int.natCast_nonneg _
theorem cut_eq {n d n' d' : Int} (hn : 0 ≤ n) (hd : 0 < d) (hn' : 0 ≤ n') (hd' : 0 < d') (h : n * d' = n' * d) : cutN n d = cutN n' d' := by
  obtain ⟨N, rfl⟩ := Int.eq_ofNat_of_zero_le hn
  obtain ⟨D, rfl⟩ := Int.eq_ofNat_of_zero_le (Int.le_of_lt hd)
  obtain ⟨N', rfl⟩ := Int.eq_ofNat_of_zero_le hn'
  obtain ⟨D', rfl⟩ := Int.eq_ofNat_of_zero_le (Int.le_of_lt hd')
  have hD : 0 < D := by omega
  have hD' : 0 < D' := by omega
  have h : N * D' = N' * D := by
    rw [← Int.natCast_mul, ← Int.natCast_mul] at h
    omega
  simp only [cutN, Int.toNat_natCast]
  have hg : 0 < N.gcd D := Nat.gcd_pos_of_pos_right N hD
  have hg' : 0 < N'.gcd D' := Nat.gcd_pos_of_pos_right N' hD'
  have c1 := Nat.coprime_div_gcd_div_gcd hg
  have c2 := Nat.coprime_div_gcd_div_gcd hg'
  have e1 : N.gcd D * (N / N.gcd D) = N := Nat.mul_div_cancel' (Nat.gcd_dvd_left N D)
  have e2 : N.gcd D * (D / N.gcd D) = D := Nat.mul_div_cancel' (Nat.gcd_dvd_right N D)
  have e3 : N'.gcd D' * (N' / N'.gcd D') = N' := Nat.mul_div_cancel' (Nat.gcd_dvd_left N' D')
  have e4 : N'.gcd D' * (D' / N'.gcd D') = D' := Nat.mul_div_cancel' (Nat.gcd_dvd_right N' D')
  generalize N.gcd D = g at *
  generalize N'.gcd D' = g' at *
  generalize N / g = a at *
  generalize D / g = b at *
  generalize N' / g' = a' at *
  generalize D' / g' = b' at *
  have e5 : a * b' = a' * b := by
    have : (g * g') * (a * b') = (g * g') * (a' * b) := by
      have q1 : (g * g') * (a * b') = (g * a) * (g' * b') := by ac_rfl
      have q2 : (g * g') * (a' * b) = (g' * a') * (g * b) := by ac_rfl
      rw [q1, q2, e1, e2, e3, e4, h]
    exact Nat.eq_of_mul_eq_mul_left (Nat.mul_pos hg hg') this
  have d1 : b ∣ b' := by
    have : b ∣ a * b' := ⟨a', by rw [e5]; exact Nat.mul_comm _ _⟩
    exact (c1.symm).dvd_of_dvd_mul_left this
  have d2 : b' ∣ b := by
    have : b' ∣ a' * b := ⟨a, by rw [← e5]; exact Nat.mul_comm _ _⟩
    exact (c2.symm).dvd_of_dvd_mul_left this
  have eb : b = b' := Nat.dvd_antisymm d1 d2
  subst eb
  have hb : 0 < b := by
    cases b with
    | zero => simp at e2; omega
    | succ b => omega
  have ea : a = a' := Nat.eq_of_mul_eq_mul_right hb e5
  rw [ea]
theorem cut_self {n d : Int} (hn : 0 ≤ n) (hd : 0 < d) : cutN (cutN n d).1 (cutN n d).2 = cutN n d := by
  obtain ⟨g, g0, e1, e2, h2, h1, _⟩ := cut_of hn hd
  refine cut_eq h1 h2 hn hd ?_
  have : (cutN n d).1 * (g * (cutN n d).2) = (g * (cutN n d).1) * (cutN n d).2 := by rw [mul3, Int.mul_assoc]
  rw [← e1, ← e2] at this
  exact this
theorem cut_one {i : Int} (h : 0 ≤ i) : cutN i 1 = (i, 1) := by
  obtain ⟨N, rfl⟩ := Int.eq_ofNat_of_zero_le h
  simp [cutN]
theorem rt_cut {A : St} {e : Option Int} {F n d : Int} (h : Rt A e F n d) : Rt A e F (cutN n d).1 (cutN n d).2 := by
  obtain ⟨g, g0, e1, e2, h2, h1, _⟩ := cut_of h.n0 h.d0
  generalize (cutN n d).1 = a at *
  generalize (cutN n d).2 = b at *
  subst e1 e2
  refine ⟨h2, h1, fun B X hB => ?_, fun i hi => ?_, ?_⟩
  · have := h.le B X hB
    rw [Int.mul_assoc, Int.mul_assoc] at this
    exact Int.le_of_mul_le_mul_left this g0
  · have := h.en i hi
    rw [Int.mul_assoc] at this
    exact Int.le_of_mul_le_mul_left this g0
  · rcases h.at_ with ⟨B, X, q1, q2, q3⟩ | ⟨q1, q2⟩
    · refine .inl ⟨B, X, q1, q2, ?_⟩
      rw [Int.mul_assoc, Int.mul_assoc] at q3
      exact Int.eq_of_mul_eq_mul_left (by omega) q3
    · have e3 : g * a / (g * b) = a / b := Int.mul_ediv_mul_of_pos a b g0
      rw [e3] at q1 q2
      refine .inr ⟨q1, ?_⟩
      rw [Int.mul_assoc] at q2
      exact Int.eq_of_mul_eq_mul_left (by omega) q2
/-- the rate of a fee -/
def rateS (A : St) (e : Option Int) (F : Int) : Int × Int := cutN (rateN F 0 0 0 A e).1 (rateN F 0 0 0 A e).2
theorem rateS_rt {A : Sr} {F : Int} (g : Gs A) (h : 0 ≤ F) : Rt A.1 A.2 F (rateS A.1 A.2 F).1 (rateS A.1 A.2 F).2 := by
  have := rateN_rt A.1 [] A.2 A.1 F 0 0 rfl g.va g.ne h (by simp [sL, sS]) h (by simp) (Int.le_refl _)
  exact rt_cut this
theorem rateS_eq {A : Sr} {F n d : Int} (g : Gs A) (h : 0 ≤ F) (r : Rt A.1 A.2 F n d) : rateS A.1 A.2 F = cutN n d := by
  have q := rateS_rt g h
  have := rt_same q r
  rw [← cut_eq q.n0 q.d0 r.n0 r.d0 this]
  have := rateN_rt A.1 [] A.2 A.1 F 0 0 rfl g.va g.ne h (by simp [sL, sS]) h (by simp) (Int.le_refl _)
  exact (cut_self this.n0 this.d0).symm
end MG
end
section
/-! Sta7: a stair is told by its tolls, and by what is carried below each price; joins are sums of these. -/
namespace MG
open PySem EV
theorem tollB_zero {A : St} {e : Option Int} (pa : Po A) : tollB A e 0 = hd A e := by rw [tollB_rest, rest_zero pa]
theorem Va.po {A : St} {e : Option Int} (h : Va A e) : Po A := fun a ha => (h.pos a ha).1
theorem toll_ext : ∀ {A : St} {e : Option Int} {B : St} {f : Option Int}, Va A e → Va B f → (∀ k, 0 ≤ k → tollB A e k = tollB B f k) → A = B ∧ e = f
  | [], e, [], f, _, _, h => ⟨rfl, h 0 (by omega)⟩
  | [], e, (b, u) :: B, f, va, vb, h => by
    have hb := (vb.pos (b, u) (by simp)).1
    simp only at hb
    have h0 := h 0 (by omega)
    have h1 := h b (by omega)
    simp only [tollB] at h0 h1
    rw [if_pos (by omega)] at h0
    rw [if_neg (by omega), Int.sub_self, tollB_zero vb.tail.po, h0] at h1
    have := vb.hd_tail h1.symm
    omega
  | (a, t) :: A, e, [], f, va, vb, h => by
    have hb := (va.pos (a, t) (by simp)).1
    simp only at hb
    have h0 := h 0 (by omega)
    have h1 := h a (by omega)
    simp only [tollB] at h0 h1
    rw [if_pos (by omega)] at h0
    rw [if_neg (by omega), Int.sub_self, tollB_zero va.tail.po, ← h0] at h1
    have := va.hd_tail h1
    omega
  | (a, t) :: A, e, (b, u) :: B, f, va, vb, h => by
    have ha := (va.pos (a, t) (by simp)).1
    have hb := (vb.pos (b, u) (by simp)).1
    simp only at ha hb
    have h0 := h 0 (by omega)
    simp only [tollB] at h0
    rw [if_pos (by omega), if_pos (by omega)] at h0
    cases h0
    have eab : a = b := by
      rcases Int.lt_trichotomy a b with hlt | heq | hgt
      · have h1 := h a (by omega)
        simp only [tollB] at h1
        rw [if_neg (by omega), if_pos hlt, Int.sub_self, tollB_zero va.tail.po] at h1
        have := va.hd_tail h1
        omega
      · exact heq
      · have h1 := h b (by omega)
        simp only [tollB] at h1
        rw [if_neg (show ¬ b < b by omega), if_pos hgt, Int.sub_self, tollB_zero vb.tail.po] at h1
        have := vb.hd_tail h1.symm
        omega
    subst eab
    obtain ⟨e1, e2⟩ := toll_ext (A := A) (e := e) (B := B) (f := f) va.tail vb.tail fun k hk => by
      have h1 := h (a + k) (by omega)
      simp only [tollB] at h1
      rw [if_neg (by omega), if_neg (by omega)] at h1
      have e3 : a + k - a = k := by omega
      rwa [e3] at h1
    exact ⟨by rw [e1], e2⟩
theorem toll_end_some : ∀ {A : St} {i k : Int}, ∃ t, tollB A (some i) k = some t
  | [], i, k => ⟨i, rfl⟩
  | (a, t) :: A, i, k => by
    simp only [tollB]
    split
    · exact ⟨_, rfl⟩
    · exact toll_end_some
/-- how many come below a price, none without bound -/
def lev (A : Sr) (p : Int) : Option Int := match A.2 with
  | some i => if i < p then none else some (lowS A.1 p)
  | none => some (lowS A.1 p)
theorem lev_some {A : Sr} {p l : Int} (h : lev A p = some l) : l = lowS A.1 p ∧ ∀ i, A.2 = some i → p ≤ i := by
  unfold lev at h
  cases e : A.2 with
  | none =>
    simp only [e] at h
    cases h
    exact ⟨rfl, by simp⟩
  | some i =>
    simp only [e] at h
    split at h
    · cases h
    · cases h
      exact ⟨rfl, fun j hj => by cases hj; omega⟩
theorem lev_of {A : Sr} {p : Int} (h : ∀ i, A.2 = some i → p ≤ i) : lev A p = some (lowS A.1 p) := by
  unfold lev
  cases e : A.2 with
  | none => rfl
  | some i =>
    have := h i e
    simp only
    rw [if_neg (by omega)]
theorem lev_none {A : Sr} {p : Int} (h : lev A p = none) : ∃ i, A.2 = some i ∧ i < p := by
  unfold lev at h
  cases e : A.2 with
  | none => simp [e] at h
  | some i =>
    simp only [e] at h
    split at h
    · exact ⟨i, rfl, by assumption⟩
    · cases h
theorem toll_iff {A : Sr} {k t : Int} (va : Va A.1 A.2) (h0 : 0 ≤ k) : tollB A.1 A.2 k = some t ↔ (∃ l, lev A t = some l ∧ l ≤ k) ∧ (∀ l, lev A (t + 1) = some l → k < l) := by
  have fw : ∀ {t}, tollB A.1 A.2 k = some t → (∃ l, lev A t = some l ∧ l ≤ k) ∧ (∀ l, lev A (t + 1) = some l → k < l) := fun {t} h => by
    have te := toll_end va h
    obtain ⟨h1, h2⟩ := toll_low_high va h0 h
    refine ⟨⟨_, lev_of te, h1⟩, fun l hl => ?_⟩
    obtain ⟨rfl, h3⟩ := lev_some hl
    rcases h2 with h2 | h2
    · rw [high_low] at h2; exact h2
    · have := h3 t h2; omega
  refine ⟨fw, fun ⟨⟨l, h1, h2⟩, h3⟩ => ?_⟩
  obtain ⟨rfl, h4⟩ := lev_some h1
  have sub : ∀ u, tollB A.1 A.2 k = some u → u < t + 1 → u = t := fun u hu hlt => by
    rcases Int.lt_or_le u t with h | h
    · have h5 := (fw hu).2 (lowS A.1 (u + 1)) (lev_of fun i hi => by have := h4 i hi; omega)
      have := low_le (A := A.1) (p := u + 1) (q := t) va.po (by omega)
      omega
    · omega
  cases hl : lev A (t + 1) with
  | some l =>
    have h5 := h3 l hl
    obtain ⟨rfl, h6⟩ := lev_some hl
    obtain ⟨u, hu, hlt⟩ := toll_low (e := A.2) va h0 h5
    rw [hu, sub u hu hlt]
  | none =>
    obtain ⟨i, hi, hlt⟩ := lev_none hl
    obtain ⟨u, hu⟩ := toll_end_some (A := A.1) (i := i) (k := k)
    rw [← hi] at hu
    have := toll_end va hu i hi
    rw [hu, sub u hu (by omega)]
theorem lev_ext {A B : Sr} (va : Va A.1 A.2) (vb : Va B.1 B.2) (h : ∀ p, 0 ≤ p → lev A p = lev B p) : A = B := by
  have key : ∀ k, 0 ≤ k → tollB A.1 A.2 k = tollB B.1 B.2 k := fun k h0 => by
    refine Option.ext fun t => ⟨fun q => ?_, fun q => ?_⟩
    · have := toll_nn va q
      rw [toll_iff vb h0, ← h t this, ← h (t + 1) (by omega)]
      exact (toll_iff va h0).mp q
    · have := toll_nn vb q
      rw [toll_iff va h0, h t this, h (t + 1) (by omega)]
      exact (toll_iff vb h0).mp q
  obtain ⟨e1, e2⟩ := toll_ext va vb key
  exact Prod.ext e1 e2
theorem oAdd_comm (x y : Option Int) : oAdd x y = oAdd y x := by
  cases x <;> cases y <;> simp [oAdd, Int.add_comm]
theorem oAdd_assoc (x y z : Option Int) : oAdd (oAdd x y) z = oAdd x (oAdd y z) := by
  cases x <;> cases y <;> cases z <;> simp [oAdd, Int.add_assoc]
theorem lev_side (A B : Sr) (p : Int) : lev (sideS A B) p = oAdd (lev A p) (lev B p) := by
  have e : (sideS A B).2 = oMin A.2 B.2 := rfl
  cases ha : lev A p with
  | none =>
    obtain ⟨i, hi, hlt⟩ := lev_none ha
    have : ∃ j, oMin A.2 B.2 = some j ∧ j < p := by
      rw [hi]
      cases B.2 with
      | none => exact ⟨i, rfl, hlt⟩
      | some j => refine ⟨_, rfl, ?_⟩; split <;> omega
    obtain ⟨j, hj, hlt⟩ := this
    show lev (sideS A B) p = none
    unfold lev
    rw [e, hj]
    simp only
    rw [if_pos hlt]
  | some l =>
    cases hb : lev B p with
    | none =>
      obtain ⟨i, hi, hlt⟩ := lev_none hb
      have : ∃ j, oMin A.2 B.2 = some j ∧ j < p := by
        rw [hi]
        cases A.2 with
        | none => exact ⟨i, rfl, hlt⟩
        | some j => refine ⟨_, rfl, ?_⟩; split <;> omega
      obtain ⟨j, hj, hlt⟩ := this
      show lev (sideS A B) p = none
      unfold lev
      rw [e, hj]
      simp only
      rw [if_pos hlt]
    | some m =>
      obtain ⟨rfl, h1⟩ := lev_some ha
      obtain ⟨rfl, h2⟩ := lev_some hb
      have h3 : ∀ i, (sideS A B).2 = some i → p ≤ i := fun i hi => by
        rcases end_side hi with h | h
        · exact h1 i h
        · exact h2 i h
      rw [lev_of h3, low_side h3]
      rfl
theorem tollR (A B : Sr) (k : Int) : tollB (rowS A B).1 (rowS A B).2 k = oAdd (tollB A.1 A.2 k) (tollB B.1 B.2 k) := toll_row _ _ _ _ k
theorem toll_times {n : Int} : ∀ (A : St) (e : Option Int) (k : Int), tollB (A.map fun a => (a.1, n * a.2)) (e.map (n * ·)) k = (tollB A e k).map (n * ·)
  | [], e, k => rfl
  | (a, t) :: A, e, k => by
    simp only [List.map_cons, tollB]
    split
    · rfl
    · exact toll_times A e _
theorem tollT (n : Int) (A : Sr) (k : Int) : tollB (timesS n A).1 (timesS n A).2 k = (tollB A.1 A.2 k).map (n * ·) := toll_times _ _ _
theorem toll_copy {n : Int} (hn : 1 ≤ n) : ∀ (A : St) (e : Option Int) (k : Int), tollB (A.map fun a => (n * a.1, a.2)) e k = tollB A e (k / n)
  | [], e, k => rfl
  | (a, t) :: A, e, k => by
    simp only [List.map_cons, tollB]
    have e1 : (k < n * a) = (k / n < a) := propext ⟨fun h => Int.ediv_lt_of_lt_mul (by omega) (by rw [Int.mul_comm]; exact h), fun h => by
      have := Int.lt_mul_of_ediv_lt (by omega : 0 < n) h
      rwa [Int.mul_comm] at this⟩
    have e2 : (k - n * a) / n = k / n - a := by
      have : k - n * a = k + (-a) * n := by rw [Int.neg_mul, Int.mul_comm a n]; omega
      rw [this, Int.add_mul_ediv_right _ _ (by omega)]
      omega
    simp only [e1]
    split
    · rfl
    · rw [toll_copy hn A e, e2]
theorem tollC {n : Int} (hn : 1 ≤ n) (A : Sr) (k : Int) : tollB (copyS n A).1 (copyS n A).2 k = tollB A.1 A.2 (k / n) := toll_copy hn _ _ _
theorem low_copy {n : Int} : ∀ (A : St) (p : Int), lowS (A.map fun a => (n * a.1, a.2)) p = n * lowS A p
  | [], p => by simp [lowS]
  | a :: A, p => by
    rw [List.map_cons, low_cons, low_cons, low_copy A p, Int.mul_add]
    simp only
    split <;> simp
theorem levC (n : Int) (A : Sr) (p : Int) : lev (copyS n A) p = (lev A p).map (n * ·) := by
  unfold lev copyS
  cases A.2 with
  | none => simp [low_copy]
  | some i =>
    simp only
    split
    · rfl
    · simp [low_copy]
/-- up to the next whole one -/
def cdiv (p n : Int) : Int := -((-p) / n)
theorem lt_cdiv {n t p : Int} (hn : 1 ≤ n) : n * t < p ↔ t < cdiv p n := by
  unfold cdiv
  constructor
  · intro h
    have : (-p) / n < -t := Int.ediv_lt_of_lt_mul (by omega) (by rw [Int.neg_mul, Int.mul_comm]; omega)
    omega
  · intro h
    have := Int.lt_mul_of_ediv_lt (by omega : 0 < n) (show (-p) / n < -t by omega)
    rw [Int.neg_mul, Int.mul_comm] at this
    omega
theorem low_times {n : Int} (hn : 1 ≤ n) : ∀ (A : St) (p : Int), lowS (A.map fun a => (a.1, n * a.2)) p = lowS A (cdiv p n)
  | [], p => by simp [lowS]
  | a :: A, p => by
    rw [List.map_cons, low_cons, low_cons, low_times hn A p]
    simp only [lt_cdiv hn]
theorem levT {n : Int} (hn : 1 ≤ n) (A : Sr) (p : Int) : lev (timesS n A) p = lev A (cdiv p n) := by
  unfold lev timesS
  cases A.2 with
  | none => simp [low_times hn]
  | some i =>
    simp only [Option.map_some, lt_cdiv hn, low_times hn]
/-! ### what joins keep -/
theorem side_comm {A B : Sr} (ga : Gs A) (gb : Gs B) : sideS A B = sideS B A :=
  lev_ext (side_gs ga gb).va (side_gs gb ga).va fun p _ => by rw [lev_side, lev_side, oAdd_comm]
theorem side_assoc {A B C : Sr} (ga : Gs A) (gb : Gs B) (gc : Gs C) : sideS (sideS A B) C = sideS A (sideS B C) :=
  lev_ext (side_gs (side_gs ga gb) gc).va (side_gs ga (side_gs gb gc)).va fun p _ => by simp only [lev_side, oAdd_assoc]
theorem row_comm {A B : Sr} (ga : Gs A) (gb : Gs B) : rowS A B = rowS B A := by
  obtain ⟨h1, h2⟩ := toll_ext (row_gs ga gb).va (row_gs gb ga).va fun k _ => by rw [tollR, tollR, oAdd_comm]
  exact Prod.ext h1 h2
theorem gs_ext {A B : Sr} (ga : Gs A) (gb : Gs B) (h : ∀ k, 0 ≤ k → tollB A.1 A.2 k = tollB B.1 B.2 k) : A = B := by
  obtain ⟨h1, h2⟩ := toll_ext ga.va gb.va h
  exact Prod.ext h1 h2
theorem row_assoc {A B C : Sr} (ga : Gs A) (gb : Gs B) (gc : Gs C) : rowS (rowS A B) C = rowS A (rowS B C) :=
  gs_ext (row_gs (row_gs ga gb) gc) (row_gs ga (row_gs gb gc)) fun k _ => by simp only [tollR, oAdd_assoc]
theorem times_row {n : Int} (hn : 1 ≤ n) {A B : Sr} (ga : Gs A) (gb : Gs B) : timesS n (rowS A B) = rowS (timesS n A) (timesS n B) :=
  gs_ext (times_gs hn (row_gs ga gb)) (row_gs (times_gs hn ga) (times_gs hn gb)) fun k _ => by
    simp only [tollR, tollT]
    cases tollB A.1 A.2 k <;> cases tollB B.1 B.2 k <;> simp [oAdd, Int.mul_add]
theorem times_side {n : Int} (hn : 1 ≤ n) {A B : Sr} (ga : Gs A) (gb : Gs B) : timesS n (sideS A B) = sideS (timesS n A) (timesS n B) :=
  lev_ext (times_gs hn (side_gs ga gb)).va (side_gs (times_gs hn ga) (times_gs hn gb)).va fun p _ => by simp only [lev_side, levT hn]
theorem copy_row {n : Int} (hn : 1 ≤ n) {A B : Sr} (ga : Gs A) (gb : Gs B) : copyS n (rowS A B) = rowS (copyS n A) (copyS n B) :=
  gs_ext (copy_gs hn (row_gs ga gb)) (row_gs (copy_gs hn ga) (copy_gs hn gb)) fun k _ => by simp only [tollR, tollC hn]
theorem copy_side {n : Int} (hn : 1 ≤ n) {A B : Sr} (ga : Gs A) (gb : Gs B) : copyS n (sideS A B) = sideS (copyS n A) (copyS n B) :=
  lev_ext (copy_gs hn (side_gs ga gb)).va (side_gs (copy_gs hn ga) (copy_gs hn gb)).va fun p _ => by
    simp only [lev_side, levC]
    cases lev A p <;> cases lev B p <;> simp [oAdd, Int.mul_add]
theorem times_copy (n m : Int) (A : Sr) : timesS m (copyS n A) = copyS n (timesS m A) := by
  simp [timesS, copyS, Function.comp_def]
theorem times_times (n m : Int) (A : Sr) : timesS m (timesS n A) = timesS (n * m) A := by
  have e : ∀ t : Int, m * (n * t) = n * m * t := fun t => by rw [Int.mul_comm n m, Int.mul_assoc]
  simp [timesS, Function.comp_def, e]
theorem copy_copy (n m : Int) (A : Sr) : copyS m (copyS n A) = copyS (n * m) A := by
  have e : ∀ t : Int, m * (n * t) = n * m * t := fun t => by rw [Int.mul_comm n m, Int.mul_assoc]
  simp [copyS, Function.comp_def, e]
theorem times_one (A : Sr) : timesS 1 A = A := by
  have : (fun x : Int => x) = id := rfl
  simp [timesS, this]
theorem copy_one (A : Sr) : copyS 1 A = A := by simp [copyS]
theorem times_succ {n : Int} (hn : 1 ≤ n) {A : Sr} (ga : Gs A) : rowS (timesS n A) A = timesS (n + 1) A :=
  gs_ext (row_gs (times_gs hn ga) ga) (times_gs (by omega) ga) fun k _ => by
    simp only [tollR, tollT]
    cases tollB A.1 A.2 k <;> simp [oAdd, Int.add_mul]
theorem copy_succ {n : Int} (hn : 1 ≤ n) {A : Sr} (ga : Gs A) : sideS (copyS n A) A = copyS (n + 1) A :=
  lev_ext (side_gs (copy_gs hn ga) ga).va (copy_gs (by omega) ga).va fun p _ => by
    simp only [lev_side, levC]
    cases lev A p <;> simp [oAdd, Int.add_mul]
/-! ### many -/
def phi (r : Bool) (A : Sr) (k : Int) : Option Int := if r then tollB A.1 A.2 k else lev A k
theorem phi_join (r : Bool) (A B : Sr) (k : Int) : phi r (joinS r A B) k = oAdd (phi r A k) (phi r B k) := by
  cases r
  · exact lev_side A B k
  · exact tollR A B k
theorem phi_ext {r : Bool} {A B : Sr} (ga : Gs A) (gb : Gs B) (h : ∀ k, 0 ≤ k → phi r A k = phi r B k) : A = B := by
  cases r
  · exact lev_ext ga.va gb.va h
  · exact gs_ext ga gb h
def oSum : List (Option Int) → Option Int
  | [] => some 0
  | x :: xs => oAdd x (oSum xs)
theorem oAdd_zero (x : Option Int) : oAdd x (some 0) = x := by cases x <;> simp [oAdd]
theorem oAdd_zero' (x : Option Int) : oAdd (some 0) x = x := by cases x <;> simp [oAdd]
theorem oSum_app : ∀ (xs ys : List (Option Int)), oSum (xs ++ ys) = oAdd (oSum xs) (oSum ys)
  | [], ys => by simp [oSum, oAdd_zero']
  | x :: xs, ys => by simp only [List.cons_append, oSum, oSum_app xs ys, oAdd_assoc]
theorem oSum_perm {xs ys : List (Option Int)} (h : xs.Perm ys) : oSum xs = oSum ys := by
  induction h with
  | nil => rfl
  | cons x _ ih => simp only [oSum, ih]
  | swap x y l => simp only [oSum]; rw [← oAdd_assoc, ← oAdd_assoc, oAdd_comm y x]
  | trans _ _ ih1 ih2 => exact ih1.trans ih2
theorem foldl_phi (r : Bool) (k : Int) : ∀ (ss : List Sr) (s : Sr), phi r (ss.foldl (joinS r) s) k = oAdd (phi r s k) (oSum (ss.map fun q => phi r q k))
  | [], s => by simp [oSum, oAdd_zero]
  | q :: ss, s => by rw [List.foldl_cons, foldl_phi r k ss, phi_join]; simp only [List.map_cons, oSum, oAdd_assoc]
theorem fold_phi (r : Bool) (k : Int) {ss : List Sr} (h : ss ≠ []) : phi r (foldS r ss) k = oSum (ss.map fun q => phi r q k) := by
  cases ss with
  | nil => exact absurd rfl h
  | cons s ss => simp only [foldS, foldl_phi, List.map_cons, oSum]
theorem fold_gs {r : Bool} {ss : List Sr} (h : ss ≠ []) (g : ∀ q ∈ ss, Gs q) : Gs (foldS r ss) := by
  cases ss with
  | nil => exact absurd rfl h
  | cons s ss =>
    simp only [foldS]
    have : ∀ (ss : List Sr) (s : Sr), Gs s → (∀ q ∈ ss, Gs q) → Gs (ss.foldl (joinS r) s) := fun ss => by
      induction ss with
      | nil => intro s gs _; exact gs
      | cons q ss ih => intro s gs h; exact ih _ (join_gs gs (h q (by simp))) fun z hz => h z (by simp [hz])
    exact this ss s (g s (by simp)) fun q hq => g q (by simp [hq])
theorem fold_ext {r : Bool} {ss ts : List Sr} (hs : ss ≠ []) (ht : ts ≠ []) (gs : ∀ q ∈ ss, Gs q) (gt : ∀ q ∈ ts, Gs q) (h : ∀ k, 0 ≤ k → oSum (ss.map fun q => phi r q k) = oSum (ts.map fun q => phi r q k)) : foldS r ss = foldS r ts :=
  phi_ext (fold_gs hs gs) (fold_gs ht gt) fun k h0 => by rw [fold_phi r k hs, fold_phi r k ht, h k h0]
theorem fold_perm {r : Bool} {ss ts : List Sr} (h : ss.Perm ts) (gs : ∀ q ∈ ss, Gs q) : foldS r ss = foldS r ts := by
  by_cases hs : ss = []
  · subst hs
    rw [List.nil_perm.mp h]
  · refine fold_ext hs (fun z => hs (by subst z; exact List.perm_nil.mp h)) gs (fun q hq => gs q (h.mem_iff.mpr hq)) fun k _ => oSum_perm (h.map _)
theorem fold_group {r : Bool} {ss ts : List Sr} (hs : ss ≠ []) (gs : ∀ q ∈ ss, Gs q) (gt : ∀ q ∈ ts, Gs q) : foldS r (foldS r ss :: ts) = foldS r (ss ++ ts) := by
  refine fold_ext (by simp) (by simp [hs]) (fun q hq => ?_) (fun q hq => ?_) fun k _ => ?_
  · rcases List.mem_cons.mp hq with rfl | hq
    · exact fold_gs hs gs
    · exact gt q hq
  · rcases List.mem_append.mp hq with hq | hq
    · exact gs q hq
    · exact gt q hq
  · rw [List.map_cons, List.map_append, oSum_app, ← fold_phi r k hs]
    rfl
end MG
end
section
/-! Sta8: the tolls of the first pieces, one by one. -/
namespace MG
open PySem EV
def pcL : Nat → St → Option Int → List Int
  | _, [], none => []
  | n, [], some e => List.replicate n e
  | n, (a, t) :: A, e => List.replicate (min n a.toNat) t ++ pcL (n - a.toNat) A e
def pcS (n : Nat) (A : Sr) : List Int := pcL n A.1 A.2
def cnt (p : Int) (l : List Int) : Nat := l.countP fun x => decide (x < p)
def capN (n : Nat) : Option Int → Nat
  | none => n
  | some l => min n l.toNat
abbrev Up (l : List Int) : Prop := l.Pairwise (· ≤ ·)
theorem cnt_app (p : Int) (l m : List Int) : cnt p (l ++ m) = cnt p l + cnt p m := by simp [cnt]
theorem cnt_rep (p t : Int) (n : Nat) : cnt p (List.replicate n t) = if t < p then n else 0 := by
  simp only [cnt, List.countP_replicate]
  simp
theorem cnt_pc : ∀ (n : Nat) (A : St) (e : Option Int) (p : Int), Va A e → cnt p (pcL n A e) = capN n (lev (A, e) p)
  | n, [], none, p, _ => by simp [pcL, cnt, lev, lowS, capN]
  | n, [], some e, p, _ => by
    simp only [pcL, cnt_rep, lev]
    by_cases h : e < p <;> simp [h, capN, lowS]
  | n, (a, t) :: A, e, p, va => by
    have ih := cnt_pc (n - a.toNat) A e p va.tail
    have ha := (va.pos (a, t) (by simp)).1
    simp only at ha
    simp only [pcL, cnt_app, cnt_rep, ih]
    cases hl : lev ((a, t) :: A, e) p with
    | none =>
      obtain ⟨i, hi, hlt⟩ := lev_none hl
      simp only at hi
      subst hi
      have := (va.en i rfl).2 (a, t) (by simp)
      simp only at this
      have e2 : lev (A, some i) p = none := by simp [lev, hlt]
      rw [e2, if_pos (by omega)]
      simp only [capN]
      omega
    | some l =>
      obtain ⟨rfl, h1⟩ := lev_some hl
      have e2 : lev (A, e) p = some (lowS A p) := lev_of (A := (A, e)) h1
      rw [e2]
      have nn := low_nn (p := p) va.tail.po
      simp only [capN, low_cons]
      by_cases ht : t < p
      · rw [if_pos ht, if_pos ht]
        omega
      · rw [if_neg ht, if_neg ht]
        have : lowS A p = 0 := low_none fun c hc => by have := va.head c hc; omega
        rw [this]
        simp
theorem pc_mem : ∀ {n : Nat} {A : St} {e : Option Int} {x : Int}, Va A e → x ∈ pcL n A e → ∃ h, hd A e = some h ∧ h ≤ x
  | n, [], none, x, _, h => by simp [pcL] at h
  | n, [], some e, x, _, h => by
    simp only [pcL, List.mem_replicate] at h
    exact ⟨e, rfl, by omega⟩
  | n, (a, t) :: A, e, x, va, h => by
    simp only [pcL, List.mem_append, List.mem_replicate] at h
    refine ⟨t, rfl, ?_⟩
    rcases h with h | h
    · omega
    · obtain ⟨u, hu, h2⟩ := pc_mem va.tail h
      have := va.hd_tail hu
      omega
theorem up_rep (n : Nat) (t : Int) : Up (List.replicate n t) := by
  refine List.pairwise_replicate.mpr (.inr (Int.le_refl _))
theorem pc_up : ∀ {n : Nat} {A : St} {e : Option Int}, Va A e → Up (pcL n A e)
  | n, [], none, _ => by simp [pcL]
  | n, [], some e, _ => up_rep _ _
  | n, (a, t) :: A, e, va => by
    simp only [pcL]
    refine List.pairwise_append.mpr ⟨up_rep _ _, pc_up va.tail, fun x hx y hy => ?_⟩
    have := (List.mem_replicate.mp hx).2
    obtain ⟨u, hu, h2⟩ := pc_mem va.tail hy
    have := va.hd_tail hu
    omega
theorem pc_len : ∀ {n : Nat} {A : St} {e : Option Int}, (pcL n A e).length ≤ n
  | n, [], none => by simp [pcL]
  | n, [], some e => by simp [pcL]
  | n, (a, t) :: A, e => by
    have := pc_len (n := n - a.toNat) (A := A) (e := e)
    simp only [pcL, List.length_append, List.length_replicate]
    omega
theorem cnt_none {p : Int} {l : List Int} (h : ∀ x ∈ l, p ≤ x) : cnt p l = 0 := by
  simp only [cnt, List.countP_eq_zero]
  intro x hx
  have := h x hx
  simp
  omega
theorem up_ext : ∀ {l m : List Int}, Up l → Up m → (∀ p, cnt p l = cnt p m) → l = m
  | [], [], _, _, _ => rfl
  | [], y :: m, _, _, h => by
    have := h (y + 1)
    simp [cnt, show y < y + 1 by omega] at this
  | x :: l, [], _, _, h => by
    have := h (x + 1)
    simp [cnt, show x < x + 1 by omega] at this
  | x :: l, y :: m, hl, hm, h => by
    obtain ⟨h1, h2⟩ := List.pairwise_cons.mp hl
    obtain ⟨h3, h4⟩ := List.pairwise_cons.mp hm
    have exy : x = y := by
      rcases Int.lt_trichotomy x y with q | q | q
      · have e := h (x + 1)
        rw [cnt_none (l := y :: m) fun z hz => by
          rcases List.mem_cons.mp hz with rfl | hz
          · omega
          · have := h3 z hz; omega] at e
        simp [cnt, show x < x + 1 by omega] at e
      · exact q
      · have e := h (y + 1)
        rw [cnt_none (l := x :: l) fun z hz => by
          rcases List.mem_cons.mp hz with rfl | hz
          · omega
          · have := h1 z hz; omega] at e
        simp [cnt, show y < y + 1 by omega] at e
    subst exy
    rw [up_ext h2 h4 fun p => by
      have e := h p
      simp only [cnt, List.countP_cons] at e ⊢
      omega]
theorem cnt_take : ∀ {l : List Int} {p : Int} {n : Nat}, Up l → cnt p (l.take n) = min n (cnt p l)
  | [], p, n, _ => by simp [cnt]
  | x :: l, p, 0, _ => by simp [cnt]
  | x :: l, p, n + 1, h => by
    obtain ⟨h1, h2⟩ := List.pairwise_cons.mp h
    have ih := cnt_take (p := p) (n := n) h2
    rw [List.take_succ_cons]
    by_cases hx : x < p
    · simp only [cnt, List.countP_cons, hx, decide_true, if_true] at ih ⊢
      omega
    · have e1 : cnt p (x :: l) = 0 := cnt_none fun z hz => by
        rcases List.mem_cons.mp hz with rfl | hz
        · omega
        · have := h1 z hz; omega
      have e2 : cnt p (x :: l.take n) = 0 := cnt_none fun z hz => by
        rcases List.mem_cons.mp hz with rfl | hz
        · omega
        · have := h1 z (List.mem_of_mem_take hz); omega
      rw [e1, e2]
      simp
theorem up_insI {x : Int} : ∀ {l : List Int}, Up l → Up (insI x l)
  | [], _ => by simp [insI]
  | y :: l, h => by
    obtain ⟨h1, h2⟩ := List.pairwise_cons.mp h
    simp only [insI]
    split
    · refine List.pairwise_cons.mpr ⟨fun z hz => ?_, h⟩
      rcases List.mem_cons.mp hz with rfl | hz
      · assumption
      · have := h1 z hz; omega
    · refine List.pairwise_cons.mpr ⟨fun z hz => ?_, up_insI h2⟩
      rcases mem_insI.mp hz with rfl | hz
      · omega
      · exact h1 z hz
theorem up_isort : ∀ {l : List Int}, Up (isort l)
  | [] => by simp [isort]
  | x :: l => up_insI up_isort
theorem cnt_perm {p : Int} {l m : List Int} (h : l.Perm m) : cnt p l = cnt p m := h.countP_eq _
theorem cnt_isort {p : Int} {l : List Int} : cnt p (isort l) = cnt p l := cnt_perm (isort_perm l)
theorem lev_nn {A : Sr} {p l : Int} (va : Va A.1 A.2) (h : lev A p = some l) : 0 ≤ l := by
  obtain ⟨rfl, _⟩ := lev_some h
  exact low_nn va.po
theorem cap_le {n : Nat} {x : Option Int} : capN n x ≤ n := by
  cases x <;> simp [capN]
  omega
theorem up_take {l : List Int} {n : Nat} (h : Up l) : Up (l.take n) := h.sublist (List.take_sublist n l)
theorem pc_self {n : Nat} {A : Sr} (va : Va A.1 A.2) : (isort (pcS n A)).take n = pcS n A := by
  refine up_ext (up_take up_isort) (pc_up va) fun p => ?_
  rw [cnt_take up_isort, cnt_isort]
  show min n (cnt p (pcL n A.1 A.2)) = cnt p (pcL n A.1 A.2)
  rw [cnt_pc n A.1 A.2 p va]
  have := cap_le (n := n) (x := lev (A.1, A.2) p)
  omega
theorem pc_side {n : Nat} {A B : Sr} (ga : Gs A) (gb : Gs B) : (isort (pcS n A ++ pcS n B)).take n = pcS n (sideS A B) := by
  refine up_ext (up_take up_isort) (pc_up (side_gs ga gb).va) fun p => ?_
  rw [cnt_take up_isort, cnt_isort, cnt_app]
  show min n (cnt p (pcL n A.1 A.2) + cnt p (pcL n B.1 B.2)) = cnt p (pcL n (sideS A B).1 (sideS A B).2)
  rw [cnt_pc n A.1 A.2 p ga.va, cnt_pc n B.1 B.2 p gb.va, cnt_pc _ _ _ p (side_gs ga gb).va]
  show min n (capN n (lev A p) + capN n (lev B p)) = capN n (lev (sideS A B) p)
  rw [lev_side]
  cases h1 : lev A p with
  | none => simp [capN, oAdd]
  | some x =>
    have := lev_nn ga.va h1
    cases h2 : lev B p with
    | none => simp [capN, oAdd]
    | some y =>
      have := lev_nn gb.va h2
      simp only [capN, oAdd]
      omega
theorem cnt_flat {p : Int} {l : List Int} : ∀ k : Nat, cnt p (List.replicate k l).flatten = k * cnt p l
  | 0 => by simp [cnt]
  | k + 1 => by
    rw [List.replicate_succ, List.flatten_cons, cnt_app, cnt_flat k, Nat.add_mul, Nat.one_mul, Nat.add_comm]
theorem pc_copy {n : Nat} {A : Sr} {m : Int} (ga : Gs A) (hm : 1 ≤ m) : (isort (List.replicate (min m.toNat n) (pcS n A)).flatten).take n = pcS n (copyS m A) := by
  refine up_ext (up_take up_isort) (pc_up (copy_gs hm ga).va) fun p => ?_
  rw [cnt_take up_isort, cnt_isort, cnt_flat]
  show min n (min m.toNat n * cnt p (pcL n A.1 A.2)) = cnt p (pcL n (copyS m A).1 (copyS m A).2)
  rw [cnt_pc n A.1 A.2 p ga.va, cnt_pc _ _ _ p (copy_gs hm ga).va]
  show min n (min m.toNat n * capN n (lev A p)) = capN n (lev (copyS m A) p)
  rw [levC]
  by_cases hn : n = 0
  · subst hn
    have := cap_le (n := 0) (x := (lev A p).map (m * ·))
    omega
  have pk : 1 ≤ min m.toNat n := by omega
  cases h1 : lev A p with
  | none =>
    simp only [capN, Option.map_none]
    have := Nat.mul_le_mul_right n pk
    omega
  | some x =>
    have x0 := lev_nn ga.va h1
    simp only [capN, Option.map_some]
    obtain ⟨x, rfl⟩ := Int.eq_ofNat_of_zero_le x0
    obtain ⟨m, rfl⟩ := Int.eq_ofNat_of_zero_le (show 0 ≤ m by omega)
    have e1 : ((m : Int) * (x : Int)).toNat = m * x := by rw [← Int.natCast_mul]; exact Int.toNat_natCast _
    rw [e1]
    simp only [Int.toNat_natCast] at *
    by_cases hx : x = 0
    · subst hx; simp
    · by_cases h2 : m ≤ n
      · rw [Nat.min_eq_left h2]
        by_cases h3 : x ≤ n
        · rw [Nat.min_eq_right h3]
        · rw [Nat.min_eq_left (by omega : n ≤ x)]
          have a1 := Nat.mul_le_mul_right n (show 1 ≤ m by omega)
          have a2 := Nat.mul_le_mul_left m (show n ≤ x by omega)
          omega
      · rw [Nat.min_eq_right (by omega : n ≤ m)]
        have a1 := Nat.mul_le_mul_left n (show 1 ≤ min n x by omega)
        have a2 := Nat.mul_le_mul (show n ≤ m by omega) (show 1 ≤ x by omega)
        omega
theorem pc_get : ∀ {n : Nat} {A : St} {e : Option Int} {k : Nat}, Po A → (pcL n A e)[k]? = if k < n then tollB A e k else none
  | n, [], none, k, _ => by simp [pcL, tollB]
  | n, [], some e, k, _ => by simp [pcL, tollB, List.getElem?_replicate]
  | n, (a, t) :: A, e, k, pa => by
    have ha := pa (a, t) (by simp)
    simp only at ha
    simp only [pcL, List.getElem?_append, List.length_replicate, List.getElem?_replicate, tollB]
    rw [pc_get (fun c hc => pa c (by simp [hc]))]
    by_cases hk : k < n
    · by_cases h2 : (k : Int) < a
      · rw [if_pos (by omega), if_pos (by omega), if_pos hk, if_pos h2]
      · rw [if_neg (by omega), if_pos (by omega), if_pos hk, if_neg h2]
        congr 1
        omega
    · rw [if_neg (by omega), if_neg (by omega), if_neg hk]
theorem pcS_get {n : Nat} {A : Sr} {k : Nat} (g : Gs A) : (pcS n A)[k]? = if k < n then tollB A.1 A.2 k else none := pc_get g.va.po
theorem pc_row {n : Nat} {A B : Sr} (ga : Gs A) (gb : Gs B) : pcS n (rowS A B) = List.zipWith (· + ·) (pcS n A) (pcS n B) := by
  refine List.ext_getElem? fun k => ?_
  rw [pcS_get (row_gs ga gb), List.getElem?_zipWith, pcS_get ga, pcS_get gb, tollR]
  by_cases h : k < n
  · simp only [h, if_true]
    cases tollB A.1 A.2 k <;> cases tollB B.1 B.2 k <;> rfl
  · simp [h]
theorem pc_times {n : Nat} {A : Sr} {m : Int} (ga : Gs A) (hm : 1 ≤ m) : pcS n (timesS m A) = (pcS n A).map (m * ·) := by
  refine List.ext_getElem? fun k => ?_
  rw [pcS_get (times_gs hm ga), List.getElem?_map, pcS_get ga, tollT]
  by_cases h : k < n <;> simp [h]
theorem toll_side_le {A B : Sr} (ga : Gs A) (gb : Gs B) {k t u : Int} (h0 : 0 ≤ k) (hu : tollB A.1 A.2 k = some u) (ht : tollB (sideS A B).1 (sideS A B).2 k = some t) : t ≤ u := by
  rcases Int.lt_or_le u t with h | h
  · obtain ⟨⟨l, h1, h2⟩, _⟩ := (toll_iff (side_gs ga gb).va h0).mp ht
    obtain ⟨_, h3⟩ := (toll_iff ga.va h0).mp hu
    rw [lev_side] at h1
    cases ha : lev A t with
    | none => rw [ha] at h1; cases h1
    | some x =>
      cases hb : lev B t with
      | none => rw [ha, hb] at h1; cases h1
      | some y =>
        rw [ha, hb] at h1
        cases h1
        have := lev_nn gb.va hb
        obtain ⟨rfl, h4⟩ := lev_some ha
        have h5 := h3 _ (lev_of fun i hi => by have := h4 i hi; omega)
        have := low_le (A := A.1) (p := u + 1) (q := t) ga.va.po (by omega)
        omega
  · exact h
end MG
end
section
namespace K07
open PySem EV MG
abbrev T : Nat → Option Fn := Tb fns
def isInt : P → Bool
  | .int _ => true
  | _ => false
def intOf : P → Int
  | .int i => i
  | _ => 0
def isFn : P → Bool
  | .fn _ => true
  | _ => false
def tupOf : P → List P
  | .tup xs => xs
  | _ => []
def isTup : P → Bool
  | .tup _ => true
  | _ => false
theorem is_int_ok {n : Nat} {x : P} {s : Sto} (h : isFn x = false) : callF T (n + 1) ix_is_int [.p x] s = .ok (.p (.bl (isInt x))) s := by
  refine Ok.eq (ok_call (fn := c_is_int) rfl rfl fun c hc => ?_)
  cases x <;> simp [c_is_int, EV.start, hc, rd, isiP, notP, isInt, isFn] at h ⊢
/-- no def in it, no wider than a list may be -/
inductive Wf : P → Prop
  | non : Wf .non
  | bl (b : Bool) : Wf (.bl b)
  | int (i : Int) : Wf (.int i)
  | str (x : Str) : Wf (.str x)
  | tup (xs : List P) : xs.length ≤ 1000 → (∀ x ∈ xs, Wf x) → Wf (.tup xs)
  | lst (xs : List P) : xs.length ≤ 1000 → (∀ x ∈ xs, Wf x) → Wf (.lst xs)
  | ed : Wf .ed
theorem Wf.fn {x : P} (h : Wf x) : isFn x = false := by cases h <;> rfl
theorem Wf.len {xs : List P} (h : Wf (.tup xs)) : xs.length ≤ L := by
  cases h with
  | tup _ h _ => unfold L; omega
theorem Wf.mem {xs : List P} (h : Wf (.tup xs)) {x : P} (hx : x ∈ xs) : Wf x := by
  cases h with
  | tup _ _ h => exact h x hx
def isInts (x : P) : Bool := isTup x && (tupOf x).all isInt
theorem is_ints_ok {n : Nat} {x : P} {s : Sto} (h : Wf x) : callF T (n + 2) ix_is_ints [.p x] s = .ok (.p (.bl (isInts x))) s := by
  refine Ok.eq (ok_call (fn := c_is_ints) rfl rfl fun c hc => ?_)
  cases x <;> simp [c_is_ints, EV.start, hc, rd, isiP, isInts, isTup]
  · rename_i xs
    refine ok_lcM (fun y => .bl (isInt y)) rfl h.len (fun y hy => ?_) ?_
    · simp [is_int_ok (h.mem hy).fn, hc]
    · simp [tupOf]
  · cases h
def isPair : P → Bool
  | .tup [.int _, .int _] => true
  | _ => false
theorem isPair_eq (x : P) : isPair x = (isInts x && ((tupOf x).length == 2)) := by
  unfold isPair isInts
  split
  · rfl
  · rename_i h
    cases x with
    | tup xs =>
      match xs, h with
      | [], _ => rfl
      | [a], _ => simp [tupOf, isTup]
      | [a, b], h =>
        cases a <;> cases b <;> simp [tupOf, isTup, isInt] at h ⊢
      | a :: b :: c :: r, _ => simp [tupOf, isTup]
    | _ => rfl
theorem is_pair_ok {n : Nat} {x : P} {s : Sto} (h : Wf x) : callF T (n + 3) ix_is_pair [.p x] s = .ok (.p (.bl (isPair x))) s := by
  refine Ok.eq (ok_call (fn := c_is_pair) rfl rfl fun c hc => ?_)
  rw [isPair_eq]
  cases hi : isInts x with
  | false => simp [c_is_pair, EV.start, hc, is_ints_ok h, hi]
  | true =>
    cases x <;> simp [isInts, isTup, tupOf] at hi
    simp [c_is_pair, EV.start, hc, is_ints_ok h, isInts, isTup, hi, tupOf]
    grind
/-- a step, as Python has it -/
def stp : P → Option (Int × Int)
  | .tup [.int a, .int b] => if 1 ≤ a ∧ 0 ≤ b then some (a, b) else none
  | _ => none
theorem is_step_ok {n : Nat} {x : P} {s : Sto} (h : Wf x) : callF T (n + 4) ix_is_step [.p x] s = .ok (.p (.bl (stp x).isSome)) s := by
  refine Ok.eq (ok_call (fn := c_is_step) rfl rfl fun c hc => ?_)
  cases hp : isPair x with
  | false =>
    have : stp x = none := by
      unfold stp
      split
      · simp [isPair] at hp
      · rfl
    simp [c_is_step, EV.start, hc, is_pair_ok h, hp, this]
  | true =>
    unfold isPair at hp
    split at hp
    · rename_i a b
      simp [c_is_step, EV.start, hc, is_pair_ok h, isPair, stp]
      by_cases h1 : 1 ≤ a <;> by_cases h2 : 0 ≤ b <;> simp [h1, h2] <;> omega
    · cases hp
def isEnd : P → Bool
  | .non => true
  | .int i => decide (1 ≤ i)
  | _ => false
theorem is_end_ok {n : Nat} {x : P} {s : Sto} (h : isFn x = false) : callF T (n + 2) ix_is_end [.p x] s = .ok (.p (.bl (isEnd x))) s := by
  refine Ok.eq (ok_call (fn := c_is_end) rfl rfl fun c hc => ?_)
  cases x <;> simp [c_is_end, EV.start, hc, is_int_ok h, isInt, isEnd, P.isNon]
/-- what is_stair asks -/
def stps : List P → Option (List (Int × Int))
  | [] => some []
  | x :: xs => match stp x, stps xs with
    | some a, some as => some (a :: as)
    | _, _ => none
def ascB : List (Int × Int) → Bool
  | a :: b :: r => decide (a.2 < b.2) && ascB (b :: r)
  | _ => true
/-- a stair, as Python has it: the steps, the end -/
def stair : P → Option (List (Int × Int) × Option Int)
  | .tup [.tup xs, e] => match stps xs with
    | some ss => if ascB ss then (match e with
      | .non => if ss = [] then none else some (ss, none)
      | .int i => if 1 ≤ i ∧ (∀ a, ss.getLast? = some a → a.2 < i) then some (ss, some i) else none
      | _ => none) else none
    | none => none
  | _ => none
def encS (a : Int × Int) : P := .tup [.int a.1, .int a.2]
theorem stp_enc {x : P} {a : Int × Int} (h : stp x = some a) : x = encS a ∧ 1 ≤ a.1 ∧ 0 ≤ a.2 := by
  unfold stp at h
  split at h
  · split at h
    · cases h
      rename_i h
      exact ⟨rfl, h⟩
    · cases h
  · cases h
theorem stps_enc : ∀ {xs : List P} {as : List (Int × Int)}, stps xs = some as → xs = as.map encS ∧ ∀ a ∈ as, 1 ≤ a.1 ∧ 0 ≤ a.2
  | [], as, h => by cases h; exact ⟨rfl, fun a ha => by cases ha⟩
  | x :: xs, as, h => by
    unfold stps at h
    split at h
    · rename_i a as' h1 h2
      cases h
      obtain ⟨e1, e2⟩ := stp_enc h1
      obtain ⟨e3, e4⟩ := stps_enc h2
      exact ⟨by rw [e1, e3] <;> rfl, fun b hb => by
        rcases List.mem_cons.mp hb with z | z
        · rw [z]; exact e2
        · exact e4 b z⟩
    · cases h
theorem stps_all : ∀ {xs : List P}, (xs.all fun y => (stp y).isSome) = (stps xs).isSome
  | [] => rfl
  | x :: xs => by
    rw [List.all_cons, stps_all (xs := xs)]
    simp only [stps]
    cases stp x <;> cases stps xs <;> rfl
def isSteps (x : P) : Bool := isTup x && (stps (tupOf x)).isSome
theorem is_steps_ok {n : Nat} {x : P} {s : Sto} (h : Wf x) : callF T (n + 5) ix_is_steps [.p x] s = .ok (.p (.bl (isSteps x))) s := by
  refine Ok.eq (ok_call (fn := c_is_steps) rfl rfl fun c hc => ?_)
  cases x <;> simp [c_is_steps, EV.start, hc, rd, isiP, isTup, isSteps]
  · rename_i xs
    refine ok_lcM (fun y => .bl (stp y).isSome) rfl h.len (fun y hy => ?_) ?_
    · simp [is_step_ok (h.mem hy), hc]
    · simp [all_map, stps_all, tupOf]
  · cases h
def pairLt0 : P → Bool
  | .tup [.tup [_, .int a], .tup [_, .int b]] => decide (a < b)
  | _ => false
def pairLt (x : P) : P := .bl (pairLt0 x)
theorem zip_asc : ∀ as : List (Int × Int), (zipT (as.map encS) ((as.map encS).drop 1)).all pairLt0 = ascB as
  | [] => rfl
  | [a] => rfl
  | a :: b :: r => by
    have ih := zip_asc (b :: r)
    simp only [List.map_cons, List.drop_succ_cons, List.drop_zero, zipT, List.all_cons] at ih ⊢
    rw [ih]
    rfl
theorem zipT_mem : ∀ {as bs : List P} {z : P}, z ∈ zipT as bs → ∃ x y, z = .tup [x, y] ∧ x ∈ as ∧ y ∈ bs
  | [], bs, z, h => by simp [zipT] at h
  | a :: as, [], z, h => by simp [zipT] at h
  | a :: as, b :: bs, z, h => by
    simp only [zipT, List.mem_cons] at h
    rcases h with rfl | h
    · exact ⟨a, b, rfl, by simp, by simp⟩
    · obtain ⟨x, y, e, h1, h2⟩ := zipT_mem h
      exact ⟨x, y, e, by simp [h1], by simp [h2]⟩
theorem zipT_len : ∀ {as bs : List P}, (zipT as bs).length ≤ as.length
  | [], bs => by simp [zipT]
  | a :: as, [] => by simp [zipT]
  | a :: as, b :: bs => by
    have := zipT_len (as := as) (bs := bs)
    simp only [zipT, List.length_cons]
    omega
theorem is_stair_ok {n : Nat} {x : P} {s : Sto} (h : Wf x) : callF T (n + 6) ix_is_stair [.p x] s = .ok (.p (.bl (stair x).isSome)) s := by
  refine Ok.eq (ok_call (fn := c_is_stair) rfl rfl fun c hc => ?_)
  cases x with
  | tup xs =>
    match xs, h with
    | [], h => simp [c_is_stair, EV.start, hc, isiP, stair]
    | [a], h => simp [c_is_stair, EV.start, hc, isiP, stair]
    | a :: b :: d :: r, h =>
      have : ¬ ((r.length : Int) + 1 + 1 + 1 = 2) := by omega
      simp [c_is_stair, EV.start, hc, isiP, stair, this]
    | [a, e], h =>
      have wa := h.mem (x := a) (by simp)
      have we := h.mem (x := e) (by simp)
      cases a with
      | tup ys =>
        cases hst : stps ys with
        | none => simp [c_is_stair, EV.start, hc, isiP, is_steps_ok wa, isSteps, isTup, tupOf, hst, stair]
        | some as =>
          obtain ⟨rfl, hpos⟩ := stps_enc hst
          cases he : isEnd e with
          | false =>
            have : stair (.tup [.tup (as.map encS), e]) = none := by
              simp only [stair, hst]
              cases e <;> simp [isEnd] at he ⊢
              intro _ h1
              omega
            simp [c_is_stair, EV.start, hc, isiP, is_steps_ok wa, isSteps, isTup, tupOf, hst, is_end_ok we.fn, he, this]
          | true =>
            simp only [c_is_stair]
            simp [EV.start, hc, isiP, is_steps_ok wa, isSteps, isTup, tupOf, hst, is_end_ok we.fn, he, -List.map_drop]
            refine ok_lcM pairLt rfl (Nat.le_trans zipT_len wa.len) (fun z hz => ?_) ?_
            · obtain ⟨x, y, rfl, hx, hy⟩ := zipT_mem hz
              obtain ⟨p, _, rfl⟩ := List.mem_map.mp hx
              obtain ⟨q, _, rfl⟩ := List.mem_map.mp (List.mem_of_mem_tail hy)
              simp [encS, pairLt, pairLt0]
            · have hz : b1P .all (.lst ((zipT (as.map encS) (as.map encS).tail).map pairLt)) = some (.bl (ascB as)) := by
                have := zip_asc as
                rw [List.drop_one] at this
                rw [← this]
                exact all_map
              simp [hz, stair, hst]
              cases hA : ascB as with
              | false => simp
              | true =>
                cases hl : as.getLast? with
                | none =>
                  have : as = [] := List.getLast?_eq_none_iff.mp hl
                  subst this
                  cases e <;> simp [isEnd] at he ⊢
                  exact he
                | some q =>
                  have hn : as ≠ [] := fun z => by simp [z] at hl
                  cases e <;> simp [isEnd, hn, encS] at he ⊢
                  rename_i i
                  by_cases hq : q.2 < i <;> simp [hq, he, hst, hA, hl]
      | _ => simp [c_is_stair, EV.start, hc, isiP, is_steps_ok wa, isSteps, isTup, stair]
  | _ => simp [c_is_stair, EV.start, hc, isiP, stair] <;> cases h
def encE : Option Int → P
  | none => .non
  | some i => .int i
@[simp] theorem encE_none : encE none = .non := rfl
@[simp] theorem encE_some {i : Int} : encE (some i) = .int i := rfl
theorem eqx {α : Type} {r : Res α} {k : Nat} {s : Sto} (h : Ok r (fun _ _ => False) (fun k' s' => k' = k ∧ s' = s)) : r = .exn k none s := by
  cases r with
  | ok a s' => exact h.elim
  | exn k' a s' =>
    obtain ⟨h1, h2, h3⟩ := h
    rw [h1, h2, h3]
  | stk => exact h.elim
def encT (st : MG.St × Option Int) : P := .tup [.tup (st.1.map encS), encE st.2]
theorem stair_enc {x : P} {st : MG.St × Option Int} (h : stair x = some st) : x = encT st := by
  unfold stair at h
  split at h
  · rename_i xs e
    cases hs : stps xs with
    | none => rw [hs] at h; cases h
    | some ss =>
      rw [hs] at h
      obtain ⟨rfl, _⟩ := stps_enc hs
      simp only at h
      split at h
      · cases e with
        | non =>
          simp only at h
          split at h <;> cases h
          rfl
        | int i =>
          simp only at h
          split at h <;> cases h
          rfl
        | _ => cases h
      · cases h
  · cases h
theorem wf_enc {as : MG.St} (h : as.length ≤ 1000) : Wf (.tup (as.map encS)) := .tup _ (by simpa using h) fun x hx => by
  obtain ⟨a, _, rfl⟩ := List.mem_map.mp hx
  exact .tup _ (by simp) fun y hy => by
    simp at hy
    rcases hy with rfl | rfl <;> exact .int _
theorem stps_of : ∀ {as : MG.St}, (∀ a ∈ as, 1 ≤ a.1 ∧ 0 ≤ a.2) → stps (as.map encS) = some as
  | [], _ => rfl
  | a :: as, h => by
    have h1 := h a (by simp)
    have : stp (encS a) = some a := by simp [stp, encS, h1]
    simp only [List.map_cons, stps, this, stps_of (as := as) fun b hb => h b (by simp [hb])]
theorem end_of {e : Option Int} (h : ∀ i, e = some i → 1 ≤ i) : isEnd (encE e) = true := by
  cases e with
  | none => rfl
  | some i => simpa [encE, isEnd] using h i rfl
theorem encE_fn {e : Option Int} : isFn (encE e) = false := by cases e <;> rfl
theorem ascB_of : ∀ {as : MG.St}, MG.AscS as → ascB as = true
  | [], _ => rfl
  | [a], _ => rfl
  | a :: b :: r, h => by
    obtain ⟨h1, h2⟩ := List.pairwise_cons.mp h
    have h3 : a.2 < b.2 := h1 b.2 (by simp)
    simp only [ascB, ascB_of (as := b :: r) h2, Bool.and_true, decide_eq_true_eq]
    exact h3
end K07
end
section
namespace K07
open PySem EV MG
theorem within_ok {n : Nat} {x : P} {a b : Int} {s : Sto} (h : isFn x = false) : callF T (n + 2) ix_is_within [.p x, .p (.int a), .p (.int b)] s = .ok (.p (.bl (isInt x && (decide (a ≤ intOf x) && decide (intOf x ≤ b))))) s := by
  refine Ok.eq (ok_call (fn := c_is_within) rfl rfl fun c hc => ?_)
  simp only [c_is_within]
  cases x with
  | int i =>
    simp [hc, is_int_ok (x := .int i) rfl, isInt, intOf]
    by_cases h1 : a ≤ i <;> simp [h1]
    exact ⟨rfl, fun _ => by omega⟩
  | fn f => cases h
  | _ => simp [hc, is_int_ok h, isInt]
theorem is_times_ok {n : Nat} {x : P} {s : Sto} (h : isFn x = false) : callF T (n + 3) ix_is_times [.p x] s = .ok (.p (.bl (isInt x && (decide (1 ≤ intOf x) && decide (intOf x ≤ 1000000000000000000000000000000))))) s := by
  refine Ok.eq (ok_call (fn := c_is_times) rfl rfl fun c hc => ?_)
  simp [c_is_times, hc, within_ok h]
theorem lesser_ok {n : Nat} {x y : Option Int} {s : Sto} : callF T (n + 1) ix_lesser [.p (encE x), .p (encE y)] s = .ok (.p (encE (MG.oMin x y))) s := by
  refine Ok.eq (ok_call (fn := c_lesser) rfl rfl fun c hc => ?_)
  cases x <;> cases y <;> simp [c_lesser, hc, MG.oMin, b2P]
end K07
end
section
namespace K07
open PySem EV MG
theorem dctT_nat {as : St} {t : Int} : (dget (.inl t) (dctT as)).getD (.int 0) = .int (oI (dget (.inl t) (dctT as))) := by
  unfold dctT
  rw [dget_map]
  by_cases h : t ∈ keysD as <;> simp [h, oI]
theorem put_gen {n f : Nat} {e : Option Int} {as : St} {s : Sto} {x : P} (hf : fns[f]? = some c_put_together) (hx : x = .tup (as.map encS) ∨ x = .lst (as.map encS)) (hl : as.length ≤ 1000) : callF T (n + 1) f [.p x, .p (encE e)] s = .ok (.p (.tup [.tup ((merge e as).map encS), encE e])) s := by
  refine Ok.eq (ok_call (fn := c_put_together) hf rfl fun c hc => ?_)
  simp only [c_put_together]
  rcases hx with rfl | rfl
  all_goals
    simp [EV.start]
    refine ok_forT (fun rem σ s' => ∃ done r w u v, done ++ r = as ∧ rem = r.map encS ∧ σ = [w, some (.p (encE e)), some (.loc s.length), u, v] ∧ s' = s ++ [.dct (dctT (done.filter fun a => keep e a.2))]) ⟨[], as, _, none, none, rfl, rfl, rfl, rfl⟩ ?_ ?_
    · rintro z r σ s' ⟨done, rr, w, u, v, h1, h2, rfl, rfl⟩
      cases rr with
      | nil => cases h2
      | cons a rr =>
        obtain ⟨amt, t⟩ := a
        rw [List.map_cons] at h2
        obtain ⟨rfl, rfl⟩ := List.cons.inj h2
        have h1' := h1
        refine ⟨rfl, ?_⟩
        have hlen : (dctT (done.filter fun a => keep e a.2)).length < 16777216 := by
          have h1 : (keysD (done.filter fun a => keep e a.2)).length ≤ done.length := Nat.le_trans (keysD_len _) (List.length_filter_le _ _)
          have h2 : done.length < 1001 := by
            have : done.length + (rr.length + 1) = as.length := by rw [← h1']; simp
            omega
          simp only [dctT, List.length_map]
          omega
        have hk := keep_dct (e := e) (as := done) (amt, t)
        have yes : keep e t = true → dput (.inl t) (.int (oI (dget (.inl t) (dctT (done.filter fun a => keep e a.2))) + amt)) (dctT (done.filter fun a => keep e a.2)) = dctT ((done ++ [(amt, t)]).filter fun a => keep e a.2) := fun h => by
          rw [hk, dctT_snoc]
          simp [h]
        have no : keep e t = false → dctT (done.filter fun a => keep e a.2) = dctT ((done ++ [(amt, t)]).filter fun a => keep e a.2) := fun h => by
          rw [hk]
          simp [h]
        cases e with
        | none =>
          simp [encS, encE, dct_last, dctT_nat, ok_setK last_get, hlen, yes rfl]
          exact ⟨done ++ [(amt, t)], rr, by simpa using h1', rfl, by simp⟩
        | some i =>
          simp [encS, encE]
          refine ⟨fun h => ?_, fun h => ?_⟩
          · have hki : keep (some i) t = true := by simp [keep, h]
            simp [dct_last, dctT_nat, ok_setK last_get, hlen, yes hki]
            exact ⟨done ++ [(amt, t)], rr, by simpa using h1', rfl, by simp⟩
          · have hki : keep (some i) t = false := by simp [keep]; omega
            exact ⟨done ++ [(amt, t)], rr, by simpa using h1', rfl, no hki⟩
    · rintro σ s' ⟨done, rr, w, u, v, h1, h2, rfl, rfl⟩
      have : rr = [] := by simpa using h2
      subst this
      rw [List.append_nil] at h1
      subst h1
      refine ⟨rfl, ?_⟩
      have ek : (dctT (done.filter fun a => keep e a.2)).map (fun q => kyP q.1) = (keysD (done.filter fun a => keep e a.2)).map P.int := by
        unfold dctT
        rw [List.map_map]
        rfl
      simp [ok_b1K last_get, ek]
      have hm : merge e done = (isort (keysD (done.filter fun a => keep e a.2))).map fun t => (sumT t (done.filter fun a => keep e a.2), t) := rfl
      refine ok_lcM (fun x => match x with | .int t => encS (sumT t (done.filter fun a => keep e a.2), t) | _ => .non) rfl ?_ (fun x hx => ?_) ?_
      · have h1 : (keysD (done.filter fun a => keep e a.2)).length ≤ done.length := Nat.le_trans (keysD_len _) (List.length_filter_le _ _)
        have h2 := (isort_perm (keysD (done.filter fun a => keep e a.2))).length_eq
        rw [List.length_map]
        unfold L
        omega
      · obtain ⟨t, ht, rfl⟩ := List.mem_map.mp hx
        simp [ok_ixK last_get, dget_dct (mem_isort.mp ht), encS, L]
      · simp [hm, L, List.map_map, Function.comp_def]

theorem put_ok {n f : Nat} {e : Option Int} {as : St} {s : Sto} (hf : fns[f]? = some c_put_together) (hl : as.length ≤ 1000) : callF T (n + 1) f [.p (.tup (as.map encS)), .p (encE e)] s = .ok (.p (.tup [.tup ((merge e as).map encS), encE e])) s := put_gen hf (.inl rfl) hl
end K07
end
section
namespace K07
open PySem EV MG
open MG (Sr)
theorem encT_0 {A : Sr} : ixP (encT A) (.int 0) = some (.tup (A.1.map encS)) := by
  unfold encT
  simp
theorem encT_1 {A : Sr} : ixP (encT A) (.int 1) = some (encE A.2) := by
  unfold encT
  simp
theorem sided_ok {n : Nat} {A B : Sr} {s : Sto} (hl : A.1.length + B.1.length ≤ 1000) : callF T (n + 2) ix_sided [.p (encT A), .p (encT B)] s = .ok (.p (encT (MG.sideS A B))) s := by
  refine Ok.eq (ok_call (fn := c_sided) rfl rfl fun c hc => ?_)
  have e1 : addP (.tup (A.1.map encS)) (.tup (B.1.map encS)) = some (.tup ((A.1 ++ B.1).map encS)) := by
    rw [addP_tup (by simp; omega), List.map_append]
  have hp := fun s => put_ok (n := n) (f := ix_put_together) (e := MG.oMin A.2 B.2) (as := A.1 ++ B.1) (s := s) rfl (by simpa using hl)
  have hr : encT (MG.sideS A B) = .tup [.tup ((MG.merge (MG.oMin A.2 B.2) (A.1 ++ B.1)).map encS), encE (MG.oMin A.2 B.2)] := rfl
  simp only [c_sided]
  simp [encT_0, encT_1, e1, hc, lesser_ok]
  rw [List.map_append] at hp
  simp [hp, hr]
/-- a stretch: an amount or none, a toll -/
def encX (a : Option Int × Int) : P := .tup [encE a.1, .int a.2]
/-- what stretches tells -/
def strX (A : MG.St) (e : Option Int) : List (Option Int × Int) := A.map (fun a => (some a.1, a.2)) ++ (match e with | none => [] | some i => [(none, i)])
theorem strX_S (A : MG.St) : (A.map fun a => ((some a.1, a.2) : Option Int × Int)).map encX = A.map encS := by
  rw [List.map_map]
  rfl
theorem stretches_ok {n : Nat} {A : Sr} {s : Sto} (hl : A.1.length ≤ 1000) : callF T (n + 1) ix_stretches [.p (encT A)] s = .ok (.p (.lst ((strX A.1 A.2).map encX))) s := by
  refine Ok.eq (ok_call (fn := c_stretches) rfl rfl fun c hc => ?_)
  obtain ⟨A, e⟩ := A
  simp only at hl
  cases e with
  | none =>
    simp [c_stretches, encT_0, encT_1]
    rw [addP_lst (by simp; omega)]
    simp [strX, encX, encS, Function.comp_def]
  | some i =>
    simp [c_stretches, encT_0, encT_1]
    rw [addP_lst (by simp; omega)]
    simp [strX, encX, encS, Function.comp_def]
def subX : Option Int → Option Int → Option Int
  | none, _ => none
  | some a, some b => some (a - b)
  | some a, none => some a
theorem less_by_ok {n : Nat} {x : Option Int} {b : Int} {s : Sto} : callF T (n + 1) ix_less_by [.p (encE x), .p (.int b)] s = .ok (.p (encE (subX x (some b)))) s := by
  refine Ok.eq (ok_call (fn := c_less_by) rfl rfl fun c hc => ?_)
  cases x <;> simp [c_less_by, subX]
/-- what remains of a stretch's list when b pieces are gone -/
def dropX (b : Int) : List (Option Int × Int) → List (Option Int × Int)
  | [] => []
  | (a, t) :: r => if subX a (some b) = some 0 then r else (subX a (some b), t) :: r
theorem peq_zero {x : Option Int} : eqP (encE x) (.int 0) = some (decide (x = some 0)) := by
  cases x with
  | none => rw [eqP_lay (by simp [P.lay]) (by simp [P.lay])]; simp [P.peq]
  | some i => simp; rfl
open MG in
theorem strX_nil {A : St} {e : Option Int} (h : strX A e = []) : A = [] ∧ e = none := by
  cases A <;> cases e <;> simp [strX] at h ⊢
open MG in
theorem strX_cons {A : St} {e : Option Int} {x : Option Int} {t : Int} {X : List (Option Int × Int)} (h : strX A e = (x, t) :: X) : (∃ a A', A = (a, t) :: A' ∧ x = some a ∧ X = strX A' e) ∨ (A = [] ∧ x = none ∧ e = some t ∧ X = []) := by
  cases A with
  | nil =>
    cases e with
    | none => simp [strX] at h
    | some i =>
      simp [strX] at h
      obtain ⟨⟨rfl, rfl⟩, rfl⟩ := h
      exact .inr ⟨rfl, rfl, rfl, rfl⟩
  | cons a A =>
    simp only [strX, List.map_cons, List.cons_append, List.cons.injEq, Prod.mk.injEq] at h
    obtain ⟨⟨rfl, rfl⟩, rfl⟩ := h
    exact .inl ⟨a.1, A, rfl, rfl, rfl⟩
open MG in
theorem strX_more (a t : Int) (A : St) (e : Option Int) : strX ((a, t) :: A) e = (some a, t) :: strX A e := rfl
open MG in
theorem row_none {A B : St} {ea eb : Option Int} {x y : Option Int} {t u : Int} {X Y : List (Option Int × Int)} (hx : strX A ea = (x, t) :: X) (hy : strX B eb = (y, u) :: Y) (h : oMin x y = none) : rowL A ea B eb = [] ∧ oAdd ea eb = some (t + u) := by
  obtain ⟨rfl, rfl⟩ := oMin_none h
  rcases strX_cons hx with ⟨a, A', _, e, _⟩ | ⟨rfl, _, rfl, _⟩
  · cases e
  · rcases strX_cons hy with ⟨b, B', _, e, _⟩ | ⟨rfl, _, rfl, _⟩
    · cases e
    · exact ⟨by simp [rowL], rfl⟩
open MG in
theorem row_some {A B : St} {ea eb : Option Int} {x y : Option Int} {t u b : Int} {X Y : List (Option Int × Int)} (va : Va A ea) (vb : Va B eb) (hx : strX A ea = (x, t) :: X) (hy : strX B eb = (y, u) :: Y) (h : oMin x y = some b) :
    ∃ A' B', dropX b ((x, t) :: X) = strX A' ea ∧ dropX b ((y, u) :: Y) = strX B' eb ∧ rowL A ea B eb = (b, t + u) :: rowL A' ea B' eb ∧ Va A' ea ∧ Va B' eb ∧ A'.length + B'.length < A.length + B.length := by
  rcases strX_cons hx with ⟨a, A', rfl, rfl, rfl⟩ | ⟨rfl, rfl, rfl, rfl⟩
  · have a1 := (va.pos (a, t) (by simp)).1
    rcases strX_cons hy with ⟨c, B', rfl, rfl, rfl⟩ | ⟨rfl, rfl, rfl, rfl⟩
    · have c1 := (vb.pos (c, u) (by simp)).1
      simp only [oMin, Option.some.injEq] at h a1 c1
      by_cases h1 : a < c
      · rw [if_neg (by omega)] at h
        subst h
        refine ⟨A', (c - a, u) :: B', by simp [dropX, subX], ?_, ?_, va.tail, vb.cut (by omega), by simp⟩
        · have : ¬ c - a = 0 := by omega
          simp [dropX, subX, this, strX_more]
        · rw [rowL]
          simp [h1]
      · by_cases h2 : c < a
        · rw [if_pos h2] at h
          subst h
          refine ⟨(a - c, t) :: A', B', ?_, by simp [dropX, subX], ?_, va.cut (by omega), vb.tail, by simp⟩
          · have : ¬ a - c = 0 := by omega
            simp [dropX, subX, this, strX_more]
          · rw [rowL]
            simp [h1, h2]
        · have e : c = a := by omega
          subst e
          rw [if_neg h2] at h
          subst h
          refine ⟨A', B', by simp [dropX, subX], by simp [dropX, subX], ?_, va.tail, vb.tail, by simp; omega⟩
          rw [rowL]
          simp
    · simp only [oMin, Option.some.injEq] at h
      subst h
      exact ⟨A', [], by simp [dropX, subX], by simp [dropX, subX, strX], by simp [rowL], va.tail, vb, by simp⟩
  · rcases strX_cons hy with ⟨c, B', rfl, rfl, rfl⟩ | ⟨rfl, rfl, rfl, rfl⟩
    · simp only [oMin, Option.some.injEq] at h
      subst h
      exact ⟨[], B', by simp [dropX, subX, strX], by simp [dropX, subX], by simp [rowL], va, vb.tail, by simp⟩
    · cases h
def rowI (A B : Sr) (s : Sto) (k : Nat) (σ : Sg) (s' : Sto) : Prop := ∃ (X Y acc : MG.St) (a b d e f : Option D), s' = s ++ [.lst (acc.map encS)] ∧ σ = [some (.p (encT A)), some (.p (encT B)), some (.p (.lst ((strX X A.2).map encX))), some (.p (.lst ((strX Y B.2).map encX))), some (.loc s.length), a, b, d, e, f] ∧ MG.Va X A.2 ∧ MG.Va Y B.2 ∧ acc ++ MG.rowL X A.2 Y B.2 = (MG.rowS A B).1 ∧ k = X.length + Y.length ∧ acc.length + X.length + Y.length ≤ 1000
theorem rowed_ok {n : Nat} {A B : Sr} {s : Sto} (va : MG.Va A.1 A.2) (vb : MG.Va B.1 B.2) (hl : A.1.length + B.1.length ≤ 1000) : callF T (n + 2) ix_rowed [.p (encT A), .p (encT B)] s = .ok (.p (encT (MG.rowS A B))) s := by
  refine Ok.eq (ok_call (fn := c_rowed) rfl rfl fun c hc => ?_)
  simp only [c_rowed]
  simp [hc, stretches_ok (n := n) (A := A) (by omega), stretches_ok (n := n) (A := B) (by omega)]
  refine ok_while (rowI A B s) (k := A.1.length + B.1.length)
    ⟨A.1, B.1, [], _, _, _, _, _, rfl, rfl, va, vb, rfl, rfl, by simpa using hl⟩ (by unfold L; omega) ?_
  rintro k σ s' ⟨X, Y, acc, a, b, d, e, f, rfl, rfl, vx, vy, hrow, rfl, hlen⟩
  have fin : ∀ e', acc = (MG.rowS A B).1 → e' = MG.oAdd A.2 B.2 → P.tup [.tup (acc.map encS), encE e'] = encT (MG.rowS A B) := fun e' h1 h2 => by
    rw [h1, h2]
    rfl
  cases hX : strX X A.2 with
  | nil =>
    obtain ⟨rfl, e1⟩ := strX_nil hX
    have er : MG.rowL [] A.2 Y B.2 = [] := by rw [e1]; cases Y <;> simp [MG.rowL]
    rw [er, List.append_nil] at hrow
    have := fin none hrow (by rw [e1]; rfl)
    simp at this
    simp [ok_b1L last_get, this]
  | cons x X' =>
    obtain ⟨x, t⟩ := x
    cases hY : strX Y B.2 with
    | nil =>
      obtain ⟨rfl, e1⟩ := strX_nil hY
      have er : MG.rowL X A.2 [] B.2 = [] := by
        rw [e1]
        cases X with
        | nil => cases A.2 <;> simp [MG.rowL]
        | cons z X => obtain ⟨z1, z2⟩ := z; simp [MG.rowL]
      rw [er, List.append_nil] at hrow
      have := fin none hrow (by rw [e1]; cases A.2 <;> rfl)
      simp at this
      simp [ok_b1L last_get, this]
    | cons y Y' =>
      obtain ⟨y, u⟩ := y
      cases hb : MG.oMin x y with
      | none =>
        obtain ⟨e1, e2⟩ := row_none hX hY hb
        rw [e1, List.append_nil] at hrow
        have := fin (some (t + u)) hrow e2.symm
        simp at this
        simp [encX, hc, lesser_ok, hb, ok_b1L last_get, this]
      | some b =>
        obtain ⟨A', B', d1, d2, d3, d4, d5, d6⟩ := row_some vx vy hX hY hb
        have lx : ∀ (Z : MG.St) (e : Option Int), (strX Z e).length ≤ Z.length + 1 := fun Z e => by cases e <;> simp [strX]
        have l1 := lx X A.2
        have l2 := lx Y B.2
        rw [hX] at l1
        rw [hY] at l2
        simp only [List.length_cons] at l1 l2
        have aX : ∀ p, addP (.lst [p]) (.lst (X'.map encX)) = some (.lst (p :: X'.map encX)) := fun p => addP_lst (by simp; omega)
        have aY : ∀ p, addP (.lst [p]) (.lst (Y'.map encX)) = some (.lst (p :: Y'.map encX)) := fun p => addP_lst (by simp; omega)
        have go : ∀ a1 a2 a3 a4 a5 : Option D, ∃ j, j < X.length + Y.length ∧ rowI A B s j [some (.p (encT A)), some (.p (encT B)), some (.p (.lst ((strX A' A.2).map encX))), some (.p (.lst ((strX B' B.2).map encX))), some (.loc s.length), a1, a2, a3, a4, a5] (s ++ [MO.lst (acc.map encS ++ [.tup [.int b, .int (t + u)]])]) := fun a1 a2 a3 a4 a5 =>
          ⟨A'.length + B'.length, d6, A', B', acc ++ [(b, t + u)], a1, a2, a3, a4, a5, by simp [encS], rfl, d4, d5, by rw [← hrow, d3]; simp, rfl, by simp; omega⟩
        simp [encX, hc, lesser_ok, hb, rd_loc last_get]
        refine ⟨by omega, ?_⟩
        simp [less_by_ok, hc, aX, aY]
        rw [← d1, ← d2] at go
        by_cases z1 : subX x (some b) = some 0 <;> by_cases z2 : subX y (some b) = some 0
        · simp [z1, z2, dropX, encX] at go ⊢
          exact go _ _ _ _ _
        · simp [z1, z2, dropX, encX, peq_zero] at go ⊢
          exact go _ _ _ _ _
        · simp [z1, z2, dropX, encX, peq_zero] at go ⊢
          exact go _ _ _ _ _
        · simp [z1, z2, dropX, encX, peq_zero] at go ⊢
          exact go _ _ _ _ _
end K07
end
section
namespace K07
open PySem EV MG
open MG (Sr Pn Gs Bk)
theorem bits_le {i : Int} {k : Nat} (h0 : 0 ≤ i) (h : i ≤ 2 ^ k) : bits i ≤ k := bits_lt (by
  have h2 : (i.natAbs : Int) < ((2 ^ (k + 1) : Nat) : Int) := by
    have e : ((2 ^ (k + 1) : Nat) : Int) = 2 ^ (k + 1) := by simp
    rw [e, MG.pow_dbl]
    have : (0 : Int) < 2 ^ k := Int.pow_pos (by omega)
    omega
  exact Int.ofNat_lt.mp h2)
theorem repeated_ok {n : Nat} {A : Sr} {m : Int} {k : Nat} {s : Sto} (g : Gs A) (b : Bk k A) (hm : 1 ≤ m ∧ m ≤ 2 ^ 100) (hk : k < 90000000) (hl : A.1.length ≤ 1000) : callF T (n + 1) ix_repeated [.p (encT A), .p (.int m)] s = .ok (.p (encT (MG.timesS m A))) s := by
  refine Ok.eq (ok_call (fn := c_repeated) rfl rfl fun c hc => ?_)
  have hb := bits_le (k := 100) (i := m) (by omega) hm.2
  have hr : encT (MG.timesS m A) = .tup [.tup ((A.1.map fun a => (a.1, m * a.2)).map encS), encE (A.2.map (m * ·))] := rfl
  have core : ∀ (σ : Sg) (Q : List P → Sto → Prop), σ.length = 5 → slotO σ[1]? = some (.p (.int m)) → Q ((A.1.map fun a => (a.1, m * a.2)).map encS) s → Ok (lcT c (gTup [gN 3, gN 4]) tYes (eTup (aCons (eVar 3) (aCons (eOp mulP (eVar 1) (eVar 4)) aNil))) σ (A.1.map encS) none (A.1.map encS) [] s) Q nE := fun σ Q hσ h1 hq => by
    match σ, hσ, h1 with
    | [x0, x1, x2, x3, x4], _, h1 =>
      simp at h1
      refine ok_lcM (fun y => match y with | .tup [.int a, .int t] => .tup [.int a, .int (m * t)] | _ => .non) rfl (by rw [List.length_map]; unfold L; omega) (fun y hy => ?_) (by simpa [encS, List.map_map, Function.comp_def] using hq)
      obtain ⟨a, ha, rfl⟩ := List.mem_map.mp hy
      have h2 := g.va.pos a ha
      have h3 := b.st a ha
      have hb2 := bits_le (k := k) (i := a.2) (by omega) h3.2
      simp [encS, h1, mulP_ok (i := m) (j := a.2) (by omega)]
  simp only [c_repeated]
  obtain ⟨A, e⟩ := A
  cases e with
  | none =>
    simp [encT_0, encT_1]
    refine core _ _ (by simp) (by simp) ?_
    simp [hr]
  | some i =>
    have h2 := g.va.en i rfl
    have h3 := b.en i rfl
    have hb2 := bits_le (k := k) (i := i) (by omega) h3
    simp [encT_0, encT_1, mulP_ok (i := m) (j := i) (by omega)]
    refine core _ _ (by simp) (by simp) ?_
    simp [hr]
theorem copied_ok {n : Nat} {A : Sr} {m : Int} {k : Nat} {s : Sto} (g : Gs A) (b : Bk k A) (hm : 1 ≤ m ∧ m ≤ 2 ^ 100) (hk : k < 90000000) (hl : A.1.length ≤ 1000) : callF T (n + 1) ix_copied [.p (encT A), .p (.int m)] s = .ok (.p (encT (MG.copyS m A))) s := by
  refine Ok.eq (ok_call (fn := c_copied) rfl rfl fun c hc => ?_)
  have hb := bits_le (k := 100) (i := m) (by omega) hm.2
  have hr : encT (MG.copyS m A) = .tup [.tup ((A.1.map fun a => (m * a.1, a.2)).map encS), encE A.2] := rfl
  simp only [c_copied]
  simp [encT_0, encT_1]
  refine ok_lcM (fun y => match y with | .tup [.int a, .int t] => .tup [.int (m * a), .int t] | _ => .non) rfl (by rw [List.length_map]; unfold L; omega) (fun y hy => ?_) ?_
  · obtain ⟨a, ha, rfl⟩ := List.mem_map.mp hy
    have h2 := g.va.pos a ha
    have h3 := b.st a ha
    have hb2 := bits_le (k := k) (i := a.1) (by omega) h3.1
    simp [encS, mulP_ok (i := m) (j := a.1) (by omega)]
  · simp [encT_1, hr, encS, List.map_map, Function.comp_def]
end K07
end
section
namespace K07
open PySem EV MG
open MG (Sr Gs Bk)
theorem wf_encT {A : Sr} (h : A.1.length ≤ 1000) : Wf (encT A) := by
  refine .tup _ (by simp) fun x hx => ?_
  simp at hx
  rcases hx with rfl | rfl
  · exact wf_enc h
  · cases A.2 <;> simp
    · exact .non
    · exact .int _
theorem gs_stair {A : Sr} (g : Gs A) : stair (encT A) = some A := by
  obtain ⟨as, e⟩ := A
  have hp := stps_of (as := as) g.va.pos
  unfold encT K07.stair
  simp only [hp, ascB_of g.va.asc, if_true]
  cases e with
  | none =>
    have := g.ne rfl
    simp only [encE]
    rw [if_neg this]
  | some i =>
    obtain ⟨h1, h2⟩ := g.va.en i rfl
    simp only [encE]
    rw [if_pos ⟨h1, fun a ha => h2 a (List.mem_of_getLast? ha)⟩]
end K07
end
section
namespace K07
open PySem EV MG
open MG
/-- check_stair, of a stair, of what is none -/
theorem chk_st {n : Nat} {A : Sr} {s : Sto} (g : Gs A) (hl : A.1.length ≤ 1000) : callF T (n + 7) ix_check_stair [.p (encT A)] s = .ok (.p .non) s := by
  refine Ok.eq (ok_call (fn := c_check_stair) rfl rfl fun c hc => ?_)
  have e := fun s => is_stair_ok (n := n) (s := s) (wf_encT hl)
  rw [gs_stair g] at e
  simp [c_check_stair, hc, e]
theorem chk_no {n : Nat} {x : P} {s : Sto} (w : Wf x) (h : (stair x).isSome = false) : callF T (n + 7) ix_check_stair [.p x] s = .exn cl_BadStair none s := by
  refine eqx (ok_call (fn := c_check_stair) rfl rfl fun c hc => ?_)
  have e := fun s => is_stair_ok (n := n) (s := s) w
  rw [h] at e
  simp [c_check_stair, hc, e]
theorem beside_ok {n : Nat} {A B : Sr} {s : Sto} (ga : Gs A) (gb : Gs B) (hl : A.1.length + B.1.length ≤ 1000) : callF T (n + 8) ix_beside [.p (encT A), .p (encT B)] s = .ok (.p (encT (sideS A B))) s := by
  refine Ok.eq (ok_call (fn := c_beside) rfl rfl fun c hc => ?_)
  have e1 := fun s => chk_st (n := n) (s := s) ga (by omega)
  have e2 := fun s => chk_st (n := n) (s := s) gb (by omega)
  have e3 := fun s => sided_ok (n := n + 5) (s := s) hl
  simp [c_beside, hc, e1, e2, e3]
theorem in_row_ok {n : Nat} {A B : Sr} {s : Sto} (ga : Gs A) (gb : Gs B) (hl : A.1.length + B.1.length ≤ 1000) : callF T (n + 8) ix_in_row [.p (encT A), .p (encT B)] s = .ok (.p (encT (rowS A B))) s := by
  refine Ok.eq (ok_call (fn := c_in_row) rfl rfl fun c hc => ?_)
  have e1 := fun s => chk_st (n := n) (s := s) ga (by omega)
  have e2 := fun s => chk_st (n := n) (s := s) gb (by omega)
  have e3 := fun s => rowed_ok (n := n + 5) (s := s) ga.va gb.va hl
  simp [c_in_row, hc, e1, e2, e3]
theorem beside_no1 {n : Nat} {x : P} {y : D} {s : Sto} (w : Wf x) (h : (stair x).isSome = false) : callF T (n + 8) ix_beside [.p x, y] s = .exn cl_BadStair none s := by
  refine eqx (ok_call (fn := c_beside) rfl rfl fun c hc => ?_)
  have e1 := fun s => chk_no (n := n) (s := s) w h
  simp [c_beside, hc, e1]
theorem in_row_no1 {n : Nat} {x : P} {y : D} {s : Sto} (w : Wf x) (h : (stair x).isSome = false) : callF T (n + 8) ix_in_row [.p x, y] s = .exn cl_BadStair none s := by
  refine eqx (ok_call (fn := c_in_row) rfl rfl fun c hc => ?_)
  have e1 := fun s => chk_no (n := n) (s := s) w h
  simp [c_in_row, hc, e1]
theorem beside_no2 {n : Nat} {A : Sr} {x : P} {s : Sto} (g : Gs A) (hl : A.1.length ≤ 1000) (w : Wf x) (h : (stair x).isSome = false) : callF T (n + 8) ix_beside [.p (encT A), .p x] s = .exn cl_BadStair none s := by
  refine eqx (ok_call (fn := c_beside) rfl rfl fun c hc => ?_)
  have e1 := fun s => chk_st (n := n) (s := s) g hl
  have e2 := fun s => chk_no (n := n) (s := s) w h
  simp [c_beside, hc, e1, e2]
theorem in_row_no2 {n : Nat} {A : Sr} {x : P} {s : Sto} (g : Gs A) (hl : A.1.length ≤ 1000) (w : Wf x) (h : (stair x).isSome = false) : callF T (n + 8) ix_in_row [.p (encT A), .p x] s = .exn cl_BadStair none s := by
  refine eqx (ok_call (fn := c_in_row) rfl rfl fun c hc => ?_)
  have e1 := fun s => chk_st (n := n) (s := s) g hl
  have e2 := fun s => chk_no (n := n) (s := s) w h
  simp [c_in_row, hc, e1, e2]
theorem chk_times {n : Nat} {m : Int} {s : Sto} (h1 : 1 ≤ m) (h2 : m ≤ 10 ^ 30) : callF T (n + 4) ix_check_times [.p (.int m)] s = .ok (.p .non) s := by
  refine Ok.eq (ok_call (fn := c_check_times) rfl rfl fun c hc => ?_)
  have e := fun s => is_times_ok (n := n) (x := .int m) (s := s) rfl
  have h3 : m ≤ 1000000000000000000000000000000 := by omega
  simp [isInt, intOf, h1, h3] at e
  simp [c_check_times, hc, e]
theorem chk_times_no {n : Nat} {x : P} {s : Sto} (h : isFn x = false) (hx : (isInt x && (decide (1 ≤ intOf x) && decide (intOf x ≤ 1000000000000000000000000000000))) = false) : callF T (n + 4) ix_check_times [.p x] s = .exn cl_NoNumber none s := by
  refine eqx (ok_call (fn := c_check_times) rfl rfl fun c hc => ?_)
  have e := fun s => is_times_ok (n := n) (x := x) (s := s) h
  rw [hx] at e
  simp [c_check_times, hc, e]
theorem times_ok {n k : Nat} {A : Sr} {m : Int} {s : Sto} (g : Gs A) (b : Bk k A) (h1 : 1 ≤ m) (h2 : m ≤ 10 ^ 30) (hk : k < 90000000) (hl : A.1.length ≤ 1000) : callF T (n + 8) ix_times [.p (encT A), .p (.int m)] s = .ok (.p (encT (timesS m A))) s := by
  refine Ok.eq (ok_call (fn := c_times) rfl rfl fun c hc => ?_)
  have hm : m ≤ 2 ^ 100 := Int.le_trans h2 (by decide)
  have e1 := fun s => chk_st (n := n) (s := s) g hl
  have e2 := fun s => chk_times (n := n + 3) (s := s) h1 h2
  have e3 := fun s => repeated_ok (n := n + 6) (s := s) g b ⟨h1, hm⟩ hk hl
  simp [c_times, hc, e1, e2, e3]
theorem copies_ok {n k : Nat} {A : Sr} {m : Int} {s : Sto} (g : Gs A) (b : Bk k A) (h1 : 1 ≤ m) (h2 : m ≤ 10 ^ 30) (hk : k < 90000000) (hl : A.1.length ≤ 1000) : callF T (n + 8) ix_copies [.p (encT A), .p (.int m)] s = .ok (.p (encT (copyS m A))) s := by
  refine Ok.eq (ok_call (fn := c_copies) rfl rfl fun c hc => ?_)
  have hm : m ≤ 2 ^ 100 := Int.le_trans h2 (by decide)
  have e1 := fun s => chk_st (n := n) (s := s) g hl
  have e2 := fun s => chk_times (n := n + 3) (s := s) h1 h2
  have e3 := fun s => copied_ok (n := n + 6) (s := s) g b ⟨h1, hm⟩ hk hl
  simp [c_copies, hc, e1, e2, e3]
end K07
end
section
namespace K07
open PySem EV MG
/-- what stands in the hand -/
structure HV where
  cells : List Int
  i : Int
  j : Int
  k : Int
  m : Int
def HV.mo (h : HV) : MO := .lst [.lst (h.cells.map .int), .int h.i, .int h.j, .int h.k, .int h.m]
structure HV.ok (h : HV) (b : Nat) : Prop where
  cells : ∀ z ∈ h.cells, 0 ≤ z ∧ bits z ≤ 2000000
  i : 0 ≤ h.i
  j : 0 ≤ h.j
  k : 0 ≤ h.k ∧ h.k < 2147483648
  m : 0 ≤ h.m ∧ h.m ≤ b
structure Hand (s : Sto) (l b : Nat) : Prop where
  ex : ∃ h : HV, s[l]? = some h.mo ∧ h.ok b
section
variable {E : Nat → Sto → Prop} {s : Sto} {l : Nat} {xs : List P}
theorem ok_ixS {Q : D → Sto → Prop} {y : D} (h : l < s.length) : Ok (ixD (.loc l) y (s.set l (.lst xs))) Q E = Has (rd (s.set l (.lst xs)) y) fun q => Has (ixP (.lst xs) q) fun r => Q (.p r) (s.set l (.lst xs)) := ok_ixL (by simp [h])
theorem ok_setI {Q : Sg → Sto → Prop} {σ : Sg} {v : P} {i : Nat} (h : s[l]? = some (.lst xs)) (hi : i < xs.length) : Ok (setO l v (.p (.int i)) σ s) Q E = Q σ (s.set l (.lst (xs.set i v))) := by
  rw [ok_setL h]
  have : L2.ixN xs.length (i : Int) = some i := by
    unfold L2.ixN
    rw [if_pos (by omega), if_pos (by omega)]
    simp
  simp [this]
theorem ok_setS {Q : Sg → Sto → Prop} {σ : Sg} {v : P} {i : Nat} (h : l < s.length) (hi : i < xs.length) : Ok (setO l v (.p (.int i)) σ (s.set l (.lst xs))) Q E = Q σ (s.set l (.lst (xs.set i v))) := by
  rw [ok_setI (xs := xs) (by simp [h]) hi]
  simp
end
section
variable {E : Nat → Sto → Prop} {s : Sto} {l : Nat} {a b c' d e v : P} {Q : Sg → Sto → Prop} {σ : Sg}
theorem set1 (h : s[l]? = some (.lst [a, b, c', d, e])) : Ok (setO l v (.p (.int 1)) σ s) Q E = Q σ (s.set l (.lst [a, v, c', d, e])) := ok_setI (i := 1) h (by simp)
theorem set2 (h : s[l]? = some (.lst [a, b, c', d, e])) : Ok (setO l v (.p (.int 2)) σ s) Q E = Q σ (s.set l (.lst [a, b, v, d, e])) := ok_setI (i := 2) h (by simp)
theorem set3 (h : s[l]? = some (.lst [a, b, c', d, e])) : Ok (setO l v (.p (.int 3)) σ s) Q E = Q σ (s.set l (.lst [a, b, c', v, e])) := ok_setI (i := 3) h (by simp)
theorem set4 (h : s[l]? = some (.lst [a, b, c', d, e])) : Ok (setO l v (.p (.int 4)) σ s) Q E = Q σ (s.set l (.lst [a, b, c', d, v])) := ok_setI (i := 4) h (by simp)
theorem set1S (h : l < s.length) : Ok (setO l v (.p (.int 1)) σ (s.set l (.lst [a, b, c', d, e]))) Q E = Q σ (s.set l (.lst [a, v, c', d, e])) := by rw [set1 (a := a) (b := b) (c' := c') (d := d) (e := e) (by simp [h])]; simp
theorem set2S (h : l < s.length) : Ok (setO l v (.p (.int 2)) σ (s.set l (.lst [a, b, c', d, e]))) Q E = Q σ (s.set l (.lst [a, b, v, d, e])) := by rw [set2 (a := a) (b := b) (c' := c') (d := d) (e := e) (by simp [h])]; simp
theorem set3S (h : l < s.length) : Ok (setO l v (.p (.int 3)) σ (s.set l (.lst [a, b, c', d, e]))) Q E = Q σ (s.set l (.lst [a, b, c', v, e])) := by rw [set3 (a := a) (b := b) (c' := c') (d := d) (e := e) (by simp [h])]; simp
theorem set4S (h : l < s.length) : Ok (setO l v (.p (.int 4)) σ (s.set l (.lst [a, b, c', d, e]))) Q E = Q σ (s.set l (.lst [a, b, c', d, v])) := by rw [set4 (a := a) (b := b) (c' := c') (d := d) (e := e) (by simp [h])]; simp
end
theorem ixP_int {xs : List Int} {i : Int} (h0 : 0 ≤ i) (h : i < xs.length) : ∃ z ∈ xs, ixP (.lst (xs.map .int)) (.int i) = some (.int z) := by
  have hi : i.toNat < xs.length := by omega
  refine ⟨xs[i.toNat], List.getElem_mem hi, ?_⟩
  have e : (i.toNat : Int) = i := by omega
  have := ixP_natL (xs := xs.map P.int) (i := i.toNat) (by simpa using hi)
  rw [e] at this
  rw [this]
  simp [hi]
theorem draw_ok {n l b : Nat} {many : Int} {s : Sto} {E : Nat → Sto → Prop} (H : Hand s l b) (hm : 0 < many) (hb : bits many < 9000) (hB : b < 1000000000) :
    Ok (callF T (n + 1) ix__law_draw [.loc l, .p (.int many)] s) (fun d s' => ∃ v h', d = .p (.int v) ∧ 0 ≤ v ∧ v < many ∧ s' = s.set l (HV.mo h') ∧ h'.ok (b + 1)) E := by
  obtain ⟨h, hs, ho⟩ := H.ex
  have hl : l < s.length := (List.getElem?_eq_some_iff.mp hs).1
  refine ok_call (fn := c__law_draw) rfl rfl fun c hc => ?_
  simp only [c__law_draw]
  have e0 : s = s.set l h.mo := (set_same hs).symm
  obtain ⟨cells, i, j, k, m⟩ := h
  have ⟨hc1, hi, hj, hk, hm2⟩ := ho
  simp only at hc1 hi hj hk hm2
  have hs' : s[l]? = some (.lst [.lst (cells.map .int), .int i, .int j, .int k, .int m]) := hs
  simp only [EV.start]
  rw [okS_seq]
  refine OkS.imp (Q := fun f s1 => ∃ h' u, f = .nx [some (.loc l), some (.p (.int many)), u, none, none] ∧ s1 = s.set l (HV.mo h') ∧ h'.ok b) ?_ ?_
  · simp [ok_ixL hs']
    refine ⟨fun hj0 => ⟨fun hlt => ?_, fun hge => ?_⟩, fun hj0 => ?_⟩
    · obtain ⟨z, hz, ez⟩ := ixP_int hi hlt
      obtain ⟨hz0, hz1⟩ := hc1 z hz
      have hk1 := bits_small hk.1 hk.2
      have b1 : bits 69621 ≤ 60 := bits_big (by omega) (by omega)
      have b2 : bits 48271 ≤ 60 := bits_big (by omega) (by omega)
      have m1 := mulP_ok (i := k) (j := 69621) (by omega)
      have m2 := mulP_ok (i := z) (j := 48271) (by omega)
      simp [ez, set1 hs', ok_ixL hs', ok_ixS hl, m1, m2, modP_ok, set3S hl, set2S hl]
      have hmod := Int.emod_nonneg (k * 69621 + z * 48271 + 29) (b := 2147483629) (by omega)
      have hmod2 := Int.emod_lt_of_pos (k * 69621 + z * 48271 + 29) (b := 2147483629) (by omega)
      refine ⟨fun _ => ⟨⟨cells, i + 1, z, _, m⟩, rfl, hc1, by simp only; omega, hz0, ⟨hmod, by simp only; omega⟩, hm2⟩, fun _ => ⟨⟨cells, i + 1, j, _, m⟩, rfl, hc1, by simp only; omega, hj, ⟨hmod, by simp only; omega⟩, hm2⟩⟩
    · exact ⟨_, e0, ho⟩
    · exact ⟨_, e0, ho⟩
  · rintro f s1 ⟨h', u, rfl, rfl, ho'⟩
    simp only
    clear e0 hs' hs ho hc1 hi hj hk hm2
    obtain ⟨cells, i, j, k, m⟩ := h'
    obtain ⟨hc1, hi, hj, hk, hm2⟩ := ho'
    simp only at hc1 hi hj hk hm2
    have b1 : bits 7919 ≤ 60 := bits_big (by omega) (by omega)
    have b2 : bits 40692 ≤ 60 := bits_big (by omega) (by omega)
    have b3 : bits 1009 ≤ 60 := bits_big (by omega) (by omega)
    have b4 : bits 2003 ≤ 60 := bits_big (by omega) (by omega)
    have b5 : bits 16 ≤ 60 := bits_big (by omega) (by omega)
    have b6 : bits (m + 1) ≤ 60 := bits_big (by omega) (by omega)
    have m1 := mulP_ok (i := 7919) (j := m + 1) (by omega)
    have b7 : bits (k + 7919 * (m + 1)) ≤ 60 := bits_big (by omega) (by omega)
    have m2 := mulP_ok (i := k + 7919 * (m + 1)) (j := 40692) (by omega)
    simp only [HV.mo]
    simp [ok_ixS hl, divP_ok, modP_ok, hm, hb, set2S hl, set4S hl, m1, m2]
    have ht : ∀ o : MO, List.take s.length (s.set l o) = s.set l o := fun o => List.take_of_length_le (by simp)
    refine ⟨fun hj1 => ⟨Int.emod_nonneg _ (by omega), Int.emod_lt_of_pos _ hm, ⟨cells, i, j / many, k, m⟩, ht _, hc1, hi, Int.ediv_nonneg hj (by omega), hk, by simp only; omega⟩, fun _ => ?_⟩
    have d1 : ∀ i, divP (.int i) (.int 1009) = some (.int (i / 1009)) := fun i => divP_ok (by omega) (by omega)
    have d2 : ∀ i, divP (.int i) (.int 2003) = some (.int (i / 2003)) := fun i => divP_ok (by omega) (by omega)
    have d3 : ∀ i, divP (.int i) (.int 16) = some (.int (i / 16)) := fun i => divP_ok (by omega) (by omega)
    have hA0 := Int.emod_nonneg ((k + 7919 * (m + 1)) * 40692) (b := 2147483647) (by omega)
    have hA1 := Int.emod_lt_of_pos ((k + 7919 * (m + 1)) * 40692) (b := 2147483647) (by omega)
    generalize (k + 7919 * (m + 1)) * 40692 % 2147483647 = A at hA0 hA1 ⊢
    have a1 := bits_small hA0 (by omega)
    have a2 : bits (A / 1009 + 69621) ≤ 60 := bits_big (by omega) (by omega)
    have m3 := mulP_ok (i := A) (j := A / 1009 + 69621) (by omega)
    have hC0 := Int.emod_nonneg (A * (A / 1009 + 69621)) (b := 2147483647) (by omega)
    have hC1 := Int.emod_lt_of_pos (A * (A / 1009 + 69621)) (b := 2147483647) (by omega)
    simp [d1, m3, modP_ok]
    generalize A * (A / 1009 + 69621) % 2147483647 = C at hC0 hC1 ⊢
    have a3 := bits_small hC0 (by omega)
    have a4 : bits (C / 2003 + 40014) ≤ 60 := bits_big (by omega) (by omega)
    have m4 := mulP_ok (i := C) (j := C / 2003 + 40014) (by omega)
    simp [d2, m4, modP_ok, d3, hm]
    exact ⟨Int.emod_nonneg _ (by omega), Int.emod_lt_of_pos _ hm, ⟨cells, i, j, k, m + 1⟩, ht _, hc1, hi, hj, hk, by simp only; omega⟩
end K07
end
section
namespace K07
open PySem EV MG
/-- the hand at l, asked at most b times -/
def HS (s : Sto) (l b : Nat) (s' : Sto) : Prop := ∃ h' : HV, s' = s.set l h'.mo ∧ h'.ok b
theorem HS.hand {s s' : Sto} {l b : Nat} (hl : l < s.length) (h : HS s l b s') : Hand s' l b := by
  obtain ⟨h', rfl, ho⟩ := h
  exact ⟨h', by simp [hl], ho⟩
theorem HS.len {s s' : Sto} {l b : Nat} (h : HS s l b s') : s'.length = s.length := by
  obtain ⟨h', rfl, ho⟩ := h
  simp
theorem HS.trans {s s' s2 : Sto} {l b b2 : Nat} (h : HS s l b s') (h2 : HS s' l b2 s2) : HS s l b2 s2 := by
  obtain ⟨h', rfl, ho⟩ := h
  obtain ⟨h'', rfl, ho'⟩ := h2
  exact ⟨h'', by simp, ho'⟩
theorem HS.other {s s' : Sto} {l b i : Nat} (h : HS s l b s') (hi : i ≠ l) : s'[i]? = s[i]? := by
  obtain ⟨h', rfl, ho⟩ := h
  rw [List.getElem?_set]
  simp [Ne.symm hi]
theorem Hand.lt {s : Sto} {l b : Nat} (H : Hand s l b) : l < s.length := by
  obtain ⟨h, hs, _⟩ := H.ex
  exact (List.getElem?_eq_some_iff.mp hs).1
theorem Hand.refl {s : Sto} {l b : Nat} (H : Hand s l b) : HS s l b s := by
  obtain ⟨h, hs, ho⟩ := H.ex
  exact ⟨h, (set_same hs).symm, ho⟩
theorem HV.ok.mono {h : HV} {b b' : Nat} (o : h.ok b) (hb : b ≤ b') : h.ok b' := ⟨o.cells, o.i, o.j, o.k, o.m.1, by have := o.m.2; omega⟩
theorem Hand.mono {s : Sto} {l b b' : Nat} (H : Hand s l b) (hb : b ≤ b') : Hand s l b' := by
  obtain ⟨h, hs, ho⟩ := H.ex
  exact ⟨h, hs, ho.mono hb⟩
theorem HS.mono {s s' : Sto} {l b b' : Nat} (h : HS s l b s') (hb : b ≤ b') : HS s l b' s' := by
  obtain ⟨h', e, ho⟩ := h
  exact ⟨h', e, ho.mono hb⟩
theorem bits_nat {k : Nat} (h : k < 100000000) : bits (k : Int) < 9000 := by
  have : bits (k : Int) ≤ 60 := bits_big (by omega) (by omega)
  omega
theorem draw {n l b : Nat} {many : Int} {s : Sto} {Q : D → Sto → Prop} {E : Nat → Sto → Prop} (H : Hand s l b) (hm : 0 < many) (hb : bits many < 9000) (hB : b < 1000000000) (hq : ∀ v s', 0 ≤ v → v < many → HS s l (b + 1) s' → Q (.p (.int v)) s') : Ok (callF T (n + 1) ix__law_draw [.loc l, .p (.int many)] s) Q E := by
  refine (draw_ok H hm hb hB).imp fun d s' h => ?_
  obtain ⟨v, h', rfl, h0, h1, h2, h3⟩ := h
  exact hq v s' h0 h1 ⟨h', h2, h3⟩
theorem ixL_nn {xs : List P} {v : Int} (h0 : 0 ≤ v) (h : v < xs.length) : ∃ x ∈ xs, ixP (.lst xs) (.int v) = some x := by
  have hi : v.toNat < xs.length := by omega
  refine ⟨xs[v.toNat], List.getElem_mem hi, ?_⟩
  have e : (v.toNat : Int) = v := by omega
  have := ixP_natL (xs := xs) (i := v.toNat) hi
  rw [e] at this
  rw [this]
  simp [hi]
theorem any_ok {n l b : Nat} {xs : List P} {s : Sto} {Q : D → Sto → Prop} {E : Nat → Sto → Prop} (H : Hand s l b) (hx : xs ≠ []) (hn : xs.length < 10000) (hB : b < 1000000000) (hq : ∀ x s', x ∈ xs → HS s l (b + 1) s' → Q (.p x) s') : Ok (callF T (n + 2) ix__law_any [.loc l, .p (.lst xs)] s) Q E := by
  refine ok_call (fn := c__law_any) rfl rfl fun c hc => ?_
  simp [c__law_any, EV.start, hc]
  have hp : 0 < xs.length := List.length_pos_iff.mpr hx
  refine draw H (by omega) (bits_nat (by omega)) hB fun v s' h0 h1 h2 => ?_
  obtain ⟨x, hm, e⟩ := ixL_nn h0 h1
  simp [e]
  have ht : List.take s.length s' = s' := List.take_of_length_le (by rw [h2.len]; exact Nat.le_refl _)
  rw [ht]
  exact hq x s' hm h2
theorem HS.app {s1 t s' : Sto} {l b : Nat} (hl : l < s1.length) (h : HS (s1 ++ t) l b s') : ∃ s1', s' = s1' ++ t ∧ HS s1 l b s1' := by
  obtain ⟨h', rfl, ho⟩ := h
  exact ⟨s1.set l h'.mo, by rw [List.set_append_left _ _ hl], h', rfl, ho⟩
theorem Hand.app {s1 t : Sto} {l b : Nat} (H : Hand s1 l b) : Hand (s1 ++ t) l b := by
  obtain ⟨h, hs, ho⟩ := H.ex
  have := (List.getElem?_eq_some_iff.mp hs).1
  exact ⟨h, by rw [List.getElem?_append_left this]; exact hs, ho⟩
theorem draw_app {n l b : Nat} {many : Int} {s t : Sto} {Q : D → Sto → Prop} {E : Nat → Sto → Prop} (H : Hand s l b) (hm : 0 < many) (hb : bits many < 9000) (hB : b < 1000000000) (hq : ∀ v s', 0 ≤ v → v < many → HS s l (b + 1) s' → Q (.p (.int v)) (s' ++ t)) : Ok (callF T (n + 1) ix__law_draw [.loc l, .p (.int many)] (s ++ t)) Q E := by
  refine draw H.app hm hb hB fun v s' h0 h1 h2 => ?_
  obtain ⟨s1, rfl, h3⟩ := h2.app H.lt
  exact hq v s1 h0 h1 h3
theorem take_hs {s s' : Sto} {l b : Nat} (h : HS s l b s') : List.take s.length s' = s' := List.take_of_length_le (by rw [h.len]; exact Nat.le_refl _)
theorem take_hsA {s s' t : Sto} {l b : Nat} (h : HS s l b s') : List.take s.length (s' ++ t) = s' := by
  rw [← h.len, List.take_left']
  rfl
theorem any_app {n l b : Nat} {xs : List P} {s t : Sto} {Q : D → Sto → Prop} {E : Nat → Sto → Prop} (H : Hand s l b) (hx : xs ≠ []) (hn : xs.length < 10000) (hB : b < 1000000000) (hq : ∀ x s', x ∈ xs → HS s l (b + 1) s' → Q (.p x) (s' ++ t)) : Ok (callF T (n + 2) ix__law_any [.loc l, .p (.lst xs)] (s ++ t)) Q E := by
  refine any_ok H.app hx hn hB fun x s' hx k => ?_
  obtain ⟨s1, rfl, h3⟩ := k.app H.lt
  exact hq x s1 hx h3
theorem hs_get {s s' : Sto} {l b : Nat} {o : MO} (h : HS s l b s') : (s' ++ [o])[s.length]? = some o := by rw [← h.len]; simp
theorem hs_set {s s' : Sto} {l b : Nat} {o o' : MO} (h : HS s l b s') : (s' ++ [o]).set s.length o' = s' ++ [o'] := by rw [← h.len]; simp
end K07
end
section
namespace K07
open PySem EV MG
def absI (i : Int) : Int := if i < 0 then -i else i
theorem bits_abs {i : Int} : bits (absI i) = bits i := by
  unfold absI bits
  split <;> simp
theorem hand_ok {n : Nat} {ns : List Int} (hl : ns.length ≤ 63) (hb : ∀ z ∈ ns, Builtin.Int.intBits z ≤ 1048576) : ∃ h : HV, callF T (n + 1) ix__law_hand [scr ns] [] = .ok (.loc 0) [h.mo] ∧ h.ok 0 := by
  refine ⟨⟨ns.map absI, 0, 0, 743 + 29 * ns.length, 0⟩, Ok.eq (ok_call (fn := c__law_hand) rfl rfl fun c hc => ?_), ⟨fun z hz => ?_, by simp, by simp, by simp only; omega, by simp⟩⟩
  · simp only [c__law_hand, scr]
    have hcut : cut (ns.map P.int) none (some 63) = ns.map P.int := by
      rw [show (63 : Int) = ((63 : Nat) : Int) from rfl, cut_to]
      exact List.take_of_length_le (by simpa using hl)
    simp [EV.start, hcut]
    refine ok_lcM (fun x => match x with | .int i => .int (absI i) | _ => .non) rfl (by rw [List.length_map]; unfold L; omega) (fun x hx => ?_) ?_
    · obtain ⟨i, _, rfl⟩ := List.mem_map.mp hx
      simp [b1P, absI]
    · have b1 : bits 29 ≤ 60 := bits_big (by omega) (by omega)
      have b2 : bits (ns.length : Int) ≤ 60 := bits_big (by omega) (by omega)
      have m1 := mulP_ok (i := 29) (j := ns.length) (by omega)
      simp [m1, L, retF, HV.mo, Function.comp_def]
  · obtain ⟨i, hi, rfl⟩ := List.mem_map.mp hz
    refine ⟨by unfold absI; split <;> omega, ?_⟩
    rw [bits_abs]
    have h1 := hb i hi
    unfold Builtin.Int.intBits at h1
    unfold bits
    split at h1
    · rename_i h0
      have : i = 0 := by simpa using h0
      subst this
      simp
    · omega
end K07
end
section
namespace K07
open PySem EV MG
theorem merged_ok {n : Nat} {e : Option Int} {as : MG.St} {s : Sto} (hl : as.length ≤ 1000) : callF T (n + 1) ix__law_merged [.p (.tup (as.map encS)), .p (encE e)] s = .ok (.p (encT (merge e as, e))) s := put_ok rfl hl
end K07
end
section
namespace K07
open PySem EV MG
/-- _law_is of truth values, of None and ints -/
theorem is_bl {n : Nat} {a b : Bool} {s : Sto} : callF T (n + 1) ix__law_is [.p (.bl a), .p (.bl b)] s = .ok (.p (.bl (a == b))) s := by
  refine Ok.eq (ok_call (fn := c__law_is) rfl rfl fun c hc => ?_)
  simp [c__law_is, EV.start, hc, isiP]
theorem is_int {n : Nat} {a b : Int} {s : Sto} : callF T (n + 1) ix__law_is [.p (.int a), .p (.int b)] s = .ok (.p (.bl (a == b))) s := by
  refine Ok.eq (ok_call (fn := c__law_is) rfl rfl fun c hc => ?_)
  simp [c__law_is, EV.start, hc, isiP]
theorem is_non {n : Nat} {s : Sto} : callF T (n + 1) ix__law_is [.p .non, .p .non] s = .ok (.p (.bl true)) s := by
  refine Ok.eq (ok_call (fn := c__law_is) rfl rfl fun c hc => ?_)
  simp [c__law_is, EV.start, hc, isiP]
/-- a thing is itself -/
inductive Pl : Nat → P → Prop
  | non (k : Nat) : Pl k .non
  | bl (k : Nat) (b : Bool) : Pl k (.bl b)
  | int (k : Nat) (i : Int) : Pl k (.int i)
  | tup (k : Nat) (xs : List P) : xs.length ≤ 1000 → (∀ x ∈ xs, Pl k x) → Pl (k + 1) (.tup xs)
  | lst (k : Nat) (xs : List P) : xs.length ≤ 1000 → (∀ x ∈ xs, Pl k x) → Pl (k + 1) (.lst xs)
theorem zipT_self : ∀ {xs : List P} {z : P}, z ∈ zipT xs xs → ∃ x ∈ xs, z = .tup [x, x]
  | [], z, h => by simp [zipT] at h
  | x :: xs, z, h => by
    simp only [zipT, List.mem_cons] at h
    rcases h with rfl | h
    · exact ⟨x, by simp, rfl⟩
    · obtain ⟨y, hy, e⟩ := zipT_self h
      exact ⟨y, by simp [hy], e⟩
theorem is_self : ∀ {n k : Nat} {x : P} {s : Sto}, Pl k x → callF T (n + k + 1) ix__law_is [.p x, .p x] s = .ok (.p (.bl true)) s := fun {n k x s} h => by
  induction h generalizing s with
  | non k => exact is_non
  | bl k b => rw [is_bl]; simp
  | int k b => rw [is_int]; simp
  | tup k xs hl hx ih =>
    refine Ok.eq (ok_call (fn := c__law_is) rfl rfl fun c hc => ?_)
    simp [c__law_is, EV.start, hc, isiP]
    refine ok_lcM (fun _ => .bl true) rfl (Nat.le_trans zipT_len (by unfold L; omega)) (fun z hz => ?_) ?_
    · obtain ⟨y, hy, rfl⟩ := zipT_self hz
      have := ih y hy (s := s)
      rw [show n + k + 1 = n + (k + 1) from by omega] at this
      simp [hc, this]
    · simp [all_map (f := fun _ => true)]
  | lst k xs hl hx ih =>
    refine Ok.eq (ok_call (fn := c__law_is) rfl rfl fun c hc => ?_)
    simp [c__law_is, EV.start, hc, isiP]
    refine ok_lcM (fun _ => .bl true) rfl (Nat.le_trans zipT_len (by unfold L; omega)) (fun z hz => ?_) ?_
    · obtain ⟨y, hy, rfl⟩ := zipT_self hz
      have := ih y hy (s := s)
      rw [show n + k + 1 = n + (k + 1) from by omega] at this
      simp [hc, this]
    · simp [all_map (f := fun _ => true)]
end K07
end
section
namespace K07
open PySem EV MG
open MG
/-- lists of numbers -/
theorem mulL {xs : List P} {k : Int} (h : xs.length ≤ 1000) (h0 : 0 ≤ k) (h1 : k ≤ 1000) : mulP (.lst xs) (.int k) = some (.lst (List.replicate k.toNat xs).flatten) := by
  have a1 : xs.length * k.toNat ≤ 1000 * 1000 := Nat.mul_le_mul h (by omega)
  have a2 : xs.length * k.toNat ≤ L := by unfold L; omega
  simp only [mulP]
  rw [if_pos ⟨a2, by omega, by omega⟩]
theorem rep1 {α : Type} (a : α) (k : Nat) : (List.replicate k [a]).flatten = List.replicate k a := by
  induction k with
  | zero => rfl
  | succ k ih => rw [List.replicate_succ, List.replicate_succ, List.flatten_cons, ih]; rfl
theorem flat_int (k : Nat) (l : List Int) : (List.replicate k (l.map P.int)).flatten = ((List.replicate k l).flatten).map .int := by
  induction k with
  | zero => rfl
  | succ k ih => rw [List.replicate_succ, List.replicate_succ, List.flatten_cons, List.flatten_cons, List.map_append, ih]
theorem zip_int : ∀ (f g : List Int), zipT (f.map .int) (g.map .int) = (List.zip f g).map fun q => P.tup [.int q.1, .int q.2]
  | [], _ => rfl
  | _ :: _, [] => rfl
  | a :: f, b :: g => by simp only [List.map_cons, zipT, zip_int f g, List.zip_cons_cons]
theorem zip_add : ∀ (f g : List Int), (List.zip f g).map (fun q => q.1 + q.2) = List.zipWith (· + ·) f g
  | [], _ => rfl
  | _ :: _, [] => rfl
  | a :: f, b :: g => by simp [zip_add f g]
theorem lay_li {l : List Int} {k : Nat} : P.lay (k + 1) (.lst (l.map .int)) = true := by
  simp only [P.lay]
  rw [layL_all, List.all_eq_true]
  intro x hx
  obtain ⟨a, _, rfl⟩ := List.mem_map.mp hx
  simp [P.lay]
theorem peqL_self : ∀ l : List Int, P.peqL (l.map .int) (l.map .int) = true
  | [] => by simp [P.peqL]
  | x :: l => by simp [P.peqL, P.peq, peqL_self l]
theorem eq_ints {l m : List Int} (h : l = m) : eqP (.lst (l.map .int)) (.lst (m.map .int)) = some true := by
  subst h
  rw [eqP_lay (lay_li (k := 63)) (lay_li (k := 63))]
  simp only [P.peq, peqL_self]
theorem pcS_len {n : Nat} {A : Sr} : (pcS n A).length ≤ n := pc_len
theorem pl_encE {k : Nat} : ∀ {e : Option Int}, Pl k (encE e)
  | none => .non k
  | some i => .int k i
theorem pl_encT {A : Sr} (h : A.1.length ≤ 1000) : Pl 3 (encT A) := .tup 2 _ (by simp) fun x hx => by
  simp at hx
  rcases hx with rfl | rfl
  · refine .tup 1 _ (by simpa using h) fun y hy => ?_
    obtain ⟨a, _, rfl⟩ := List.mem_map.mp hy
    refine .tup 0 _ (by simp) fun z hz => ?_
    simp at hz
    rcases hz with rfl | rfl <;> exact .int _ _
  · exact pl_encE
theorem is_encT {n : Nat} {A : Sr} {s : Sto} (h : A.1.length ≤ 1000) : callF T (n + 4) ix__law_is [.p (encT A), .p (encT A)] s = .ok (.p (.bl true)) s := is_self (n := n) (k := 3) (pl_encT h)
theorem is_encT2 {n : Nat} {A B : Sr} {s : Sto} (h : A.1.length ≤ 1000) (h2 : B.1.length ≤ 1000) : callF T (n + 5) ix__law_is [.p (.lst [encT A, encT B]), .p (.lst [encT A, encT B])] s = .ok (.p (.bl true)) s := is_self (n := n) (k := 4) (.lst 3 _ (by simp) fun x hx => by
  simp at hx
  rcases hx with rfl | rfl
  · exact pl_encT h
  · exact pl_encT h2)
end K07
end
section
namespace K07
open PySem EV MG
open MG
theorem times_keep {m : Int} {A : Sr} (h1 : 1 ≤ m) (g : Gs A) : merge (A.2.map (m * ·)) (A.1.map fun a => (a.1, m * a.2)) = A.1.map fun a => (a.1, m * a.2) := by
  have gt := times_gs h1 g
  refine merge_id gt.va.asc fun a ha => ?_
  cases e : A.2 with
  | none => rfl
  | some i =>
    have := (gt.va.en (m * i) (by simp [timesS, e])).2 a ha
    simp [keep, this]
theorem law_times_ok {n k : Nat} {A : Sr} {m : Int} {s : Sto} (g : Gs A) (b : Bk k A) (h1 : 1 ≤ m) (h2 : m ≤ 10 ^ 30) (hk : k < 90000000) (hl : A.1.length ≤ 1000) : callF T (n + 2) ix__law_times [.p (encT A), .p (.int m)] s = .ok (.p (encT (timesS m A))) s := by
  refine Ok.eq (ok_call (fn := c__law_times) rfl rfl fun c hc => ?_)
  replace hc : c.C = callF T (n + 1) := hc
  have hm : m ≤ 2 ^ 100 := Int.le_trans h2 (by decide)
  have hb := bits_le (k := 100) (i := m) (by omega) hm
  have e1 := fun s => merged_ok (n := n) (e := A.2.map (m * ·)) (as := A.1.map fun a => (a.1, m * a.2)) (s := s) (by rw [List.length_map]; exact hl)
  rw [times_keep h1 g] at e1
  simp only [c__law_times]
  simp [encT]
  refine ok_lcM (fun y => match y with | .tup [.int a, .int t] => .tup [.int a, .int (m * t)] | _ => .non) rfl (by rw [List.length_map]; unfold L; omega) (fun y hy => ?_) ?_
  · obtain ⟨a, ha, rfl⟩ := List.mem_map.mp hy
    have h3 := g.va.pos a ha
    have h4 := b.st a ha
    have hb2 := bits_le (k := k) (i := a.2) (by omega) h4.2
    simp [encS, mulP_ok (i := m) (j := a.2) (by omega)]
  · have em : (A.1.map encS).map (fun y => match y with | .tup [.int a, .int t] => P.tup [.int a, .int (m * t)] | _ => .non) = (A.1.map fun a => (a.1, m * a.2)).map encS := by
      simp [encS]
    rw [em]
    cases e : A.2 with
    | none =>
      simp [e] at e1
      simp [hc, e1, timesS, e, encT]
    | some i =>
      have h4 := b.en i e
      have h5 := (g.va.en i e).1
      have hb2 := bits_le (k := k) (i := i) (by omega) h4
      simp [e] at e1
      simp [hc, mulP_ok (i := m) (j := i) (by omega), e1, timesS, e, encT]
theorem law_copies_ok {n k : Nat} {A : Sr} {m : Int} {s : Sto} (g : Gs A) (b : Bk k A) (h1 : 1 ≤ m) (h2 : m ≤ 10 ^ 30) (hk : k < 90000000) (hl : A.1.length ≤ 1000) : callF T (n + 2) ix__law_copies [.p (encT A), .p (.int m)] s = .ok (.p (encT (copyS m A))) s := by
  refine Ok.eq (ok_call (fn := c__law_copies) rfl rfl fun c hc => ?_)
  replace hc : c.C = callF T (n + 1) := hc
  have hm : m ≤ 2 ^ 100 := Int.le_trans h2 (by decide)
  have hb := bits_le (k := 100) (i := m) (by omega) hm
  simp only [c__law_copies]
  simp [encT]
  refine ok_lcM (fun y => match y with | .tup [.int a, .int t] => .tup [.int (m * a), .int t] | _ => .non) rfl (by rw [List.length_map]; unfold L; omega) (fun y hy => ?_) ?_
  · obtain ⟨a, ha, rfl⟩ := List.mem_map.mp hy
    have h3 := g.va.pos a ha
    have h4 := b.st a ha
    have hb2 := bits_le (k := k) (i := a.1) (by omega) h4.1
    simp [encS, mulP_ok (i := m) (j := a.1) (by omega)]
  · simp [copyS, encS]
theorem times_no1 {n : Nat} {x : P} {y : D} {s : Sto} (w : Wf x) (h : (stair x).isSome = false) : callF T (n + 8) ix_times [.p x, y] s = .exn cl_BadStair none s := by
  refine eqx (ok_call (fn := c_times) rfl rfl fun c hc => ?_)
  simp [c_times, hc, fun s => chk_no (n := n) (s := s) w h]
theorem copies_no1 {n : Nat} {x : P} {y : D} {s : Sto} (w : Wf x) (h : (stair x).isSome = false) : callF T (n + 8) ix_copies [.p x, y] s = .exn cl_BadStair none s := by
  refine eqx (ok_call (fn := c_copies) rfl rfl fun c hc => ?_)
  simp [c_copies, hc, fun s => chk_no (n := n) (s := s) w h]
theorem times_no2 {n : Nat} {A : Sr} {x : P} {s : Sto} (g : Gs A) (hl : A.1.length ≤ 1000) (h : isFn x = false) (hx : (isInt x && (decide (1 ≤ intOf x) && decide (intOf x ≤ 1000000000000000000000000000000))) = false) : callF T (n + 8) ix_times [.p (encT A), .p x] s = .exn cl_NoNumber none s := by
  refine eqx (ok_call (fn := c_times) rfl rfl fun c hc => ?_)
  simp [c_times, hc, fun s => chk_st (n := n) (s := s) g hl, fun s => chk_times_no (n := n + 3) (s := s) h hx]
theorem copies_no2 {n : Nat} {A : Sr} {x : P} {s : Sto} (g : Gs A) (hl : A.1.length ≤ 1000) (h : isFn x = false) (hx : (isInt x && (decide (1 ≤ intOf x) && decide (intOf x ≤ 1000000000000000000000000000000))) = false) : callF T (n + 8) ix_copies [.p (encT A), .p x] s = .exn cl_NoNumber none s := by
  refine eqx (ok_call (fn := c_copies) rfl rfl fun c hc => ?_)
  simp [c_copies, hc, fun s => chk_st (n := n) (s := s) g hl, fun s => chk_times_no (n := n + 3) (s := s) h hx]
end K07
end
section
namespace K07
open PySem EV MG
def stepE (j : Nat) : ME := eTup (aCons (eOp addP (eC (.int 1)) (eCall ix__law_draw (aCons (eVar 0) (aCons (eVar j) aNil)))) (aCons (eCall ix__law_draw (aCons (eVar 0) (aCons (eVar j) aNil))) aNil))
theorem steps_lc {c : Cl} {n l b i j : Nat} {size : Int} {σ : Sg} {s : Sto} {all xs : List P} {Q : List P → Sto → Prop} {E : Nat → Sto → Prop} (hc : c.C = callF T (n + 1)) (H : Hand s l b) (hs0 : 0 < size) (hsb : bits size < 9000)
    (h0 : ∀ z, slotO (σ.set i (some z))[0]? = some (.loc l)) (hj : ∀ z, slotO (σ.set i (some z))[j]? = some (.p (.int size))) (hx : xs.length ≤ 1000) (hB : b + 2 * xs.length < 1000000000)
    (hq : ∀ (as : MG.St) s', as.length = xs.length → (∀ a ∈ as, 1 ≤ a.1 ∧ a.1 ≤ size ∧ 0 ≤ a.2 ∧ a.2 < size) → HS s l (b + 2 * xs.length) s' → Q (as.map encS) s') : Ok (lcT c (gN i) tYes (stepE j) σ all none xs [] s) Q E := by
  refine ok_lcT (fun rem acc s' => ∃ as, acc = as.map encS ∧ as.length + rem.length = xs.length ∧ (∀ a ∈ as, 1 ≤ a.1 ∧ a.1 ≤ size ∧ 0 ≤ a.2 ∧ a.2 < size) ∧ HS s l (b + 2 * as.length) s') ⟨[], rfl, by simp, by simp, by simpa using H.refl⟩ ?_ ?_
  · rintro x r acc s' ⟨as, rfl, h1, h2, h3⟩
    refine ⟨rfl, ?_⟩
    simp only [List.length_cons] at h1
    simp [stepE, h0, hj, hc]
    refine draw (h3.hand H.lt) hs0 hsb (by omega) fun v s1 v0 v1 k1 => ?_
    simp [h0, hj, hc]
    refine draw ((h3.trans k1).hand H.lt) hs0 hsb (by omega) fun u s2 u0 u1 k2 => ?_
    simp [L]
    refine ⟨_, _, ⟨rfl, rfl⟩, by omega, as ++ [(1 + v, u)], by simp [encS], by simp; omega, ?_, ?_⟩
    · intro a a' ha
      rcases List.mem_append.mp ha with ha | ha
      · exact h2 _ ha
      · cases List.mem_singleton.mp ha
        omega
    · have := (h3.trans k1).trans k2
      simpa [Nat.mul_add, Nat.add_assoc] using this
  · rintro acc s' ⟨as, rfl, h1, h2, h3⟩
    refine ⟨rfl, hq as s' (by simpa using h1) h2 (h3.mono ?_)⟩
    simp at h1
    omega
/-- a stair as it is to be, of at most m steps -/
structure GT (m : Nat) (st : MG.St × Option Int) : Prop where
  asc : MG.AscS st.1
  len : st.1.length ≤ m
  am : ∀ a ∈ st.1, 1 ≤ a.1 ∧ a.1 ≤ 10 ^ 62 ∧ 0 ≤ a.2 ∧ a.2 ≤ 10 ^ 62
  ne : st.2 = none → st.1 ≠ []
  en : ∀ i, st.2 = some i → 1 ≤ i ∧ i ≤ 10 ^ 62 ∧ ∀ a ∈ st.1, a.2 < i
theorem GT.stair {m : Nat} {st : MG.St × Option Int} (g : GT m st) : stair (encT st) = some st := by
  obtain ⟨as, e⟩ := st
  have hp := stps_of (as := as) fun a ha => ⟨(g.am a ha).1, (g.am a ha).2.2.1⟩
  unfold encT K07.stair
  simp only [hp, ascB_of g.asc, if_true]
  cases e with
  | none =>
    have := g.ne rfl
    simp only [encE]
    rw [if_neg this]
  | some i =>
    obtain ⟨h1, _, h2⟩ := g.en i rfl
    simp only [encE]
    rw [if_pos ⟨h1, fun a ha => h2 a (List.mem_of_getLast? ha)⟩]
theorem sumT_le {M t : Int} (hM : 0 ≤ M) : ∀ {as : MG.St}, (∀ a ∈ as, 0 ≤ a.1 ∧ a.1 ≤ M) → 0 ≤ MG.sumT t as ∧ MG.sumT t as ≤ as.length * M
  | [], _ => by simp [MG.sumT]
  | a :: as, h => by
    obtain ⟨h1, h2⟩ := sumT_le (t := t) hM (as := as) fun b hb => h b (by simp [hb])
    have ha := h a (by simp)
    have e : MG.sumT t (a :: as) = (if a.2 = t then a.1 else 0) + MG.sumT t as := by
      unfold MG.sumT
      by_cases e : a.2 = t <;> simp [e]
    rw [e]
    have e2 : ((a :: as).length : Int) * M = M + as.length * M := by
      simp only [List.length_cons, Int.natCast_add, Int.add_mul]
      omega
    rw [e2]
    by_cases e : a.2 = t
    · rw [if_pos e]; omega
    · rw [if_neg e]; omega
theorem GT.merge {m : Nat} {as : MG.St} {e : Option Int} {size : Int} (hl : as.length ≤ m) (hm : m ≤ 50) (hs : 0 ≤ size ∧ size ≤ 10 ^ 60) (ha : ∀ a ∈ as, 1 ≤ a.1 ∧ a.1 ≤ size ∧ 0 ≤ a.2 ∧ a.2 < size) (he : ∀ i, e = some i → 1 ≤ i ∧ i ≤ size) (hn : ¬ (MG.merge e as = [] ∧ e = none)) : GT m (MG.merge e as, e) where
  asc := MG.merge_asc e as
  len := by
    have h1 : (MG.keysD (as.filter fun a => MG.keep e a.2)).length ≤ as.length := Nat.le_trans (MG.keysD_len _) (List.length_filter_le _ _)
    have h2 := (isort_perm (MG.keysD (as.filter fun a => MG.keep e a.2))).length_eq
    simp only [MG.merge, List.length_map]
    omega
  am := fun a h => by
    obtain ⟨h1, h2, b, hb, h3⟩ := MG.merge_mem h
    have hpos : 1 ≤ a.1 := by
      rw [h2]
      refine MG.sumT_pos (fun c hc => (ha c ((List.mem_filter.mp hc).1)).1) ⟨b, List.mem_filter.mpr ⟨hb, ?_⟩, h3⟩
      rw [h3]; exact h1
    have hle := (sumT_le (M := size) (t := a.2) hs.1 (as := as.filter fun a => MG.keep e a.2) fun c hc => by
      have := ha c ((List.mem_filter.mp hc).1)
      omega).2
    rw [← h2] at hle
    have hlen : (as.filter fun a => MG.keep e a.2).length ≤ 50 := Nat.le_trans (List.length_filter_le _ _) (by omega)
    have hmul : ((as.filter fun a => MG.keep e a.2).length : Int) * size ≤ 50 * size := Int.mul_le_mul_of_nonneg_right (by omega) hs.1
    have := ha b hb
    rw [h3] at this
    refine ⟨hpos, ?_, by omega, by omega⟩
    have : (10 : Int) ^ 62 = 100 * 10 ^ 60 := by decide
    omega
  ne := fun h z => hn ⟨z, h⟩
  en := fun i h => by
    simp only at h
    have := he i h
    refine ⟨this.1, by omega, fun a ha => ?_⟩
    have := (MG.merge_mem ha).1
    rw [h] at this
    simpa [MG.keep] using this
theorem GT.one {m : Nat} (h : 1 ≤ m) : GT m ([(1, 0)], none) where
  asc := by simp [MG.AscS, MG.Asc]
  len := by simpa using h
  am := by simp
  ne := by simp
  en := by simp
theorem lay_enc {as : MG.St} {k : Nat} : P.layL (k + 1) (as.map encS) = true := by
  rw [layL_all, List.all_eq_true]
  intro x hx
  obtain ⟨a, _, rfl⟩ := List.mem_map.mp hx
  simp [encS, P.lay, P.layL]
theorem lay_encT {st : MG.St × Option Int} {k : Nat} : P.lay (k + 3) (encT st) = true := by
  obtain ⟨as, e⟩ := st
  have := lay_enc (as := as) (k := k)
  cases e <;> simp [encT, encE, P.lay, P.layL, this]
theorem peq_none {as : MG.St} {e : Option Int} : P.peq (encT (as, e)) (.tup [.tup [], .non]) = (as.isEmpty && e.isNone) := by
  cases as <;> cases e <;> simp [encT, encE, P.peq, P.peqL]
end K07
end
section
namespace K07
open PySem EV MG
theorem lawstair_draw {n l b most : Nat} {s : Sto} {Q : D → Sto → Prop} {E : Nat → Sto → Prop} (H : Hand s l b) (h1 : 1 ≤ most) (h2 : most ≤ 50) (hB : b < 900000000) (hq : ∀ st s', GT most st → HS s l (b + 300) s' → Q (.p (encT st)) s') : Ok (callF T (n + 3) ix__law_stair [.loc l, .p (.int most)] s) Q E := by
  refine ok_call (fn := c__law_stair) rfl rfl fun c hc => ?_
  simp only [c__law_stair]
  simp [EV.start, hc, L]
  refine any_ok H (by simp) (by simp) (by omega) fun x s1 hx k1 => ?_
  obtain ⟨size, rfl, hsz⟩ : ∃ size : Int, x = .int size ∧ 0 < size ∧ size ≤ 10 ^ 60 := by
    simp only [List.mem_cons, List.not_mem_nil, or_false] at hx
    rcases hx with rfl | rfl | rfl | rfl <;> exact ⟨_, rfl, by decide, by decide⟩
  have hsb : bits size < 9000 := bits_60 (by omega) (by omega)
  simp [hc]
  refine draw (k1.hand H.lt) (by omega) (bits_nat (k := most + 1) (by omega)) (by omega) fun v s2 v0 v1 k2 => ?_
  have hv : bnd v = true := by simp [bnd]; omega
  have rl : (rngL 0 v.toNat).length = v.toNat := by simp [rngL_len]
  simp [hv]
  refine steps_lc (n := n + 1) (l := l) (b := b + 1 + 1) (size := size) (j := 2) hc ((k1.trans k2).hand H.lt) hsz.1 hsb (fun z => by simp) (fun z => by simp) (by omega) (by omega) fun as s3 ha hb k3 => ?_
  have K3 := (k1.trans k2).trans k3
  simp [hc]
  refine draw (K3.hand H.lt) (by omega) hsb (by omega) fun w s4 w0 w1 k4 => ?_
  simp [hc]
  have K4 := K3.trans k4
  refine any_ok (K4.hand H.lt) (by simp) (by simp) (by omega) fun x s5 hx k5 => ?_
  have K5 := K4.trans k5
  obtain ⟨e, rfl, he⟩ : ∃ e : Option Int, x = encE e ∧ ∀ i, e = some i → 1 ≤ i ∧ i ≤ size := by
    simp only [List.mem_cons, List.not_mem_nil, or_false] at hx
    rcases hx with rfl | rfl | rfl
    · exact ⟨none, rfl, by simp⟩
    · exact ⟨none, rfl, by simp⟩
    · exact ⟨some (1 + w), rfl, by simp; omega⟩
  have hm : callF T (n + 2) ix__law_merged [.p (.lst (as.map encS)), .p (encE e)] s5 = .ok (.p (encT (MG.merge e as, e))) s5 := put_gen rfl (.inr rfl) (by omega)
  simp [hc, hm, L]
  have ln : P.lay 64 (.tup [.tup [], .non]) = true := by simp [P.lay, P.layL]
  rw [eqP_lay lay_encT ln, peq_none]
  have fin : HS s l (b + 300) s5 := K5.mono (by omega)
  simp
  refine ⟨fun h => ?_, fun h3 h4 => ?_⟩
  · rw [take_hs fin]
    refine hq _ s5 (GT.merge (size := size) (by omega) h2 ⟨by omega, hsz.2⟩ hb he fun z => ?_) fin
    obtain ⟨z1, rfl⟩ := z
    simp [z1] at h
  · rw [take_hs fin]
    exact hq ([(1, 0)], none) s5 (GT.one h1) fin
end K07
end
section
namespace K07
open PySem EV MG
open MG
theorem GT.gs {m : Nat} {st : Sr} (g : GT m st) : Gs st where
  va := ⟨g.asc, fun a ha => ⟨(g.am a ha).1, (g.am a ha).2.2.1⟩, fun i hi => ⟨(g.en i hi).1, (g.en i hi).2.2⟩⟩
  ne := g.ne
theorem GT.bk {m : Nat} {st : Sr} (g : GT m st) : Bk 1000 st := by
  have e : (10 : Int) ^ 62 ≤ 2 ^ 1000 := Int.le_trans (b := 2 ^ 210) (by decide) (pow_mono (by omega))
  exact ⟨fun a ha => ⟨Int.le_trans (g.am a ha).2.1 e, Int.le_trans (g.am a ha).2.2.2 e⟩, fun i hi => Int.le_trans (g.en i hi).2.1 e⟩
end K07
end
section
namespace K07
open PySem EV MG
open MG
def r7N (s : Sto) (l b : Nat) (rem acc : List P) (s' : Sto) : Prop := acc.length + rem.length = 2 ∧ (∀ y ∈ acc, ∃ v : Int, y = .int v ∧ 1 ≤ v ∧ v ≤ 10 ^ 30) ∧ HS s l (b + 3 * acc.length) s'
def r7F (l : Nat) (A : Sr) (n m few : Int) (s1 : Sto) (rem : List P) (σ : Sg) (s' : Sto) : Prop := ∃ (j : Nat) (v7 v8 : Option D), σ = [some (.loc l), some (.p (encT A)), some (.p (.int n)), some (.p (.int m)), some (.p (.int few)), some (.p (encT (timesS ((j : Int) + 1) A))), some (.p (encT (copyS ((j : Int) + 1) A))), v7, v8] ∧ s' = s1 ∧ (j : Int) + 1 + rem.length = few
theorem lenT {m : Int} {A : Sr} : (timesS m A).1.length = A.1.length := by simp [timesS]
theorem lenC {m : Int} {A : Sr} : (copyS m A).1.length = A.1.length := by simp [copyS]
theorem right7_ok {n l b : Nat} {A : Sr} {s : Sto} {Q : D → Sto → Prop} {E : Nat → Sto → Prop} (H : Hand s l b) (g : GT 6 A) (hB : b < 700000000) (hq : ∀ s', HS s l (b + 320) s' → Q (.p (.bl true)) s') : Ok (callF T (n + 20) ix__law_is_right [.loc l, .p (encT A)] s) Q E := by
  refine ok_call (fn := c__law_is_right) rfl rfl fun c hc => ?_
  replace hc : c.C = callF T (n + 19) := hc
  have hH := H.lt
  simp only [c__law_is_right]
  simp [EV.start, bnd]
  refine ok_lcT (r7N s l b) ⟨by rw [rngL_len]; rfl, by simp, by simpa using H.refl⟩ ?_ ?_
  · rintro z rem acc s' ⟨h1, h2, h3⟩
    simp only [List.length_cons] at h1
    refine ⟨rfl, ?_⟩
    simp [hc]
    refine draw (n := n + 18) (h3.hand hH) (by omega) (bits_nat (k := 9) (by omega)) (by omega) fun u s1 u0 u1 k1 => ?_
    have K1 := h3.trans k1
    simp [hc]
    refine draw (n := n + 18) (K1.hand hH) (by omega) (bits_60 (by omega) (by omega)) (by omega) fun w s2 w0 w1 k2 => ?_
    have K2 := K1.trans k2
    simp [hc]
    refine any_ok (n := n + 17) (K2.hand hH) (by simp) (by simp) (by omega) fun x s3 hx k3 => ?_
    have K3 := K2.trans k3
    obtain ⟨v, rfl, v1, v2⟩ : ∃ v : Int, x = .int v ∧ 1 ≤ v ∧ v ≤ 10 ^ 30 := by
      simp only [List.mem_cons, List.not_mem_nil, or_false] at hx
      rcases hx with rfl | rfl | rfl | rfl | rfl
      · exact ⟨_, rfl, by decide, by decide⟩
      · exact ⟨_, rfl, by decide, by decide⟩
      · exact ⟨_, rfl, by decide, by decide⟩
      · exact ⟨_, rfl, by omega, by omega⟩
      · exact ⟨_, rfl, by omega, by omega⟩
    simp [L]
    refine ⟨_, _, ⟨rfl, rfl⟩, by omega, by simp; omega, fun y hy => ?_, K3.mono (by simp; omega)⟩
    rcases List.mem_append.mp hy with hy | hy
    · exact h2 y hy
    · rw [List.mem_singleton.mp hy]
      exact ⟨v, rfl, v1, v2⟩
  · rintro acc s1 ⟨h1, h2, K1⟩
    refine ⟨rfl, ?_⟩
    obtain ⟨y1, y2, rfl⟩ : ∃ y1 y2, acc = [y1, y2] := by
      match acc, h1 with
      | [y1, y2], _ => exact ⟨y1, y2, rfl⟩
    obtain ⟨p, rfl, p1, p2⟩ := h2 y1 (by simp)
    obtain ⟨q, rfl, q1, q2⟩ := h2 y2 (by simp)
    have gs := g.gs
    have bk := g.bk
    have l6 : A.1.length ≤ 6 := g.len
    have b100 : ∀ {i : Int}, i ≤ 10 ^ 30 → i ≤ 2 ^ 100 := fun h => Int.le_trans h (by decide)
    have T1 := fun {i : Int} {B : Sr} {k : Nat} (h1 : 1 ≤ i) (h2 : i ≤ 10 ^ 30) (gb : Gs B) (bb : Bk k B) (hk : k ≤ 9000) (hl : B.1.length ≤ 1000) s => times_ok (n := n + 11) (s := s) gb bb h1 h2 (by omega) hl
    have C1 := fun {i : Int} {B : Sr} {k : Nat} (h1 : 1 ≤ i) (h2 : i ≤ 10 ^ 30) (gb : Gs B) (bb : Bk k B) (hk : k ≤ 9000) (hl : B.1.length ≤ 1000) s => copies_ok (n := n + 11) (s := s) gb bb h1 h2 (by omega) hl
    have tp := fun s => T1 p1 p2 gs bk (by omega) (by omega) s
    have cp := fun s => C1 p1 p2 gs bk (by omega) (by omega) s
    have ltp := fun s => law_times_ok (n := n + 17) (s := s) gs bk p1 p2 (by omega) (by omega)
    have lcp := fun s => law_copies_ok (n := n + 17) (s := s) gs bk p1 p2 (by omega) (by omega)
    have two := fun {B C : Sr} (hb : B.1.length ≤ 1000) (hc : C.1.length ≤ 1000) s => is_encT2 (n := n + 14) (s := s) hb hc
    have one := fun {B : Sr} (hb : B.1.length ≤ 1000) s => is_encT (n := n + 15) (s := s) hb
    have i1 := fun s => two (B := timesS p A) (C := copyS p A) (by rw [lenT]; omega) (by rw [lenC]; omega) s
    simp [hc, tp, cp, ltp, lcp, i1]
    refine draw (n := n + 18) (K1.hand hH) (by omega) (bits_nat (k := 6) (by omega)) (by simp; omega) fun f s2 f0 f1 k2 => ?_
    have K2 := K1.trans k2
    have bf : bnd (1 + f - 1) = true := by simp [bnd]; omega
    simp [hc, bf]
    refine ok_forT (r7F l A p q (1 + f) s2) ?_ ?_ ?_
    · refine ⟨0, none, none, ?_, rfl, ?_⟩
      · simp [times_one, copy_one]
      · rw [rngL_len]
        omega
    · rintro z rem σ s' ⟨j, v7, v8, rfl, rfl, hj⟩
      simp only [List.length_cons] at hj
      refine ⟨rfl, ?_⟩
      have gj := times_gs (n := (j : Int) + 1) (by omega) gs
      have cj := copy_gs (n := (j : Int) + 1) (by omega) gs
      have e1 := fun s => in_row_ok (n := n + 11) (s := s) gj gs (by rw [lenT]; omega)
      have e2 := fun s => beside_ok (n := n + 11) (s := s) cj gs (by rw [lenC]; omega)
      rw [times_succ (by omega) gs] at e1
      rw [copy_succ (by omega) gs] at e2
      simp [hc, e1, e2]
      exact ⟨j + 1, _, _, by simp; exact ⟨rfl, rfl⟩, rfl, by simp; omega⟩
    · rintro σ s' ⟨j, v7, v8, rfl, rfl, hj⟩
      refine ⟨rfl, ?_⟩
      have ej : 1 + f = (j : Int) + 1 := by simpa using hj.symm
      rw [ej]
      have j1 : (1 : Int) ≤ (j : Int) + 1 := by omega
      have j2 : (j : Int) + 1 ≤ 10 ^ 30 := by omega
      have tj := fun s => T1 j1 j2 gs bk (by omega) (by omega) s
      have cj := fun s => C1 j1 j2 gs bk (by omega) (by omega) s
      have i2 := fun s => two (B := timesS ((j : Int) + 1) A) (C := copyS ((j : Int) + 1) A) (by rw [lenT]; omega) (by rw [lenC]; omega) s
      have gtp := times_gs p1 gs
      have gcp := copy_gs p1 gs
      have gtq := times_gs q1 gs
      have btp := times_bk p1 (b100 p2) gs bk
      have bcp := copy_bk p1 (b100 p2) gs bk
      have btq := times_bk q1 (b100 q2) gs bk
      have x1 := fun s => T1 q1 q2 gs bk (by omega) (by omega) s
      have x2 := fun s => T1 q1 q2 gcp bcp (by omega) (by rw [lenC]; omega) s
      have x3 := fun s => C1 p1 p2 gtq btq (by omega) (by rw [lenT]; omega) s
      rw [times_copy] at x2
      have i3 := fun s => one (B := copyS p (timesS q A)) (by rw [lenC, lenT]; omega) s
      have hpq : mulP (.int p) (.int q) = some (.int (p * q)) := mulP_ok (by
        have := bits_60 (i := p) (by omega) (by omega)
        have := bits_60 (i := q) (by omega) (by omega)
        omega)
      by_cases hm : p * q ≤ 10 ^ 30
      case' pos =>
        have hm' : p * q ≤ 1000000000000000000000000000000 := hm
        have m1 : 1 ≤ p * q := Int.le_trans (show (1 : Int) ≤ 1 * 1 by decide) (Int.mul_le_mul p1 q1 (by decide) (by omega))
        have y1 := fun s => T1 q1 q2 gtp btp (by omega) (by rw [lenT]; omega) s
        have y2 := fun s => C1 q1 q2 gcp bcp (by omega) (by rw [lenC]; omega) s
        rw [times_times] at y1
        rw [copy_copy] at y2
        have y3 := fun s => T1 m1 hm gs bk (by omega) (by omega) s
        have y4 := fun s => C1 m1 hm gs bk (by omega) (by omega) s
        have i4 := fun s => two (B := timesS (p * q) A) (C := copyS (p * q) A) (by rw [lenT]; omega) (by rw [lenC]; omega) s
        simp [hc, tj, cj, i2, x1, cp, tp, x2, x3, i3, hpq, hm', y1, y2, y3, y4, i4]
      case' neg =>
        have hm' : ¬ p * q ≤ 1000000000000000000000000000000 := hm
        simp [hc, tj, cj, i2, x1, cp, x2, x3, i3, hpq, hm']
      all_goals
        refine lawstair_draw (n := n + 16) (most := 4) (K2.hand hH) (by omega) (by omega) (by simp; omega) fun st s3 g2 k3 => ?_
        have K3 := K2.trans k3
        have gs2 := g2.gs
        have bk2 := g2.bk
        have l4 : st.1.length ≤ 4 := g2.len
        have sl := side_len A st
        have rl := rowS_len A st
        have sg := side_gs gs gs2
        have rg := row_gs gs gs2
        have sb := side_bk gs gs2 bk bk2
        have rb := row_bk gs gs2 bk bk2
        have tp2 := fun s => T1 p1 p2 gs2 bk2 (by omega) (by omega) s
        have cp2 := fun s => C1 p1 p2 gs2 bk2 (by omega) (by omega) s
        have gtp2 := times_gs p1 gs2
        have gcp2 := copy_gs p1 gs2
        have a1 := fun s => beside_ok (n := n + 11) (s := s) gs gs2 (by omega)
        have a2 := fun s => T1 p1 p2 sg sb (by omega) (by omega) s
        have a3 := fun s => C1 p1 p2 sg sb (by omega) (by omega) s
        have a4 := fun s => beside_ok (n := n + 11) (s := s) gtp gtp2 (by rw [lenT, lenT]; omega)
        have a5 := fun s => beside_ok (n := n + 11) (s := s) gcp gcp2 (by rw [lenC, lenC]; omega)
        rw [← times_side p1 gs gs2] at a4
        rw [← copy_side p1 gs gs2] at a5
        have b1 := fun s => in_row_ok (n := n + 11) (s := s) gs gs2 (by omega)
        have b2 := fun s => T1 p1 p2 rg rb (by omega) (by omega) s
        have b3 := fun s => C1 p1 p2 rg rb (by omega) (by omega) s
        have b4 := fun s => in_row_ok (n := n + 11) (s := s) gtp gtp2 (by rw [lenT, lenT]; omega)
        have b5 := fun s => in_row_ok (n := n + 11) (s := s) gcp gcp2 (by rw [lenC, lenC]; omega)
        rw [← times_row p1 gs gs2] at b4
        rw [← copy_row p1 gs gs2] at b5
        have i5 := fun s => two (B := timesS p (sideS A st)) (C := copyS p (sideS A st)) (by rw [lenT]; omega) (by rw [lenC]; omega) s
        have i6 := fun s => two (B := timesS p (rowS A st)) (C := copyS p (rowS A st)) (by rw [lenT]; omega) (by rw [lenC]; omega) s
        simp [hc, tp, cp, tp2, cp2, a1, a2, a3, a4, a5, b1, b2, b3, b4, b5, i5, i6, take_hs K3]
        exact hq _ (K3.mono (by simp only [List.length_cons, List.length_nil]; omega))
end K07
end
section
namespace K07
open PySem EV MG
def laneB : P → Bool
  | .tup [.int a, .int t] => decide (1 ≤ a) && decide (a < 1000000000000) && (decide (0 ≤ t) && decide (t < 1000000000000))
  | _ => false
theorem is_lane_ok {n : Nat} {x : P} {s : Sto} (h : Wf x) : callF T (n + 4) ix_is_lane [.p x] s = .ok (.p (.bl (laneB x))) s := by
  refine Ok.eq (ok_call (fn := c_is_lane) rfl rfl fun c hc => ?_)
  cases hp : isPair x with
  | false =>
    have : laneB x = false := by
      unfold laneB
      split
      · simp [isPair] at hp
      · rfl
    simp [c_is_lane, hc, is_pair_ok h, hp, this]
  | true =>
    unfold isPair at hp
    split at hp
    · rename_i a t
      simp [c_is_lane, hc, is_pair_ok h, isPair, laneB]
      by_cases h1 : 1 ≤ a <;> by_cases h2 : a < 1000000000000 <;> by_cases h3 : 0 ≤ t <;> simp [h1, h2, h3] <;> omega
    · cases hp
end K07
end
section
namespace K07
open PySem EV MG
/-- small words that == is known of -/
theorem layS {x : Str} (h : PyData.canLay0 (.str x) = true) : P.lay 64 (.str x) = true := by simp [P.lay, h]
theorem eqP_str {x y : Str} (hx : PyData.canLay0 (.str x) = true) (hy : PyData.canLay0 (.str y) = true) : eqP (.str x) (.str y) = some (x == y) := by
  rw [eqP_lay (layS hx) (layS hy)]
  simp [P.peq]
theorem eqP_is {i : Int} {y : Str} (hy : PyData.canLay0 (.str y) = true) : eqP (.int i) (.str y) = some false := by
  rw [eqP_lay (by simp [P.lay]) (layS hy)]
  simp [P.peq]
theorem cE : PyData.canLay0 (.str "endless") = true := by decide +kernel
theorem cR : PyData.canLay0 (.str "row") = true := by decide +kernel
theorem cB : PyData.canLay0 (.str "beside") = true := by decide +kernel
theorem cT : PyData.canLay0 (.str "times") = true := by decide +kernel
theorem cC : PyData.canLay0 (.str "copies") = true := by decide +kernel
theorem eqEE : eqP (.str "endless") (.str "endless") = some true := by rw [eqP_str cE cE]; decide +kernel
theorem eqRE : eqP (.str "row") (.str "endless") = some false := by rw [eqP_str cR cE]; decide +kernel
theorem eqBE : eqP (.str "beside") (.str "endless") = some false := by rw [eqP_str cB cE]; decide +kernel
theorem eqTE : eqP (.str "times") (.str "endless") = some false := by rw [eqP_str cT cE]; decide +kernel
theorem eqCE : eqP (.str "copies") (.str "endless") = some false := by rw [eqP_str cC cE]; decide +kernel
theorem eqRR : eqP (.str "row") (.str "row") = some true := by rw [eqP_str cR cR]; decide +kernel
theorem eqBR : eqP (.str "beside") (.str "row") = some false := by rw [eqP_str cB cR]; decide +kernel
theorem eqTT : eqP (.str "times") (.str "times") = some true := by rw [eqP_str cT cT]; decide +kernel
theorem eqCT : eqP (.str "copies") (.str "times") = some false := by rw [eqP_str cC cT]; decide +kernel
theorem eqTC : eqP (.str "times") (.str "copies") = some false := by rw [eqP_str cT cC]; decide +kernel
theorem eqCC : eqP (.str "copies") (.str "copies") = some true := by rw [eqP_str cC cC]; decide +kernel
theorem eqIE {i : Int} : eqP (.int i) (.str "endless") = some false := eqP_is cE
theorem inRT : inP (.str "row") (.tup [.str "times", .str "copies"]) = some false := by decide +kernel
theorem inBT : inP (.str "beside") (.tup [.str "times", .str "copies"]) = some false := by decide +kernel
theorem inTT : inP (.str "times") (.tup [.str "times", .str "copies"]) = some true := by decide +kernel
theorem inCT : inP (.str "copies") (.tup [.str "times", .str "copies"]) = some true := by decide +kernel
theorem inRJ : inP (.str "row") (.tup [.str "row", .str "beside"]) = some true := by decide +kernel
theorem inBJ : inP (.str "beside") (.tup [.str "row", .str "beside"]) = some true := by decide +kernel
theorem inTJ : inP (.str "times") (.tup [.str "row", .str "beside"]) = some false := by decide +kernel
theorem inCJ : inP (.str "copies") (.tup [.str "row", .str "beside"]) = some false := by decide +kernel
@[simp] theorem n_endless_row : (Str.ofString "endless" = Str.ofString "row") = False := eq_false (by decide +kernel)
@[simp] theorem n_endless_beside : (Str.ofString "endless" = Str.ofString "beside") = False := eq_false (by decide +kernel)
@[simp] theorem n_endless_times : (Str.ofString "endless" = Str.ofString "times") = False := eq_false (by decide +kernel)
@[simp] theorem n_endless_copies : (Str.ofString "endless" = Str.ofString "copies") = False := eq_false (by decide +kernel)
@[simp] theorem n_row_endless : (Str.ofString "row" = Str.ofString "endless") = False := eq_false (by decide +kernel)
@[simp] theorem n_row_beside : (Str.ofString "row" = Str.ofString "beside") = False := eq_false (by decide +kernel)
@[simp] theorem n_row_times : (Str.ofString "row" = Str.ofString "times") = False := eq_false (by decide +kernel)
@[simp] theorem n_row_copies : (Str.ofString "row" = Str.ofString "copies") = False := eq_false (by decide +kernel)
@[simp] theorem n_beside_endless : (Str.ofString "beside" = Str.ofString "endless") = False := eq_false (by decide +kernel)
@[simp] theorem n_beside_row : (Str.ofString "beside" = Str.ofString "row") = False := eq_false (by decide +kernel)
@[simp] theorem n_beside_times : (Str.ofString "beside" = Str.ofString "times") = False := eq_false (by decide +kernel)
@[simp] theorem n_beside_copies : (Str.ofString "beside" = Str.ofString "copies") = False := eq_false (by decide +kernel)
@[simp] theorem n_times_endless : (Str.ofString "times" = Str.ofString "endless") = False := eq_false (by decide +kernel)
@[simp] theorem n_times_row : (Str.ofString "times" = Str.ofString "row") = False := eq_false (by decide +kernel)
@[simp] theorem n_times_beside : (Str.ofString "times" = Str.ofString "beside") = False := eq_false (by decide +kernel)
@[simp] theorem n_times_copies : (Str.ofString "times" = Str.ofString "copies") = False := eq_false (by decide +kernel)
@[simp] theorem n_copies_endless : (Str.ofString "copies" = Str.ofString "endless") = False := eq_false (by decide +kernel)
@[simp] theorem n_copies_row : (Str.ofString "copies" = Str.ofString "row") = False := eq_false (by decide +kernel)
@[simp] theorem n_copies_beside : (Str.ofString "copies" = Str.ofString "beside") = False := eq_false (by decide +kernel)
@[simp] theorem n_copies_times : (Str.ofString "copies" = Str.ofString "times") = False := eq_false (by decide +kernel)
theorem wf_pn : ∀ p : MG.Pn, p.Ok → Wf p.enc := fun p h => by
  induction h with
  | lane a t =>
    refine .tup _ (by simp) fun x hx => ?_
    simp at hx
    rcases hx with rfl | rfl <;> exact .int _
  | endl t =>
    refine .tup _ (by simp) fun x hx => ?_
    simp at hx
    rcases hx with rfl | rfl
    · exact .str _
    · exact .int _
  | many r ps hne hl _ ih =>
      refine .tup _ (by simp) fun x hx => ?_
      simp at hx
      rcases hx with rfl | rfl
      · exact .str _
      · refine .tup _ (by rw [MG.encL_map]; simp; omega) fun y hy => ?_
        rw [MG.encL_map] at hy
        obtain ⟨q, hq, rfl⟩ := List.mem_map.mp hy
        exact ih q hq
  | rep t n p _ _ _ ih =>
      refine .tup _ (by simp) fun x hx => ?_
      simp at hx
      rcases hx with rfl | rfl | rfl
      · exact .str _
      · exact .int _
      · exact ih
def leafB : MG.Pn → Bool
  | .lane _ _ => true
  | .endl _ => true
  | _ => false
theorem is_endless_ok {n : Nat} {p : MG.Pn} {s : Sto} (h : p.Ok) : callF T (n + 3) ix_is_endless [.p p.enc] s = .ok (.p (.bl (match p with | .endl _ => true | _ => false))) s := by
  refine Ok.eq (ok_call (fn := c_is_endless) rfl rfl fun c hc => ?_)
  cases h with
  | lane a t h1 h2 h3 h4 => simp [c_is_endless, MG.Pn.enc]
  | endl t h1 h2 => simp [c_is_endless, MG.Pn.enc, eqEE, hc, within_ok (x := .int t) rfl, isInt, intOf, h1]; exact decide_eq_true (by omega)
  | many r ps => cases r <;> simp [c_is_endless, MG.Pn.enc, MG.jnW, eqRE, eqBE]
  | rep t n p => simp [c_is_endless, MG.Pn.enc]
theorem is_leaf_ok {n : Nat} {p : MG.Pn} {s : Sto} (h : p.Ok) : callF T (n + 5) ix_is_leaf [.p p.enc] s = .ok (.p (.bl (leafB p))) s := by
  refine Ok.eq (ok_call (fn := c_is_leaf) rfl rfl fun c hc => ?_)
  have e := fun s => is_endless_ok (n := n + 1) (s := s) h
  have l := fun s => is_lane_ok (n := n) (s := s) (wf_pn p h)
  simp only [c_is_leaf]
  simp [hc, l]
  cases h with
  | lane a t h1 h2 h3 h4 => simp [laneB, MG.Pn.enc, leafB, h1, h2, h3, h4]
  | endl t => simp [laneB, MG.Pn.enc] at e ⊢; simp [hc, e, leafB]
  | many r ps => simp [laneB, MG.Pn.enc] at e ⊢; simp [hc, e, leafB]
  | rep t n p => simp [laneB, MG.Pn.enc] at e ⊢; simp [hc, e, leafB]
def partsP : MG.Pn → P
  | .many _ ps => .tup (MG.Pn.encL ps)
  | .rep _ _ p => .tup [p.enc]
  | _ => .non
def joinsP : P := .tup [.str "row", .str "beside"]
theorem parts_of_ok {n : Nat} {p : MG.Pn} {s : Sto} (h : p.Ok) (hl : leafB p = false) : callF T (n + 4) ix_parts_of [.p p.enc, .p joinsP] s = .ok (.p (partsP p)) s := by
  refine Ok.eq (ok_call (fn := c_parts_of) rfl rfl fun c hc => ?_)
  cases h with
  | lane a t => cases hl
  | endl t => cases hl
  | many r ps hne hlen hok =>
    have h1 : 1 ≤ ps.length := List.length_pos_iff.mpr hne
    have hlen2 : (MG.Pn.encL ps).length = ps.length := by rw [MG.encL_map]; simp
    cases r <;> simp [c_parts_of, MG.Pn.enc, MG.jnW, inRT, inBT, joinsP, inRJ, inBJ, hlen2, partsP] <;> omega
  | rep t n p h1 h2 hok =>
    cases t <;> simp [c_parts_of, MG.Pn.enc, MG.rpW, inTT, inCT, hc, is_times_ok (x := .int n) rfl, isInt, intOf, h1, h2, partsP]
end K07
end
section
namespace K07
open PySem EV MG
/-- what waits: things, how deep they stand -/
def waitP (W : List (MG.Pn × Nat)) : List P := W.map fun q => .tup [q.1.enc, .int q.2]
def sizeW (W : List (MG.Pn × Nat)) : Nat := (W.map fun q => q.1.size).sum
def deepW (W : List (MG.Pn × Nat)) : Bool := W.all fun q => decide (q.2 + q.1.depth ≤ 17)
theorem size_pos : ∀ p : MG.Pn, 1 ≤ p.size
  | .lane _ _ | .endl _ => by simp [MG.Pn.size]
  | .many _ _ | .rep _ _ _ => by simp [MG.Pn.size]
theorem depth_pos : ∀ p : MG.Pn, 1 ≤ p.depth
  | .lane _ _ | .endl _ => by simp [MG.Pn.depth]
  | .many _ _ | .rep _ _ _ => by simp [MG.Pn.depth]
def partsL : MG.Pn → List MG.Pn
  | .many _ ps => ps
  | .rep _ _ p => [p]
  | _ => []
theorem size_parts (p : MG.Pn) : p.size = 1 + MG.Pn.sizeL (partsL p) := by
  cases p <;> simp [MG.Pn.size, partsL, MG.Pn.sizeL]
theorem depth_parts (p : MG.Pn) : p.depth = 1 + MG.Pn.depthL (partsL p) := by
  cases p <;> simp [MG.Pn.depth, partsL, MG.Pn.depthL]
theorem sizeL_sum : ∀ ps : List MG.Pn, MG.Pn.sizeL ps = (ps.map MG.Pn.size).sum
  | [] => rfl
  | p :: ps => by simp [MG.Pn.sizeL, sizeL_sum ps]
theorem depthL_all : ∀ (ps : List MG.Pn) (d : Nat), d ≤ 17 → (ps.all fun p => decide (d + p.depth ≤ 17)) = decide (d + MG.Pn.depthL ps ≤ 17)
  | [], d, h => by simp [MG.Pn.depthL, h]
  | p :: ps, d, h => by
    simp only [List.all_cons, depthL_all ps d h, MG.Pn.depthL, ← Bool.decide_and]
    congr 1
    apply propext
    omega
def planB (p : MG.Pn) : Bool := decide (p.size ≤ 150) && decide (p.depth ≤ 16)
theorem parts_enc {p : MG.Pn} (h : leafB p = false) : partsP p = .tup (MG.Pn.encL (partsL p)) := by
  cases p <;> simp [leafB] at h <;> simp [partsP, partsL, MG.Pn.encL]
theorem parts_ok' {p : MG.Pn} (h : p.Ok) : ∀ q ∈ partsL p, q.Ok := by
  cases h with
  | lane => simp [partsL]
  | endl => simp [partsL]
  | many r ps _ _ h => exact h
  | rep t n p _ _ h => simpa [partsL] using h
theorem parts_len {p : MG.Pn} (h : p.Ok) : (partsL p).length ≤ 12 := by
  cases h with
  | lane => simp [partsL]
  | endl => simp [partsL]
  | many r ps _ h _ => exact h
  | rep t n p _ _ h => simp [partsL]
theorem sizeW_app (W V : List (MG.Pn × Nat)) : sizeW (W ++ V) = sizeW W + sizeW V := by simp [sizeW]
theorem sizeW_len : ∀ W : List (MG.Pn × Nat), W.length ≤ sizeW W
  | [] => by simp
  | q :: W => by
    have := sizeW_len W
    have := size_pos q.1
    simp only [sizeW, List.map_cons, List.sum_cons, List.length_cons] at *
    omega
theorem cut_init {xs : List P} {x : P} : cut (xs ++ [x]) none (some (-1)) = xs := by
  unfold cut
  rw [HT.sIx_none]
  have : HT.sIx (xs ++ [x]).length (xs ++ [x]).length (some (-1)) = xs.length := by
    unfold HT.sIx
    simp
    omega
  rw [this]
  simp
theorem waitP_app (W V : List (MG.Pn × Nat)) : waitP (W ++ V) = waitP W ++ waitP V := by simp [waitP]
theorem has_form_ok {n : Nat} {p : MG.Pn} {s : Sto} (h : p.Ok) : callF T (n + 6) ix_has_form [.p p.enc, .p (.fn ix_is_leaf), .p joinsP] s = .ok (.p (.bl (planB p))) s := by
  refine Ok.eq (ok_call (fn := c_has_form) rfl rfl fun c hc => ?_)
  simp only [c_has_form]
  simp
  refine ok_while (fun k σ s' => ∃ W sz a b d e, s' = s ∧ σ = [some (.p p.enc), some (.p (.fn ix_is_leaf)), some (.p joinsP), some (.p (.lst (waitP W))), some (.p (.int (sz : Nat))), a, b, d, e] ∧ (∀ q ∈ W, q.1.Ok) ∧ k = 150 - sz ∧ sz ≤ 150 ∧ W.length ≤ 1 + 12 * sz ∧ planB p = (decide (sz + sizeW W ≤ 150) && deepW W)) (k := 150) ⟨[(p, 1)], 0, none, none, none, none, rfl, rfl, by simpa using h, rfl, by omega, by simp, ?_⟩ (by unfold L; omega) ?_
  · have := depth_pos p
    simp only [planB, sizeW, deepW, List.map_cons, List.map_nil, List.sum_cons, List.sum_nil, List.all_cons, List.all_nil, Bool.and_true, Nat.zero_add, Nat.add_zero]
    congr 2
    apply propext
    omega
  · rintro k σ s' ⟨W, sz, a, b, d, e, rfl, rfl, hW, rfl, hsz, hlen, hp⟩
    rcases List.eq_nil_or_concat W with rfl | ⟨V, q, rfl⟩
    · have : planB p = true := by rw [hp]; simp [sizeW, deepW, hsz]
      simp [waitP, this]
    · simp only [List.concat_eq_append] at *
      obtain ⟨q, dq⟩ := q
      have hq := hW (q, dq) (by simp)
      have hV : ∀ z ∈ V, z.1.Ok := fun z hz => hW z (by simp [hz])
      have hq1 := size_pos q
      have hq2 := depth_pos q
      have e1 : waitP (V ++ [(q, dq)]) = waitP V ++ [.tup [q.enc, .int dq]] := by simp [waitP]
      have e2 : sizeW (V ++ [(q, dq)]) = sizeW V + q.size := by simp [sizeW]
      have e3 : deepW (V ++ [(q, dq)]) = (deepW V && decide (dq + q.depth ≤ 17)) := by simp [deepW]
      rw [e2, e3] at hp
      simp only [List.length_append, List.length_singleton] at hlen
      simp [e1, cut_init]
      have lf := fun s => is_leaf_ok (n := n) (s := s) hq
      have far : (150 < sz + 1 ∨ 16 < dq) → planB p = false := fun z => by
        rw [hp]
        rcases z with z | z
        · have : ¬ (sz + (sizeW V + q.size) ≤ 150) := by omega
          simp [this]
        · have : ¬ (dq + q.depth ≤ 17) := by omega
          simp [this]
      refine ⟨fun hpos => ⟨fun hd => far (.inr (by omega)), fun hd => ?_⟩, fun hneg => far (.inl (by omega))⟩
      simp only at lf
      cases hl : leafB q with
      | true =>
        simp [hc, lf, hl]
        have q1 : q.size = 1 := by cases q <;> simp [leafB] at hl <;> simp [MG.Pn.size]
        have q2 : q.depth = 1 := by cases q <;> simp [leafB] at hl <;> simp [MG.Pn.depth]
        refine ⟨150 - (sz + 1), by omega, V, sz + 1, ⟨rfl, by simp⟩, fun z b hz => hV (z, b) hz, rfl, by omega, by omega, ?_⟩
        rw [hp, q1, q2]
        have : dq + 1 ≤ 17 := by omega
        simp [this, Nat.add_comm, Nat.add_left_comm]
      | false =>
        have pf := fun s => parts_of_ok (n := n + 1) (s := s) hq hl
        simp only at pf
        rw [parts_enc hl] at pf
        simp [hc, lf, hl, pf]
        have pl : (partsL q).length ≤ 12 := parts_len hq
        refine ok_lcM (fun y => .tup [y, .int ((dq : Int) + 1)]) rfl (by rw [MG.encL_map, List.length_map]; unfold L; omega) (fun y hy => ?_) ?_
        · simp
        · have ew : waitP V ++ (MG.Pn.encL (partsL q)).map (fun y => P.tup [y, .int ((dq : Int) + 1)]) = waitP (V ++ (partsL q).map fun z => (z, dq + 1)) := by
            rw [waitP_app, MG.encL_map]
            simp [waitP, Function.comp_def]
          have l1 : (waitP V).length = V.length := by simp [waitP]
          have l2 : (MG.Pn.encL (partsL q)).length = (partsL q).length := by rw [MG.encL_map]; simp
          simp
          rw [addP_lst (by rw [List.length_map, l1, l2]; unfold L; omega), ew]
          simp
          refine ⟨150 - (sz + 1), by omega, _, sz + 1, ⟨rfl, by simp⟩, fun z b hz => ?_, rfl, by omega, by simp; omega, ?_⟩
          · rcases List.mem_append.mp hz with hz | hz
            · exact hV _ hz
            · obtain ⟨y, hy, e⟩ := List.mem_map.mp hz
              cases e
              exact parts_ok' hq z hy
          · rw [hp, sizeW_app]
            have s1 : sizeW ((partsL q).map fun z => (z, dq + 1)) = MG.Pn.sizeL (partsL q) := by
              rw [sizeL_sum]
              simp [sizeW, Function.comp_def]
            have s2 : deepW (V ++ (partsL q).map fun z => (z, dq + 1)) = (deepW V && decide (dq + q.depth ≤ 17)) := by
              have := depthL_all (partsL q) (dq + 1) (by omega)
              have e4 : dq + q.depth = dq + 1 + MG.Pn.depthL (partsL q) := by rw [depth_parts q]; omega
              rw [e4, ← this]
              simp [deepW, List.all_map, Function.comp_def]
            rw [s1, s2, size_parts q]
            congr 2
            apply propext
            omega
theorem is_plan_ok {n : Nat} {p : MG.Pn} {s : Sto} (h : p.Ok) : callF T (n + 7) ix_is_plan [.p p.enc] s = .ok (.p (.bl (planB p))) s := by
  refine Ok.eq (ok_call (fn := c_is_plan) rfl rfl fun c hc => ?_)
  have hf := fun s => has_form_ok (n := n) (s := s) h
  unfold joinsP at hf
  simp [c_is_plan, hc, hf]
/-- a stair is no plan -/
theorem is_plan_st {n : Nat} {as : List P} {e : P} {s : Sto} (h : Wf (.tup [.tup as, e])) : callF T (n + 7) ix_is_plan [.p (.tup [.tup as, e])] s = .ok (.p (.bl false)) s := by
  have i1 : ∀ {n s}, callF T (n + 3) ix_is_endless [.p (.tup [.tup as, e])] s = .ok (.p (.bl false)) s := fun {n s} => by
    refine Ok.eq (ok_call (fn := c_is_endless) rfl rfl fun c hc => ?_)
    simp [c_is_endless]
  have i2 : ∀ {n s}, callF T (n + 5) ix_is_leaf [.p (.tup [.tup as, e])] s = .ok (.p (.bl false)) s := fun {n s} => by
    refine Ok.eq (ok_call (fn := c_is_leaf) rfl rfl fun c hc => ?_)
    have l := fun s => is_lane_ok (n := n) (s := s) h
    simp [c_is_leaf, hc, l, laneB, i1]
  have i3 : ∀ {n s}, callF T (n + 4) ix_parts_of [.p (.tup [.tup as, e]), .p joinsP] s = .ok (.p .non) s := fun {n s} => by
    refine Ok.eq (ok_call (fn := c_parts_of) rfl rfl fun c hc => ?_)
    simp [c_parts_of]
  have i4 : ∀ {n s}, callF T (n + 6) ix_has_form [.p (.tup [.tup as, e]), .p (.fn ix_is_leaf), .p joinsP] s = .ok (.p (.bl false)) s := fun {n s} => by
    refine Ok.eq (ok_call (fn := c_has_form) rfl rfl fun c hc => ?_)
    simp only [c_has_form]
    simp
    refine ok_while (fun k σ s' => s' = s ∧ ∃ a b d e', σ = [some (.p (.tup [.tup as, e])), some (.p (.fn ix_is_leaf)), some (.p joinsP), some (.p (.lst [.tup [.tup [.tup as, e], .int 1]])), some (.p (.int 0)), a, b, d, e']) (k := 1) ⟨rfl, _, _, _, _, rfl⟩ (by unfold L; omega) ?_
    rintro k σ s' ⟨rfl, a, b, d, e', rfl⟩
    have cc : cut [P.tup [.tup [.tup as, e], .int 1]] none (some (-1)) = [] := cut_init (xs := [])
    simp [cc, hc, i2, i3]
  refine Ok.eq (ok_call (fn := c_is_plan) rfl rfl fun c hc => ?_)
  unfold joinsP at i4
  simp [c_is_plan, hc, i4]
theorem is_one_ok {n : Nat} {p : MG.Pn} {s : Sto} (h : p.Ok) : callF T (n + 1) ix_is_one [.p p.enc] s = .ok (.p (.bl (leafB p))) s := by
  refine Ok.eq (ok_call (fn := c_is_one) rfl rfl fun c hc => ?_)
  cases h with
  | lane a t => simp [c_is_one, MG.Pn.enc, eqIE, leafB]
  | endl t => simp [c_is_one, MG.Pn.enc, eqEE, leafB]
  | many r ps => cases r <;> simp [c_is_one, MG.Pn.enc, MG.jnW, eqRE, eqBE, leafB]
  | rep t n p => simp [c_is_one, MG.Pn.enc, leafB]
end K07
end
section
namespace K07
open PySem EV MG
open MG (Sr Pn Gs Bk)
theorem lane_stair_ok {n : Nat} {p : Pn} {s : Sto} (hl : leafB p = true) : callF T (n + 1) ix_lane_stair [.p p.enc] s = .ok (.p (encT p.st)) s := by
  refine Ok.eq (ok_call (fn := c_lane_stair) rfl rfl fun c hc => ?_)
  cases p with
  | lane a t => simp [c_lane_stair, MG.Pn.enc, eqIE, encT, MG.Pn.st, encS]
  | endl t => simp [c_lane_stair, MG.Pn.enc, eqEE, encT, MG.Pn.st]
  | many r ps => cases hl
  | rep t n p => cases hl
def jbI (r : Bool) (q : Sr) (ss : List Sr) (s : Sto) (rem : List P) (σ : Sg) (s' : Sto) : Prop := s' = s ∧ ∃ (qs : List Sr) (z : Sr) (a : Option D), σ = [some (.p (MG.jnW r)), some (.p (.lst (encT q :: ss.map encT))), some (.p (encT z)), a] ∧ rem = qs.map encT ∧ qs.foldl (MG.joinS r) z = ss.foldl (MG.joinS r) q ∧ Gs z ∧ (∀ y ∈ qs, Gs y) ∧ z.1.length + (qs.map fun q => q.1.length).sum ≤ 1000
theorem joined_by_ok {n : Nat} {r : Bool} {ss : List Sr} {k : Nat} {s : Sto} (hne : ss ≠ []) (h : ∀ q ∈ ss, Gs q ∧ Bk k q) (hl : (ss.map fun q => q.1.length).sum ≤ 1000) (hn : ss.length ≤ 1000) : callF T (n + 3) ix_joined_by [.p (MG.jnW r), .p (.lst (ss.map encT))] s = .ok (.p (encT (MG.foldS r ss))) s := by
  refine Ok.eq (ok_call (fn := c_joined_by) rfl rfl fun c hc => ?_)
  cases ss with
  | nil => exact absurd rfl hne
  | cons q ss =>
    simp only [c_joined_by]
    simp
    refine ok_forT (jbI r q ss s) ⟨rfl, ss, q, _, rfl, rfl, rfl, (h q (by simp)).1, fun y hy => (h y (by simp [hy])).1, by simpa using hl⟩ ?_ ?_
    · rintro z rr σ s' ⟨rfl, qs, w, a, rfl, e1, e2, e3, e4, e5⟩
      cases qs with
      | nil => cases e1
      | cons y qs =>
        rw [List.map_cons] at e1
        obtain ⟨rfl, rfl⟩ := List.cons.inj e1
        refine ⟨rfl, ?_⟩
        simp only [List.map_cons, List.sum_cons] at e5
        have gy := e4 y (by simp)
        have jl := MG.join_len (r := r) w y
        have fin : ∀ a : Option D, jbI r q ss s' (qs.map encT) [some (.p (MG.jnW r)), some (.p (.lst (encT q :: ss.map encT))), some (.p (encT (MG.joinS r w y))), a] s' := fun a =>
          ⟨rfl, qs, _, a, rfl, rfl, e2, MG.join_gs e3 gy, fun y hy => e4 y (by simp [hy]), by omega⟩
        cases r with
        | false =>
          have := sided_ok (n := n) (A := w) (B := y) (s := s') (by omega)
          simp [MG.jnW, eqBR, hc, this]
          exact fin (some (.p (encT y)))
        | true =>
          have := rowed_ok (n := n) (A := w) (B := y) (s := s') e3.va gy.va (by omega)
          simp [MG.jnW, eqRR, hc, this]
          exact fin (some (.p (encT y)))
    · rintro σ s' ⟨rfl, qs, w, a, rfl, e1, e2, e3, e4, e5⟩
      have : qs = [] := by simpa using e1.symm
      subst this
      refine ⟨rfl, ?_⟩
      simp at e2
      simp [MG.foldS, e2]
end K07
end
section
namespace K07
open PySem EV MG
open MG (Sr Pn Gs Bk)
theorem size_le_len (ps : List Pn) : (∀ p ∈ ps, p.Ok) → ((ps.map Pn.st).map fun q => q.1.length).sum ≤ Pn.sizeL ps := by
  induction ps with
  | nil => intro _; simp [Pn.sizeL]
  | cons q qs ih =>
    intro h
    have a1 := (MG.Pn.good q (h q (by simp))).2.2
    have a2 := ih fun z hz => h z (by simp [hz])
    simp only [List.map_cons, List.sum_cons, Pn.sizeL]
    omega
mutual
theorem stair_in_ok : ∀ (p : Pn) {n : Nat} {s : Sto}, p.Ok → p.size ≤ 900 → p.depth ≤ 700000 → callF T (n + p.depth + 3) ix_stair_in [.p p.enc] s = .ok (.p (encT p.st)) s
  | .lane a t, n, s, h, hs, hd => by
    refine Ok.eq (ok_call (fn := c_stair_in) rfl rfl fun c hc => ?_)
    replace hc : c.C = callF T (n + 3) := hc
    have e1 := fun s => is_one_ok (n := n + 2) (s := s) h
    have e2 := fun s => lane_stair_ok (n := n + 2) (p := .lane a t) (s := s) rfl
    simp [c_stair_in, hc, e1, leafB, e2]
  | .endl t, n, s, h, hs, hd => by
    refine Ok.eq (ok_call (fn := c_stair_in) rfl rfl fun c hc => ?_)
    replace hc : c.C = callF T (n + 3) := hc
    have e1 := fun s => is_one_ok (n := n + 2) (s := s) h
    have e2 := fun s => lane_stair_ok (n := n + 2) (p := .endl t) (s := s) rfl
    simp [c_stair_in, hc, e1, leafB, e2]
  | .rep tm m p, n, s, h, hs, hd => by
    refine Ok.eq (ok_call (fn := c_stair_in) rfl rfl fun c hc => ?_)
    replace hc : c.C = callF T (n + p.depth + 3) := by
      rw [show n + p.depth + 3 = n + (1 + p.depth) + 2 from by omega]
      exact hc
    simp only [Pn.size, Pn.depth] at hs hd
    have e1 := fun s => is_one_ok (n := n + p.depth + 2) (s := s) h
    cases h with
    | rep _ _ _ h1 h2 hok =>
      obtain ⟨g1, g2, g3⟩ := MG.Pn.good p hok
      have hm : m ≤ 2 ^ 100 := Int.le_trans h2 (by decide)
      have hk : MG.bkOf p.depth < 90000000 := by unfold MG.bkOf; omega
      have ih := fun s => stair_in_ok p (n := n) (s := s) hok (by omega) (by omega)
      have er := fun s => repeated_ok (n := n + p.depth + 2) (s := s) g1 g2 ⟨h1, hm⟩ hk (by omega)
      have ec := fun s => copied_ok (n := n + p.depth + 2) (s := s) g1 g2 ⟨h1, hm⟩ hk (by omega)
      have i0 : Pn.enc (.rep tm m p) = .tup [MG.rpW tm, .int m, p.enc] := rfl
      rw [i0] at e1 ⊢
      cases tm
      · simp only [MG.rpW] at e1
        simp at e1
        simp [c_stair_in, hc, e1, leafB, ih, MG.rpW, eqCT, ec, Pn.st]
      · simp only [MG.rpW] at e1
        simp at e1
        simp [c_stair_in, hc, e1, leafB, ih, MG.rpW, eqTT, er, Pn.st]
  | .many r ps, n, s, h, hs, hd => by
    refine Ok.eq (ok_call (fn := c_stair_in) rfl rfl fun c hc => ?_)
    replace hc : c.C = callF T (n + Pn.depthL ps + 3) := by
      rw [show n + Pn.depthL ps + 3 = n + (1 + Pn.depthL ps) + 2 from by omega]
      exact hc
    simp only [Pn.size, Pn.depth] at hs hd
    have e1 := fun s => is_one_ok (n := n + Pn.depthL ps + 2) (s := s) h
    cases h with
    | many _ _ hne hlen hok =>
      have ih := stair_inL ps hok (by omega) (by omega)
      have hk : ∀ q ∈ ps.map Pn.st, Gs q ∧ Bk (MG.bkOf (Pn.depthL ps)) q := fun q hq => by
        obtain ⟨p, hp, rfl⟩ := List.mem_map.mp hq
        obtain ⟨g1, g2, g3⟩ := MG.Pn.good p (hok p hp)
        exact ⟨g1, g2.mono (by have := MG.depthL_le hp; unfold MG.bkOf; omega)⟩
      have ej := fun s => joined_by_ok (n := n + Pn.depthL ps) (r := r) (s := s) (by simpa using hne) hk (Nat.le_trans (size_le_len ps hok) (by omega)) (by simp; omega)
      have i0 : Pn.enc (.many r ps) = .tup [MG.jnW r, .tup (Pn.encL ps)] := rfl
      rw [i0] at e1 ⊢
      simp only [c_stair_in]
      simp [hc, e1, leafB]
      rw [MG.encL_map]
      refine ok_lcF ps Pn.enc (fun p => encT p.st) (by unfold L; omega) (fun p hp => ?_) ?_
      · have := fun s => ih p hp (n := n + (Pn.depthL ps - p.depth)) (s := s)
        have e2 : n + (Pn.depthL ps - p.depth) + p.depth + 3 = n + Pn.depthL ps + 3 := by
          have := MG.depthL_le hp
          omega
        rw [e2] at this
        simp [hc, this]
      · have e3 : ps.map (fun p => encT p.st) = (ps.map Pn.st).map encT := by rw [List.map_map]; rfl
        rw [e3]
        simp only [List.map_map] at ej ⊢
        simp [hc, ej, Pn.st, MG.stL_map]
theorem stair_inL : ∀ (ps : List Pn), (∀ p ∈ ps, p.Ok) → Pn.sizeL ps ≤ 900 → Pn.depthL ps ≤ 700000 → ∀ p ∈ ps, ∀ {n : Nat} {s : Sto}, callF T (n + p.depth + 3) ix_stair_in [.p p.enc] s = .ok (.p (encT p.st)) s
  | [], _, _, _, p, hp, n, s => by cases hp
  | q :: ps, h, hs, hd, p, hp, n, s => by
    simp only [Pn.sizeL, Pn.depthL] at hs hd
    rcases List.mem_cons.mp hp with e | hp
    · rw [e]
      exact stair_in_ok q (h q (by simp)) (by omega) (by omega)
    · exact stair_inL ps (fun z hz => h z (by simp [hz])) (by omega) (by omega) p hp
end
/-- a plan as it is to be -/
structure Dp (p : Pn) : Prop where
  ok : p.Ok
  size : p.size ≤ 150
  depth : p.depth ≤ 16
theorem Dp.planB {p : Pn} (h : Dp p) : planB p = true := by simp [K07.planB, h.size, h.depth]
theorem stair_in_d {n : Nat} {p : Pn} {s : Sto} (h : Dp p) : callF T (n + 19) ix_stair_in [.p p.enc] s = .ok (.p (encT p.st)) s := by
  have := stair_in_ok p (n := n + (16 - p.depth)) (s := s) h.ok (by have := h.size; omega) (by have := h.depth; omega)
  have e : n + (16 - p.depth) + p.depth + 3 = n + 19 := by have := h.depth; omega
  rw [e] at this
  exact this
end K07
end
section
namespace K07
open PySem EV MG
open MG
theorem check_plan_ok {n : Nat} {p : Pn} {s : Sto} (h : Dp p) : callF T (n + 8) ix_check_plan [.p p.enc] s = .ok (.p .non) s := by
  refine Ok.eq (ok_call (fn := c_check_plan) rfl rfl fun c hc => ?_)
  have e1 := fun s => is_plan_ok (n := n) (s := s) h.ok
  rw [h.planB] at e1
  simp [c_check_plan, hc, e1]
theorem dp_of {p : Pn} (h : p.Ok) (hb : planB p = true) : Dp p := by
  simp [K07.planB] at hb
  exact ⟨h, hb.1, hb.2⟩
end K07
end
section
namespace K07
open PySem EV MG
open MG
def lanesP (A : Sr) : List Pn := A.1.map (fun a => Pn.lane a.1 a.2) ++ (match A.2 with | some i => [Pn.endl i] | none => [])
def oneP : List Pn → Pn
  | [p] => p
  | ps => .many false ps
def formP (A : Sr) : Pn := oneP (lanesP A)
/-- small enough to be lanes -/
structure Fm (A : Sr) : Prop where
  gs : Gs A
  len : A.1.length ≤ 10
  am : ∀ a ∈ A.1, a.1 < 1000000000000 ∧ a.2 < 1000000000000
  en : ∀ i, A.2 = some i → i < 1000000000000
theorem lanes_ne {A : Sr} (g : Gs A) : lanesP A ≠ [] := by
  unfold lanesP
  cases e : A.2 with
  | none =>
    have := g.ne e
    simpa using this
  | some i => simp
theorem lanes_len {A : Sr} (g : Fm A) : (lanesP A).length ≤ 11 := by
  have := g.len
  unfold lanesP
  cases e : A.2 <;> simp <;> omega
theorem lanes_one {A : Sr} : ∀ p ∈ lanesP A, p.size = 1 ∧ p.depth = 1 := fun p hp => by
  unfold lanesP at hp
  rcases List.mem_append.mp hp with hp | hp
  · obtain ⟨a, _, rfl⟩ := List.mem_map.mp hp
    simp [Pn.size, Pn.depth]
  · cases e : A.2 with
    | none => simp [e] at hp
    | some i =>
      simp [e] at hp
      subst hp
      simp [Pn.size, Pn.depth]
theorem lanes_ok {A : Sr} (g : Fm A) : ∀ p ∈ lanesP A, p.Ok := fun p hp => by
  unfold lanesP at hp
  rcases List.mem_append.mp hp with hp | hp
  · obtain ⟨a, ha, rfl⟩ := List.mem_map.mp hp
    have h1 := g.gs.va.pos a ha
    have h2 := g.am a ha
    exact .lane _ _ h1.1 h2.1 h1.2 h2.2
  · cases e : A.2 with
    | none => simp [e] at hp
    | some i =>
      simp [e] at hp
      subst hp
      exact .endl _ (g.gs.va.en i e).1 (g.en i e)
theorem stL_map : ∀ ps : List Pn, Pn.stL ps = ps.map Pn.st
  | [] => by simp [Pn.stL]
  | p :: ps => by simp [Pn.stL, stL_map ps]
theorem lanes_sum (k : Int) : ∀ as : St, oSum ((as.map fun a => (Pn.lane a.1 a.2).st).map fun q => lev q k) = some (lowS as k)
  | [] => by simp [oSum, lowS]
  | a :: as => by
    have ih := lanes_sum k as
    simp only [List.map_cons, oSum, ih]
    have e : lev (Pn.lane a.1 a.2).st k = some (lowS [(a.1, a.2)] k) := rfl
    rw [e, low_cons, low_cons a as]
    have : lowS [] k = 0 := by simp [lowS]
    simp [oAdd, this]
theorem lanes_fold {A : Sr} (g : Gs A) (ok : ∀ p ∈ lanesP A, p.Ok) : foldS false ((lanesP A).map Pn.st) = A := by
  have hne : (lanesP A).map Pn.st ≠ [] := by simpa using lanes_ne g
  refine phi_ext (r := false) (fold_gs hne fun q hq => ?_) g fun k _ => ?_
  · obtain ⟨p, hp, rfl⟩ := List.mem_map.mp hq
    exact (Pn.good p (ok p hp)).1
  · rw [fold_phi false k hne]
    show oSum (((lanesP A).map Pn.st).map fun q => lev q k) = lev A k
    unfold lanesP
    rw [List.map_append, List.map_append, oSum_app]
    have h1 := lanes_sum k A.1
    rw [show ((A.1.map fun a : Int × Int => Pn.lane a.1 a.2).map Pn.st) = A.1.map fun a => (Pn.lane a.1 a.2).st from by rw [List.map_map]; rfl, h1]
    cases e : A.2 with
    | none => simp [oSum, oAdd, lev, e]
    | some i =>
      have e3 : lev (Pn.endl i).st k = if i < k then none else some 0 := by
        simp [lev, Pn.st, lowS]
      simp only [List.map_cons, List.map_nil, oSum, e3]
      by_cases h : i < k <;> simp [h, oAdd, lev, e]
theorem form_st {A : Sr} (g : Fm A) : (formP A).st = A := by
  have h := lanes_fold g.gs (lanes_ok g)
  unfold formP
  match hp : lanesP A, h with
  | [p], h => exact h
  | [], h => exact absurd hp (lanes_ne g.gs)
  | p :: q :: r, h =>
    show foldS false (Pn.stL (p :: q :: r)) = A
    rw [stL_map]
    exact h
theorem form_dp {A : Sr} (g : Fm A) : Dp (formP A) ∧ (formP A).size ≤ 12 ∧ (formP A).depth ≤ 2 := by
  have h1 := lanes_one (A := A)
  have h2 := lanes_ok g
  have h3 := lanes_len g
  have sz : ∀ ps : List Pn, (∀ p ∈ ps, p.size = 1 ∧ p.depth = 1) → Pn.sizeL ps = ps.length ∧ Pn.depthL ps ≤ 1 := fun ps => by
    induction ps with
    | nil => intro _; simp [Pn.sizeL, Pn.depthL]
    | cons p ps ih =>
      intro h
      obtain ⟨i1, i2⟩ := ih fun q hq => h q (by simp [hq])
      have := h p (by simp)
      simp only [Pn.sizeL, Pn.depthL, List.length_cons]
      omega
  unfold formP
  match hp : lanesP A, h1, h2, h3 with
  | [p], h1, h2, h3 =>
    have := h1 p (by simp)
    exact ⟨⟨h2 p (by simp), by show p.size ≤ 150; omega, by show p.depth ≤ 16; omega⟩, by show p.size ≤ 12; omega, by show p.depth ≤ 2; omega⟩
  | [], h1, h2, h3 => exact absurd hp (lanes_ne g.gs)
  | p :: q :: r, h1, h2, h3 =>
    obtain ⟨s1, s2⟩ := sz _ h1
    have a1 : (oneP (p :: q :: r)).size = 1 + Pn.sizeL (p :: q :: r) := rfl
    have a2 : (oneP (p :: q :: r)).depth = 1 + Pn.depthL (p :: q :: r) := rfl
    exact ⟨⟨.many _ _ (by simp) (by omega) h2, by omega, by omega⟩, by omega, by omega⟩
theorem form_ok {n : Nat} {A : Sr} {s : Sto} (g : Fm A) : callF T (n + 1) ix_form_of [.p (encT A)] s = .ok (.p (formP A).enc) s := by
  refine Ok.eq (ok_call (fn := c_form_of) rfl rfl fun c hc => ?_)
  have h3 := lanes_len g
  have ne := lanes_ne g.gs
  have e0 : ∀ xs : List P, b1P .list (.tup xs) = some (.lst xs) := fun _ => rfl
  have l10 := g.len
  have enc1 : ∀ as : St, as.map encS = (as.map fun a => Pn.lane a.1 a.2).map Pn.enc := fun as => by simp [encS, Pn.enc]
  obtain ⟨ys, hy⟩ : ∃ ys, ys = (lanesP A).map Pn.enc := ⟨_, rfl⟩
  have hl : ys.length ≤ 11 := by rw [hy, List.length_map]; exact h3
  have n12 : ¬ (12 : Int) < ys.length := by omega
  simp only [c_form_of]
  cases e : A.2
  case' none =>
    have ey : ys = A.1.map encS := by rw [hy, lanesP, e, enc1]; simp
    simp [encT, e, e0]
    rw [addP_lst (by rw [List.length_map]; simp [L]; omega)]
    rw [List.append_nil, ← ey]
  case' some i =>
    have ey : ys = A.1.map encS ++ [.tup [.str "endless", .int i]] := by rw [hy, lanesP, e, enc1]; simp [Pn.enc]
    simp [encT, e, e0]
    rw [addP_lst (by rw [List.length_map]; simp [L]; omega)]
    rw [← ey]
  all_goals
    simp
    refine ok_while (fun k σ s' => s' = s ∧ σ = [some (.p (encT A)), some (.p (.lst ys))] ∧ k = 0) (k := 0) ⟨rfl, by simp [encT, e]; try exact ey, rfl⟩ (by unfold L; omega) ?_
    rintro k σ s' ⟨rfl, rfl, rfl⟩
    simp [n12]
    have fin : (ys.length = 1 → ∃ p, ys = [p] ∧ (formP A).enc = p) ∧ (ys.length ≠ 1 → (formP A).enc = .tup [.str "beside", .tup ys]) := by
      unfold formP
      match hp : lanesP A, hy with
      | [p], hy => exact ⟨fun _ => ⟨p.enc, by rw [hy]; rfl, rfl⟩, fun z => absurd (by rw [hy]; rfl) z⟩
      | [], hy => exact absurd hp ne
      | p :: q :: r, hy => exact ⟨fun z => by rw [hy] at z; simp at z, fun _ => by rw [hy]; simp [oneP, Pn.enc, jnW, encL_map]⟩
    by_cases h1 : ys.length = 1
    · obtain ⟨p, rfl, hp⟩ := fin.1 h1
      simp [hp]
    · have h1' : ¬ (ys.length : Int) = 1 := by omega
      simp [h1', fin.2 h1]
theorem beside_form_ok {n : Nat} {A : Sr} {s : Sto} (g : Fm A) : callF T (n + 9) ix_beside_form [.p (encT A)] s = .ok (.p (formP A).enc) s := by
  refine Ok.eq (ok_call (fn := c_beside_form) rfl rfl fun c hc => ?_)
  have l10 := g.len
  have e1 := fun s => chk_st (n := n + 1) (s := s) g.gs (by omega)
  have e2 := fun s => form_ok (n := n + 7) (s := s) g
  have e3 := fun s => check_plan_ok (n := n) (s := s) (form_dp g).1
  simp [c_beside_form, hc, e1, e2, e3]
end K07
end
section
namespace K07
open PySem EV MG
open MG
theorem stair_of_ok {n : Nat} {p : Pn} {s : Sto} (h : Dp p) : callF T (n + 20) ix_stair_of [.p p.enc] s = .ok (.p (encT p.st)) s := by
  refine Ok.eq (ok_call (fn := c_stair_of) rfl rfl fun c hc => ?_)
  replace hc : c.C = callF T (n + 19) := hc
  have e1 := fun s => check_plan_ok (n := n + 11) (s := s) h
  have e2 := fun s => stair_in_d (n := n) (s := s) h
  simp [c_stair_of, hc, e1, e2]
end K07
end
section
namespace K07
open PySem EV MG
open MG
theorem mergedL_ok {n : Nat} {e : Option Int} {as : MG.St} {s : Sto} (hl : as.length ≤ 1000) : callF T (n + 1) ix__law_merged [.p (.lst (as.map encS)), .p (encE e)] s = .ok (.p (encT (merge e as, e))) s := put_gen rfl (.inr rfl) hl
theorem plans7_ok {n l b : Nat} {s : Sto} {Q : D → Sto → Prop} {E : Nat → Sto → Prop} (H : Hand s l b) (hB : b < 700000000) (hq : ∀ s', HS s l (b + 20) s' → Q (.p (.bl true)) s') : Ok (callF T (n + 30) ix__law_are_plans_right [.loc l] s) Q E := by
  refine ok_call (fn := c__law_are_plans_right) rfl rfl fun c hc => ?_
  replace hc : c.C = callF T (n + 29) := hc
  have hH := H.lt
  simp only [c__law_are_plans_right]
  simp [EV.start, hc]
  refine draw (n := n + 28) H (by omega) (bits_nat (k := 4) (by omega)) (by omega) fun f s0 f0 f1 k0 => ?_
  have bf : bnd (1 + f) = true := by simp [bnd]; omega
  simp [bf]
  refine ok_lcT (fun rem acc s' => ∃ as : St, acc = as.map encS ∧ (as.length : Int) + rem.length = 1 + f ∧ (∀ a ∈ as, 1 ≤ a.1 ∧ a.1 ≤ 9 ∧ 0 ≤ a.2 ∧ a.2 < 9) ∧ HS s l (b + 1 + 2 * as.length) s') ⟨[], rfl, by rw [rngL_len]; simp; omega, by simp, by simpa using k0⟩ ?_ ?_
  · rintro z rem acc s' ⟨as, rfl, h1, h2, h3⟩
    simp only [List.length_cons] at h1
    refine ⟨rfl, ?_⟩
    simp [hc]
    refine draw (n := n + 28) (h3.hand hH) (by omega) (bits_nat (k := 9) (by omega)) (by omega) fun u s1 u0 u1 k1 => ?_
    have K1 := h3.trans k1
    simp [hc]
    refine draw (n := n + 28) (K1.hand hH) (by omega) (bits_nat (k := 9) (by omega)) (by omega) fun w s2 w0 w1 k2 => ?_
    have K2 := K1.trans k2
    simp [L]
    refine ⟨_, _, ⟨rfl, rfl⟩, by omega, as ++ [(1 + u, w)], by simp [encS], by simp; omega, fun a a' ha => ?_, K2.mono (by simp; omega)⟩
    rcases List.mem_append.mp ha with ha | ha
    · exact h2 _ ha
    · cases List.mem_singleton.mp ha
      omega
  · rintro acc s1 ⟨as, rfl, h1, h2, K1⟩
    simp at h1
    refine ⟨rfl, ?_⟩
    have la : as.length ≤ 4 := by omega
    have lp : 1 ≤ as.length := by omega
    simp [hc]
    refine draw (n := n + 28) (K1.hand hH) (by omega) (bits_nat (k := 9) (by omega)) (by omega) fun u s2 u0 u1 k2 => ?_
    have K2 := K1.trans k2
    simp [hc]
    refine any_ok (n := n + 27) (K2.hand hH) (by simp) (by simp) (by omega) fun x s3 hx k3 => ?_
    have K3 := K2.trans k3
    obtain ⟨e, rfl, he⟩ : ∃ e : Option Int, x = encE e ∧ ∀ i, e = some i → 9 ≤ i ∧ i ≤ 18 := by
      simp only [List.mem_cons, List.not_mem_nil, or_false] at hx
      rcases hx with rfl | rfl
      · exact ⟨none, rfl, by simp⟩
      · exact ⟨some (9 + u), rfl, fun i hi => by cases hi; omega⟩
    have em := fun s => mergedL_ok (n := n + 28) (e := e) (as := as) (s := s) (by omega)
    obtain ⟨A, hA⟩ : ∃ A : Sr, A = (merge e as, e) := ⟨_, rfl⟩
    rw [← hA] at em
    have gs : Gs A := by
      rw [hA]
      refine ⟨mergeVa (fun a ha => ?_) (fun i hi => ?_), fun h => ?_⟩
      · have := h2 a ha
        omega
      · have := he i hi
        omega
      · simp only at h
        subst h
        exact merge_ne fun z => by subst z; simp at lp
    have gt : GT 6 A := by
      rw [hA]
      refine GT.merge (size := 18) (by omega) (by omega) (by omega) (fun a ha => ?_) (fun i hi => ?_) (fun z => ?_)
      · have := h2 a ha
        omega
      · have := he i hi
        omega
      · obtain ⟨z1, z2⟩ := z
        subst z2
        exact merge_ne (fun z => by subst z; simp at lp) z1
    have fm : Fm A := by
      refine ⟨gs, Nat.le_trans gt.len (by omega), fun a ha => ?_, fun i hi => ?_⟩
      · rw [hA] at ha
        obtain ⟨q1, q2, q, hq, q3⟩ := merge_mem ha
        have hle := (sumT_le (M := 9) (t := a.2) (by omega) (as := as.filter fun a => keep e a.2) fun c hc => by
          have := h2 c ((List.mem_filter.mp hc).1)
          omega).2
        rw [← q2] at hle
        have hlen : (as.filter fun a => keep e a.2).length ≤ 4 := Nat.le_trans (List.length_filter_le _ _) (by omega)
        have := h2 q hq
        omega
      · rw [hA] at hi
        have := he i hi
        omega
    have bf := fun s => beside_form_ok (n := n + 20) (s := s) fm
    simp [hc, em, bf]
    refine any_ok (n := n + 27) (K3.hand hH) (by simp) (by simp) (by omega) fun x s4 hx k4 => ?_
    have K4 := K3.trans k4
    obtain ⟨m, rfl, m1, m2⟩ : ∃ m : Int, x = .int m ∧ 1 ≤ m ∧ m ≤ 10 ^ 30 := by
      simp only [List.mem_cons, List.not_mem_nil, or_false] at hx
      rcases hx with rfl | rfl | rfl <;> exact ⟨_, rfl, by decide, by decide⟩
    obtain ⟨d1, d2, d3⟩ := form_dp fm
    have r1 := fun s => stair_of_ok (n := n + 9) (p := .rep true m (formP A)) (s := s) ⟨.rep _ _ _ m1 m2 d1.ok, by simp only [Pn.size]; omega, by simp only [Pn.depth]; omega⟩
    have r2 := fun s => stair_of_ok (n := n + 9) (p := .rep false m (formP A)) (s := s) ⟨.rep _ _ _ m1 m2 d1.ok, by simp only [Pn.size]; omega, by simp only [Pn.depth]; omega⟩
    have r3 := fun s => stair_of_ok (n := n + 9) (s := s) d1
    rw [form_st fm] at r3
    have q1 : (Pn.rep true m (formP A)).st = timesS m A := by simp only [Pn.st, if_true, form_st fm]
    have q2 : (Pn.rep false m (formP A)).st = copyS m A := by simp [Pn.st, form_st fm]
    rw [q1] at r1
    rw [q2] at r2
    simp only [Pn.enc, rpW] at r1 r2
    simp at r1 r2
    have l6 : A.1.length ≤ 6 := gt.len
    have t1 := fun s => law_times_ok (n := n + 27) (s := s) gs gt.bk m1 m2 (by omega) (by omega)
    have t2 := fun s => law_copies_ok (n := n + 27) (s := s) gs gt.bk m1 m2 (by omega) (by omega)
    have i1 := fun s => is_encT (n := n + 25) (A := A) (s := s) (by omega)
    have i2 := fun s => is_encT2 (n := n + 24) (A := timesS m A) (B := copyS m A) (s := s) (by simp [timesS]; omega) (by simp [copyS]; omega)
    simp [hc, r1, r2, r3, t1, t2, i1, i2, take_hs K4]
    exact hq _ (K4.mono (by omega))
end K07
end
section
namespace K07
open PySem EV MG
def wd7 : Nat → P
  | 2 => .str "BadStair"
  | 3 => .str "NoNumber"
  | _ => .str "other"
theorem word_x {act : Mo D} {k : Nat} {s : Sto} (h : act s = .exn k none s) (hk : k = 2 ∨ k = 3) : lamT T ix__law_word act s = .ok (.p (wd7 k)) s := by
  refine Ok.eq ?_
  show Ok (runL c__law_word act s) _ _
  unfold runL
  rw [ok_noX, ok_fin]
  simp only [c__law_word]
  rcases hk with rfl | rfl <;> simp [lamSg, sAct, lamK, blank, h, clean, cntP, blsP, ndxP, idxB, wd7, L]
theorem word_t {act : Mo D} {d : D} {s : Sto} (hd : act s = .ok d s) : lamT T ix__law_word act s = .ok (.p (.str "told")) s := by
  refine Ok.eq ?_
  show Ok (runL c__law_word act s) _ _
  unfold runL
  rw [ok_noX, ok_fin]
  simp only [c__law_word]
  simp [lamSg, sAct, lamK, blank, hd]
theorem word_xq {act : Mo D} {k : Nat} {s : Sto} {Q : D → Sto → Prop} {E : Nat → Sto → Prop} (hk : k = 2 ∨ k = 3) (h : Ok (act s) (fun _ _ => False) (fun k' s' => k' = k ∧ s' = s)) (hq : Q (.p (wd7 k)) s) : Ok (lamT T ix__law_word act s) Q E := by
  rw [word_x (eqx h) hk]
  exact hq
theorem word_tq {act : Mo D} {s : Sto} {Q : D → Sto → Prop} {E : Nat → Sto → Prop} (h : Ok (act s) (fun _ s' => s' = s) nE) (hq : Q (.p (.str "told")) s) : Ok (lamT T ix__law_word act s) Q E := by
  obtain ⟨d, hd⟩ : ∃ d, act s = .ok d s := by
    cases ha : act s with
    | ok a s' =>
      rw [ha] at h
      have : s' = s := h
      rw [this]
      exact ⟨a, rfl⟩
    | exn k a s' => rw [ha] at h; exact h.2.elim
    | stk => rw [ha] at h; exact h.elim
  rw [word_t hd]
  exact hq
end K07
end
section
namespace K07
open PySem EV MG
open MG
theorem okx {α : Type} {r : Res α} {a : α} (h : Ok r (fun a' _ => a' = a) nE) : ∃ s, r = .ok a s := by
  cases r with
  | ok a' s =>
    have h' : a' = a := h
    exact ⟨s, by rw [h']⟩
  | exn k a' s => exact h.2.elim
  | stk => exact h.elim
/-- small plain data, by a look -/
def plB : Nat → P → Bool
  | 0, .non => true
  | 0, .bl _ => true
  | 0, .int _ => true
  | 0, _ => false
  | _ + 1, .non => true
  | _ + 1, .bl _ => true
  | _ + 1, .int _ => true
  | k + 1, .tup xs => Nat.ble xs.length 1000 && xs.all (plB k)
  | k + 1, .lst xs => Nat.ble xs.length 1000 && xs.all (plB k)
  | _ + 1, _ => false
theorem pl_of : ∀ {k : Nat} {x : P}, plB k x = true → Pl k x := fun {k} => by
  induction k with
  | zero =>
    intro x h
    cases x <;> simp [plB] at h
    · exact .non 0
    · exact .bl 0 _
    · exact .int 0 _
  | succ k ih =>
    intro x h
    cases x <;> simp only [plB, Bool.and_eq_true, List.all_eq_true] at h
    · exact .non _
    · exact .bl _ _
    · exact .int _ _
    · cases h
    · exact .tup k _ (Nat.le_of_ble_eq_true h.1) fun x hx => ih (h.2 x hx)
    · exact .lst k _ (Nat.le_of_ble_eq_true h.1) fun x hx => ih (h.2 x hx)
    · cases h
    · cases h
theorem is_known {n : Nat} {k : Nat} {x : P} {s : Sto} (h : plB k x = true) : callF T (n + k + 1) ix__law_is [.p x, .p x] s = .ok (.p (.bl true)) s := is_self (n := n) (pl_of h)
end K07
end
section
namespace K07
open PySem EV MG
open MG
theorem okx7 {α : Type} {r : Res α} {a : α} (h : Ok r (fun a' _ => a' = a) nE) : ∃ s, r = .ok a s := by
  cases r with
  | ok a' s =>
    have : a' = a := h
    exact ⟨s, by rw [this]⟩
  | exn k a s => exact h.2.elim
  | stk => exact h.elim
theorem k7 : Gs ([((3 : Int), (0 : Int)), (2, 8)], some 9) := ⟨⟨by simp [AscS, Asc], by simp, by simp⟩, by simp⟩
theorem k7b : Bk 1000 ([((3 : Int), (0 : Int)), (2, 8)], some 9) := by
  have h : ∀ i : Int, i ≤ 2 ^ 10 → i ≤ 2 ^ 1000 := fun i h => Int.le_trans h (pow_mono (by omega))
  refine ⟨fun a ha => ?_, fun i hi => ?_⟩
  · simp at ha
    rcases ha with rfl | rfl <;> exact ⟨h _ (by decide), h _ (by decide)⟩
  · cases hi
    exact h _ (by decide)
theorem m8 : mulP (.int 8) (.int 1000000000000000000000000000000) = some (.int 8000000000000000000000000000000) := by
  rw [mulP_ok (by decide +kernel)]
  rfl
theorem m9 : mulP (.int 9) (.int 1000000000000000000000000000000) = some (.int 9000000000000000000000000000000) := by
  rw [mulP_ok (by decide +kernel)]
  rfl
theorem mul2 {x : P} : mulP (.lst [x]) (.int 2) = some (.lst [x, x]) := by simp [mulP, List.replicate]
theorem eqW7 : eqP (.lst [.str "BadStair", .str "BadStair", .str "NoNumber", .str "NoNumber"]) (.lst [.str "BadStair", .str "BadStair", .str "NoNumber", .str "NoNumber"]) = some true := by decide +kernel
def l7O (s0 : Sto) (rem : List P) (σ : Sg) (s' : Sto) : Prop := ∃ (v0 v2 v3 v4 v5 v6 v7 : Option D) (b : Nat), σ = [v0, some (.loc 0), v2, v3, v4, v5, v6, v7] ∧ HS s0 0 b s' ∧ b + 1000 * rem.length ≤ 4000 ∧ rem.length ≤ 4
theorem plain (ns : List Int) (hl : ns.length ≤ 63) (hb : ∀ z ∈ ns, Builtin.Int.intBits z ≤ 1048576) : ∃ s, callF (fun i => fns[i]?) 201 ix_law [scr ns] [] = .ok (.p (.bl true)) s := by
  refine okx7 (ok_callL (fns := fns) (n := 197) (fn := c_law) rfl rfl fun c hc hlo hlam => ?_)
  replace hc : c.C = callF T 200 := hc
  obtain ⟨h0, e0, ho⟩ := hand_ok (n := 199) hl hb
  have H0 : Hand [h0.mo] 0 0 := ⟨h0, rfl, ho⟩
  have r1 : ∀ s, callF T 200 ix_times [.p (.tup [.tup [.tup [.int 3, .int 0], .tup [.int 2, .int 8]], .int 9]), .p (.int 1000000000000000000000000000000)] s = .ok (.p (.tup [.tup [.tup [.int 3, .int 0], .tup [.int 2, .int 8000000000000000000000000000000]], .int 9000000000000000000000000000000])) s := fun s => by
    have := times_ok (n := 192) (m := 1000000000000000000000000000000) (s := s) k7 k7b (by decide) (by decide) (by omega) (by simp)
    rw [show timesS 1000000000000000000000000000000 ([((3 : Int), (0 : Int)), (2, 8)], some 9) = ([(3, 0), (2, 8000000000000000000000000000000)], some 9000000000000000000000000000000) from by decide +kernel] at this
    exact this
  have r2 : ∀ s, callF T 200 ix_copies [.p (.tup [.tup [.tup [.int 3, .int 0], .tup [.int 2, .int 8]], .int 9]), .p (.int 2)] s = .ok (.p (.tup [.tup [.tup [.int 6, .int 0], .tup [.int 4, .int 8]], .int 9])) s := fun s => by
    have := copies_ok (n := 192) (m := 2) (s := s) k7 k7b (by decide) (by decide) (by omega) (by simp)
    rw [show copyS 2 ([((3 : Int), (0 : Int)), (2, 8)], some 9) = ([(6, 0), (4, 8)], some 9) from by decide +kernel] at this
    exact this
  have i1 : ∀ s, callF T 200 ix__law_is [.p (.lst [.tup [.tup [.tup [.int 3, .int 0], .tup [.int 2, .int 8000000000000000000000000000000]], .int 9000000000000000000000000000000], .tup [.tup [.tup [.int 6, .int 0], .tup [.int 4, .int 8]], .int 9]]), .p (.lst [.tup [.tup [.tup [.int 3, .int 0], .tup [.int 2, .int 8000000000000000000000000000000]], .int 9000000000000000000000000000000], .tup [.tup [.tup [.int 6, .int 0], .tup [.int 4, .int 8]], .int 9]])] s = .ok (.p (.bl true)) s := fun s => is_known (n := 195) (k := 4) (by decide +kernel)
  simp only [c_law]
  simp only [scr] at e0
  simp [EV.start, scr, hc, e0, L, r1, r2, m8, m9, i1, bnd]
  refine ok_forT (l7O [h0.mo]) ⟨_, _, none, none, none, none, none, 0, rfl, H0.refl, ?_, ?_⟩ ?_ ?_
  · rw [rngL_len]
    decide
  · rw [rngL_len]
    decide
  · rintro z r σ s' ⟨v0, v2, v3, v4, v5, v6, v7, b, rfl, k0, hb1, hb2⟩
    simp only [List.length_cons] at hb1 hb2
    refine ⟨rfl, ?_⟩
    have hH := H0.lt
    simp [hc]
    refine lawstair_draw (n := 197) (most := 6) (k0.hand hH) (by omega) (by omega) (by omega) fun st s1 g k1 => ?_
    have K1 := k0.trans k1
    simp [hc]
    refine right7_ok (n := 180) (K1.hand hH) g (by omega) fun s2 k2 => ?_
    have K2 := K1.trans k2
    simp [hc]
    refine plans7_ok (n := 170) (K2.hand hH) (by omega) fun s3 k3 => ?_
    have K3 := K2.trans k3
    simp [hc]
    refine any_ok (n := 198) (K3.hand hH) (by simp) (by simp) (by omega) fun x s4 hx k4 => ?_
    have K4 := K3.trans k4
    have bx : Wf x ∧ (stair x).isSome = false := by
      simp only [List.mem_cons, List.not_mem_nil, or_false] at hx
      rcases hx with rfl | rfl | rfl | rfl | rfl | rfl
      · exact ⟨.non, by decide⟩
      · exact ⟨.tup _ (by simp) (by simp), by decide⟩
      · exact ⟨.tup _ (by simp) (by simp; exact ⟨.tup _ (by simp) (by simp), .non⟩), by decide⟩
      · exact ⟨.tup _ (by simp) (by simp; exact ⟨.tup _ (by simp) (by simp), .int _⟩), by decide⟩
      · exact ⟨.int _, by decide⟩
      · exact ⟨.str _, by decide⟩
    clear hx
    simp [hc]
    refine any_ok (n := 198) (K4.hand hH) (by simp) (by simp) (by omega) fun y s5 hy k5 => ?_
    have K5 := K4.trans k5
    have by1 : isFn y = false ∧ (isInt y && (decide (1 ≤ intOf y) && decide (intOf y ≤ 1000000000000000000000000000000))) = false := by
      simp only [List.mem_cons, List.not_mem_nil, or_false] at hy
      rcases hy with rfl | rfl | rfl | rfl | rfl | rfl <;> exact ⟨rfl, by decide⟩
    clear hy
    have l6 : st.1.length ≤ 6 := g.len
    have t1 := fun s => times_no1 (n := 189) (y := .p y) (s := s) bx.1 bx.2
    have t2 := fun s => copies_no1 (n := 189) (y := .p y) (s := s) bx.1 bx.2
    have t3 := fun s => times_no2 (n := 189) (s := s) g.gs (by omega) by1.1 by1.2
    have t4 := fun s => copies_no2 (n := 189) (s := s) g.gs (by omega) by1.1 by1.2
    simp [ok_eLam, hlam]
    refine word_xq (k := 2) (by simp) (by simp [hlo, t1]) ?_
    simp [hlam, ok_eLam, wd7]
    refine word_xq (k := 2) (by simp) (by simp [hlo, t2]) ?_
    simp [hlam, ok_eLam, wd7]
    refine word_xq (k := 3) (by simp) (by simp [hlo, t3]) ?_
    simp [hlam, ok_eLam, wd7]
    refine word_xq (k := 3) (by simp) (by simp [hlo, t4]) ?_
    simp [hlam, ok_eLam, wd7]
    rw [addP_lst (by simp [L])]
    simp [mul2]
    rw [addP_lst (by simp [L])]
    simp [eqW7]
    exact ⟨_, _, _, _, _, _, _, _, rfl, K5, by omega, by omega⟩
  · rintro σ s' ⟨v0, v2, v3, v4, v5, v6, v7, b, rfl, k0, hb1, hb2⟩
    refine ⟨rfl, ?_⟩
    simp
end K07
end
theorem PySem.Challenge.cw_carrycurve_k07_whole_times_and_copies_holds : PySem.Challenge.rw_carrycurve_k07_whole_times_and_copies.Holds := by
  exact K07.ends K07.plain
