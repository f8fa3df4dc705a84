import PyProof.Rows.All
import Wide.All
import OpenK.AllK
import Wide.FinOn
import HandS.ForMost
import HandS.Exc
import HandS.TryOnly
import HandS.ExcOwn
import HandS.WordsExc
import HandS.Wide
import HandS.Style
import HandS.Conv
import HandS.Deep
import HandS.IsInst
import HandS.Lambda
import HandS.EndTab
import HandS.SortInts
import HandS.Small
import HandS.CallLocal
import HandS.DictComp
import HandS.Flow
import HandS.Zip
import HandS.TupAny
import HandS.TupLen
import KE.DataMinMax
import PyProof.DictUpdate
import HandS.ExcIs
import KE.KNestM
import HandS.TupMul
import PyProof.LongRange
import PyProof.ReprRoads
import KE.LtData
import KE.GoesEnum
import PyProof.WalksMore
import PyProof.ReprBulk
import PyProof.FitsInt
import PySem.Challenge.RW_coverallrows_k62_whole_parts_in_their_ro
set_option Elab.async false
set_option linter.all false
/-! Pure python, 1: plain data, environments, denotations. -/
namespace PP
open PySem L2

/-- plain data -/
inductive D where
  | non | bl (b : Bool) | int (i : Int) | str (x : Str)
  | tup (xs : List D) | lst (xs : List D)
  | dK (kvs : List (Key × D)) | dT (kvs : List (List Key × D))
  | fn (f : Nat) | scr (ns : List Int) | exo
instance : Inhabited D := ⟨.non⟩

/-- how a slot holds a thing: shared, owned, a parameter lent by the caller, such a one shared meanwhile -/
inductive Fl where
  | sh | ow | pa | ps
  deriving DecidableEq
def Fl.own : Fl → Bool
  | .ow => true | .pa => true | _ => false
def Fl.par : Fl → Bool
  | .pa => true | .ps => true | _ => false
/-- the flag once it is shared -/
def Fl.shut : Fl → Fl
  | .ow => .sh | .pa => .ps | f => f

abbrev Slot := Option (Fl × D)
abbrev Env := List Slot

inductive Res (α : Type) where
  | ok (a : α) (ρ : Env)
  | exc (c : Nat) (p : Option D) (ρ : Env)
  | bad

abbrev M (α : Type) := Env → Res α
def pur {α : Type} (a : α) : M α := fun ρ => .ok a ρ
def bnd {α β : Type} (m : M α) (k : α → M β) : M β := fun ρ => match m ρ with
  | .ok a ρ' => k a ρ'
  | .exc c p ρ' => .exc c p ρ'
  | .bad => .bad

/-- an expression's value: a thing, or what the slot i holds -/
inductive R where
  | v (fl : Fl) (d : D)
  | s (i : Nat)

def slotD (ρ : Env) (i : Nat) : Option D := match ρ[i]? with
  | some (some (_, d)) => some d
  | _ => none
def deref (ρ : Env) : R → Option D
  | .v _ d => some d
  | .s i => slotD ρ i

def ofOpt {α : Type} (o : Option α) : M α := fun ρ => match o with
  | some a => .ok a ρ
  | none => .bad

/-! expressions -/
def mC (d : D) : M R := pur (.v .sh d)
/-- a name, its thing shared from now on -/
def mV (i : Nat) : M R := fun ρ => match ρ[i]? with
  | some (some (fl, d)) => if fl.own then .ok (.v .sh d) (ρ.set i (some (fl.shut, d))) else .ok (.v .sh d) ρ
  | _ => .bad
/-- a name, looked at -/
def mB (i : Nat) : M R := fun ρ => match ρ[i]? with
  | some (some _) => .ok (.s i) ρ
  | _ => .bad
def opR (ρ : Env) (o : Option (Fl × D)) : Res R := match o with
  | some (fl, d) => .ok (.v fl d) ρ
  | none => .bad
def mOp1 (f : D → Option (Fl × D)) (a : M R) : M R := bnd a fun ra ρ => match deref ρ ra with
  | some x => opR ρ (f x)
  | none => .bad
def mOp2 (f : D → D → Option (Fl × D)) (a b : M R) : M R := bnd a fun ra => bnd b fun rb ρ => match deref ρ ra, deref ρ rb with
  | some x, some y => opR ρ (f x y)
  | _, _ => .bad
def mOp3 (f : D → D → D → Option (Fl × D)) (a b c : M R) : M R := bnd a fun ra => bnd b fun rb => bnd c fun rc ρ => match deref ρ ra, deref ρ rb, deref ρ rc with
  | some x, some y, some z => opR ρ (f x y z)
  | _, _, _ => .bad
/-- a list of arguments or items, each shared from now on -/
def mNil : M (List D) := pur []
def mCons (a : M R) (r : M (List D)) : M (List D) := bnd a fun ra => fun ρ => match ra with
  | .v _ d => (bnd r fun ds => pur (d :: ds)) ρ
  | .s _ => .bad
def mTup (a : M (List D)) : M R := bnd a fun ds => if ds.length ≤ sizeLine then pur (.v .sh (.tup ds)) else fun _ => .bad
def mLst (a : M (List D)) : M R := bnd a fun ds => if ds.length ≤ sizeLine then pur (.v .ow (.lst ds)) else fun _ => .bad
/-- as a test -/
def mTst (a : M R) : M Bool := bnd a fun ra ρ => match deref ρ ra with
  | some (.bl b) => .ok b ρ
  | _ => .bad
def truD : D → Option Bool
  | .non => some false
  | .bl b => some b
  | .int i => some (i != 0)
  | .str x => if x.length ≤ sizeLine then some ((x.length : Int) != 0) else none
  | .lst xs => some (!xs.isEmpty)
  | .tup xs => some (!xs.isEmpty)
  | _ => none
def mTru (a : M R) : M Bool := bnd a fun ra ρ => match (deref ρ ra).bind truD with
  | some b => .ok b ρ
  | none => .bad
def mAnd (a b : M Bool) : M Bool := bnd a fun x => if x then b else pur false
def mOr (a b : M Bool) : M Bool := bnd a fun x => if x then pur true else b
def mNot (a : M Bool) : M Bool := bnd a fun x => pur (!x)
/-- .. as values -/
def mAndV (a b : M R) : M R := bnd (mTst a) fun x => if x then b else pur (.v .sh (.bl false))
def mOrV (a b : M R) : M R := bnd (mTst a) fun x => if x then pur (.v .sh (.bl true)) else b
def mNotV (a : M R) : M R := bnd (mTst a) fun x => pur (.v .sh (.bl (!x)))
def mIf (c : M Bool) (a b : M R) : M R := bnd c fun x => if x then a else b
/-- a op b op' c -/
def mChain (f g : D → D → Option Bool) (a b c : M R) : M R := bnd a fun ra => bnd b fun rb ρ => match deref ρ ra, deref ρ rb with
  | some x, some y => match f x y with
    | some true => (bnd c fun rc ρ' => match deref ρ' rb, deref ρ' rc with
      | some y, some z => match g y z with
        | some k => .ok (.v .sh (.bl k)) ρ'
        | none => .bad
      | _, _ => .bad) ρ
    | some false => .ok (.v .sh (.bl false)) ρ
    | none => .bad
  | _, _ => .bad

/-! calls -/
structure Ag where
  src : Option (Nat × Fl)
  fl : Fl
  d : D
/-- what a def makes of its arguments: its end, and how it gives back what was lent -/
inductive FRes where
  | ok (fl : Fl) (d : D) (back : List (Fl × D))
  | exc (c : Nat) (p : Option D)
  | bad
abbrev FM := List (Fl × D) → FRes
def aNil : M (List Ag) := pur []
def aVal (a : M R) (r : M (List Ag)) : M (List Ag) := bnd a fun ra => fun ρ => match ra with
  | .v _ d => (bnd r fun ds => pur (⟨none, .sh, d⟩ :: ds)) ρ
  | .s _ => .bad
/-- the thing of the slot i is lent -/
def aLend (i : Nat) (r : M (List Ag)) : M (List Ag) := fun ρ => match ρ[i]? with
  | some (some (fl, d)) => if fl.own then (bnd r fun ds => pur (⟨some (i, fl), .ow, d⟩ :: ds)) (ρ.set i none) else .bad
  | _ => .bad
/-- what was lent comes back -/
def giveBack : List Ag → List (Fl × D) → Env → Option Env
  | [], [], ρ => some ρ
  | ⟨some (i, fl), _, _⟩ :: as, (g, d) :: bs, ρ => if g = .ow then giveBack as bs (ρ.set i (some (fl, d))) else if g = .sh then giveBack as bs (ρ.set i (some (fl.shut, d))) else none
  | ⟨none, _, _⟩ :: as, bs, ρ => giveBack as bs ρ
  | _, _, _ => none
def mCall (f : FM) (as : M (List Ag)) : M R := bnd as fun ags ρ => match f (ags.map fun a => (a.fl, a.d)) with
  | .ok fl d back => match giveBack ags back ρ with
    | some ρ' => .ok (.v fl d) ρ'
    | none => .bad
  | .exc c p => .exc c p ρ
  | .bad => .bad

/-! statements -/
inductive Flow where
  | nx | bk | ct | rt (fl : Fl) (d : D)
def sNil : M Flow := pur .nx
def sSeq (a b : M Flow) : M Flow := bnd a fun f => match f with
  | .nx => b
  | _ => pur f
def sSet (i : Nat) (a : M R) : M Flow := bnd a fun ra ρ => match ra with
  | .v fl d => if i < ρ.length ∧ fl.par = false then .ok .nx (ρ.set i (some (fl, d))) else .bad
  | .s _ => .bad
def sExp (a : M R) : M Flow := bnd a fun _ => pur .nx
def sRet (a : M R) : M Flow := bnd a fun ra => match ra with
  | .v fl d => pur (.rt fl d)
  | .s _ => fun _ => .bad
/-- return x: what is owned goes with it -/
def sRetV (i : Nat) : M Flow := fun ρ => match ρ[i]? with
  | some (some (.ow, d)) => .ok (.rt .ow d) (ρ.set i none)
  | some (some (.pa, d)) => .ok (.rt .sh d) (ρ.set i (some (.ps, d)))
  | some (some (_, d)) => .ok (.rt .sh d) ρ
  | _ => .bad
def sIf (c : M Bool) (a b : M Flow) : M Flow := bnd c fun x => if x then a else b
def sRaise (c : Nat) (a : M (List D)) : M Flow := bnd a fun ds => fun ρ => .exc c none ρ
def sBrk : M Flow := pur .bk
def sCont : M Flow := pur .ct
/-- where the loop's fuel ends it is bad -/
def sWhile (n : Nat) (c : M Bool) (b : M Flow) : M Flow := fun ρ => match n with
  | 0 => .bad
  | n + 1 => (bnd c fun x => if x then bnd b fun f => (match f with
      | .nx => sWhile n c b
      | .ct => sWhile n c b
      | .bk => pur .nx
      | .rt fl d => pur (.rt fl d)) else pur .nx) ρ
/-- the targets of a for, a comprehension, an assignment: what they do to the environment -/
abbrev Tg := D → M Unit
def gV (i : Nat) : Tg := fun d ρ => if i < ρ.length then .ok () (ρ.set i (some (.sh, d))) else .bad
def gTs : List Tg → List D → M Unit
  | [], [] => pur ()
  | g :: gs, d :: ds => bnd (g d) fun _ => gTs gs ds
  | _, _ => fun _ => .bad
def gT (gs : List Tg) : Tg := fun d => match d with
  | .tup ds => gTs gs ds
  | _ => fun _ => .bad
def loopF (g : Tg) (b : M Flow) : List D → M Flow
  | [] => pur .nx
  | d :: ds => fun ρ => match g d ρ with
    | .ok _ ρ' => (bnd b fun f => match f with
      | .nx => loopF g b ds
      | .ct => loopF g b ds
      | .bk => pur .nx
      | .rt fl e => pur (.rt fl e)) ρ'
    | _ => .bad
def sFor (it : M (List D)) (g : Tg) (b : M Flow) : M Flow := bnd it fun ds => loopF g b ds
def sAsg (a : M R) (g : Tg) : M Flow := bnd a fun ra => match ra with
  | .v _ d => fun ρ => match g d ρ with
    | .ok _ ρ' => .ok .nx ρ'
    | _ => .bad
  | .s _ => fun _ => .bad
/-- a, b = x, y: each thing goes over as it is -/
def mRs : List (M R) → M (List (Fl × D))
  | [] => pur []
  | a :: as => bnd a fun ra => fun ρ => match ra with
    | .v fl d => (bnd (mRs as) fun ds => pur ((fl, d) :: ds)) ρ
    | .s _ => .bad
def setAll : List Nat → List (Fl × D) → Env → Option Env
  | [], [], ρ => some ρ
  | i :: is, x :: xs, ρ => if i < ρ.length ∧ x.1.par = false then setAll is xs (ρ.set i (some x)) else none
  | _, _, _ => none
def sPar (is : List Nat) (as : List (M R)) : M Flow := bnd (mRs as) fun xs ρ => match setAll is xs ρ with
  | some ρ' => .ok .nx ρ'
  | none => .bad

/-! what is walked -/
def signs (x : Str) : List D := x.cps.toList.map fun c => .str ⟨#[c]⟩
def iterD : D → Option (List D)
  | .lst ds => some ds
  | .tup ds => some ds
  | .str x => some (signs x)
  | _ => none
def iSeq (a : M R) : M (List D) := bnd a fun ra => match ra with
  | .v _ d => ofOpt (iterD d)
  | .s _ => fun _ => .bad
def rngD (lo : Int) (n : Nat) (c : Int) : List D := (List.range n).map fun i => .int (lo + (i : Nat) * c)
def small62 (i : Int) : Bool := decide (-(2 ^ 62) ≤ i) && decide (i < 2 ^ 62)
def intOf : D → Option Int
  | .int i => some i
  | _ => none
def iRg1 (a : M R) : M (List D) := bnd a fun ra ρ => match (deref ρ ra).bind intOf with
  | some j => if small62 j then .ok (rngD 0 j.toNat 1) ρ else .bad
  | none => .bad
def iRg2 (a b : M R) : M (List D) := bnd a fun ra => bnd b fun rb ρ => match (deref ρ ra).bind intOf, (deref ρ rb).bind intOf with
  | some i, some j => if small62 i && small62 j then .ok (rngD i (j - i).toNat 1) ρ else .bad
  | _, _ => .bad
/-- the number of turns of range(i, j, c) -/
def rgN (i j c : Int) : Nat := (Builtin.Range.rangeSize i j c).toNat
def iRg3 (a b c : M R) : M (List D) := bnd a fun ra => bnd b fun rb => bnd c fun rc ρ => match (deref ρ ra).bind intOf, (deref ρ rb).bind intOf, (deref ρ rc).bind intOf with
  | some i, some j, some k => if decide (k ≠ 0) && decide (k.natAbs < 1073741824) && Builtin.Range.small i j k && decide (0 ≤ Builtin.Range.rangeSize i j k) then .ok (rngD i (rgN i j k) k) ρ else .bad
  | _, _, _ => .bad
def zipD (xs ys : List D) : List D := List.zipWith (fun x y => .tup [x, y]) xs ys
def iZip (a b : M R) : M (List D) := bnd a fun ra => fun ρ => match ra with
  | .v _ x => (bnd b fun rb ρ => match rb with
    | .v _ y => match x, y with
      | .lst xs, .lst ys => .ok (zipD xs ys) ρ
      | .tup xs, .tup ys => .ok (zipD xs ys) ρ
      | _, _ => .bad
    | .s _ => .bad) ρ
  | .s _ => .bad
def enumD (xs : List D) : List D := (List.range xs.length).zipWith (fun i x => .tup [.int (i : Nat), x]) xs
def iEnum (a : M R) : M (List D) := bnd a fun ra => match ra with
  | .v _ (.lst xs) => pur (enumD xs)
  | _ => fun _ => .bad

/-! operations on things -/
mutual
def toP : D → Option PyData
  | .non => some .none
  | .bl b => some (.bool b)
  | .int i => some (.int i)
  | .str x => some (.str x)
  | .tup ds => match toPs ds with
    | some ps => some (.tuple ps)
    | none => none
  | .lst ds => match toPs ds with
    | some ps => some (.list ps)
    | none => none
  | _ => none
def toPs : List D → Option (List PyData)
  | [] => some []
  | d :: ds => match toP d, toPs ds with
    | some p, some ps => some (p :: ps)
    | _, _ => none
end
abbrev sh (d : D) : Option (Fl × D) := some (.sh, d)
abbrev shB (b : Bool) : Option (Fl × D) := some (.sh, .bl b)
abbrev shI (i : Int) : Option (Fl × D) := some (.sh, .int i)
def shp (p : PyData) : Bool := SeqAt.shaped p
/-- == of data -/
def eqD' (x y : D) : Option Bool := match toP x, toP y with
  | some p, some q => if shp p && shp q then some (PyData.eqv p q) else none
  | _, _ => none
def eqD (x y : D) : Option (Fl × D) := (eqD' x y).map fun b => (.sh, .bl b)
def neD (x y : D) : Option (Fl × D) := (eqD' x y).map fun b => (.sh, .bl (!b))
def iD2 (C : Int → Int → Bool) (g : Int → Int → Int) (x y : D) : Option (Fl × D) := match x, y with
  | .int i, .int j => if C i j then shI (g i j) else none
  | _, _ => none
def bD2 (g : Int → Int → Bool) (x y : D) : Option (Fl × D) := match x, y with
  | .int i, .int j => shB (g i j)
  | _, _ => none
def addI : D → D → Option (Fl × D) := iD2 (fun _ _ => true) (· + ·)
def addS (x y : D) : Option (Fl × D) := match x, y with
  | .str a, .str b => if a.length + b.length ≤ sizeLine then sh (.str (a ++ b)) else none
  | _, _ => none
def addL (x y : D) : Option (Fl × D) := match x, y with
  | .lst a, .lst b => if a.length + b.length ≤ sizeLine then some (.ow, .lst (a ++ b)) else none
  | _, _ => none
def addT (x y : D) : Option (Fl × D) := match x, y with
  | .tup a, .tup b => if a.length + b.length ≤ sizeLine then sh (.tup (a ++ b)) else none
  | _, _ => none
def subI : D → D → Option (Fl × D) := iD2 (fun _ _ => true) (· - ·)
def mulI : D → D → Option (Fl × D) := iD2 (fun i j => decide (i.natAbs.log2 + j.natAbs.log2 < 1000000)) (· * ·)
def fdivI : D → D → Option (Fl × D) := iD2 (fun _ j => decide (0 < j) && decide (j.natAbs.log2 < 9000)) (· / ·)
def modI : D → D → Option (Fl × D) := iD2 (fun _ j => decide (0 < j)) (· % ·)
def powI : D → D → Option (Fl × D) := iD2 (fun i j => decide (0 ≤ j) && decide (j ≤ 1000000) && decide (i.natAbs < 2 ^ 64)) fun i j => i ^ j.toNat
def ltI : D → D → Option (Fl × D) := bD2 fun i j => decide (i < j)
def leI : D → D → Option (Fl × D) := bD2 fun i j => decide (i ≤ j)
def gtI : D → D → Option (Fl × D) := bD2 fun i j => decide (j < i)
def geI : D → D → Option (Fl × D) := bD2 fun i j => decide (j ≤ i)
def negI (x : D) : Option (Fl × D) := match x with
  | .int i => shI (-i)
  | _ => none
def absI (x : D) : Option (Fl × D) := match x with
  | .int i => shI (if i < 0 then -i else i)
  | _ => none
def isNonD (x : D) : Bool := match x with
  | .non => true
  | _ => false
/-- is, is not of None and of bools -/
def isD (x y : D) : Option (Fl × D) := match y with
  | .non => shB (isNonD x)
  | .bl b => match x with
    | .bl a => shB (decide (a = b))
    | _ => none
  | _ => none
def notD (x y : D) : Option (Fl × D) := match y with
  | .non => shB (!isNonD x)
  | .bl b => match x with
    | .bl a => shB (!decide (a = b))
    | _ => none
  | _ => none
/-- a place from either end -/
def atD (ds : List D) (i : Int) : Option D := atI ds i
def ixD (x y : D) : Option (Fl × D) := match x, y with
  | .lst ds, .int i => (atD ds i).map fun d => (.sh, d)
  | .tup ds, .int i => (atD ds i).map fun d => (.sh, d)
  | .str z, .int i => if z.length ≤ sizeLine then (atI z.cps.toList i).map fun c => (.sh, .str ⟨#[c]⟩) else none
  | _, _ => none
def cutD (ds : List D) (lo hi : Option Int) : List D := (ds.drop (HT.sIx ds.length 0 lo)).take (HT.sIx ds.length ds.length hi - HT.sIx ds.length 0 lo)
def sliceD (x : D) (lo hi : Option Int) : Option (Fl × D) := match x with
  | .lst ds => some (.ow, .lst (cutD ds lo hi))
  | .scr ns => some (.ow, .lst (cutD (ns.map D.int) lo hi))
  | .tup ds => sh (.tup (cutD ds lo hi))
  | .str z => if z.length ≤ sizeLine then sh (.str (Txt.slice z lo hi)) else none
  | _ => none
def lenD (x : D) : Option (Fl × D) := match x with
  | .str z => if z.length ≤ sizeLine then shI z.length else none
  | .lst ds => shI ds.length
  | .tup ds => shI ds.length
  | .scr ns => shI ns.length
  | .dK kvs => shI kvs.length
  | .dT kvs => shI kvs.length
  | _ => none
def intsOf : List D → Option (List Int)
  | [] => some []
  | .int i :: ds => match intsOf ds with
    | some is => some (i :: is)
    | none => none
  | _ => none
def blsOf : List D → Option (List Bool)
  | [] => some []
  | .bl i :: ds => match blsOf ds with
    | some is => some (i :: is)
    | none => none
  | _ => none
def strsOf : List D → Option (List Str)
  | [] => some []
  | .str i :: ds => match strsOf ds with
    | some is => some (i :: is)
    | none => none
  | _ => none
def insI (x : Int) : List Int → List Int
  | [] => [x]
  | y :: ys => if x ≤ y then x :: y :: ys else y :: insI x ys
def sortI (l : List Int) : List Int := l.foldr insI []
def sumD (x : D) : Option (Fl × D) := match x with
  | .lst ds => (intsOf ds).map fun is => (.sh, .int is.sum)
  | _ => none
def allD (x : D) : Option (Fl × D) := match x with
  | .lst ds => (blsOf ds).map fun bs => (.sh, .bl (bs.all id))
  | _ => none
def anyD (x : D) : Option (Fl × D) := match x with
  | .lst ds => (blsOf ds).map fun bs => (.sh, .bl (bs.any id))
  | _ => none
def leastI : Int → List Int → Int
  | m, [] => m
  | m, x :: xs => leastI (if x < m then x else m) xs
def mostI : Int → List Int → Int
  | m, [] => m
  | m, x :: xs => mostI (if m < x then x else m) xs
def seqOf : D → Option (List D)
  | .lst ds => some ds
  | .tup ds => some ds
  | _ => none
def minD (x : D) : Option (Fl × D) := match (seqOf x).bind intsOf with
  | some (i :: is) => shI (leastI i is)
  | _ => none
def maxD (x : D) : Option (Fl × D) := match (seqOf x).bind intsOf with
  | some (i :: is) => shI (mostI i is)
  | _ => none
def min2I : D → D → Option (Fl × D) := iD2 (fun _ _ => true) fun i j => if j < i then j else i
def max2I : D → D → Option (Fl × D) := iD2 (fun _ _ => true) fun i j => if j > i then j else i
def sortedD (x : D) : Option (Fl × D) := match x with
  | .lst ds => (intsOf ds).map fun is => (.ow, .lst ((sortI is).map D.int))
  | _ => none
def tupleD (x : D) : Option (Fl × D) := (seqOf x).map fun ds => (.sh, .tup ds)
def listD (x : D) : Option (Fl × D) := (seqOf x).map fun ds => (.ow, .lst ds)
def intD (x : D) : Option (Fl × D) := match x with
  | .int i => shI i
  | .bl b => shI (if b then 1 else 0)
  | _ => none
/-- isinstance of a built-in class -/
inductive Ty where
  | int | bool | str | tuple | list | dict
def isiD (t : Ty) (x : D) : Option (Fl × D) := match x with
  | .non => shB false
  | .bl _ => shB (match t with | .int => true | .bool => true | _ => false)
  | .int _ => shB (match t with | .int => true | _ => false)
  | .str _ => shB (match t with | .str => true | _ => false)
  | .tup _ => shB (match t with | .tuple => true | _ => false)
  | .lst _ => shB (match t with | .list => true | _ => false)
  | .dK _ => shB (match t with | .dict => true | _ => false)
  | .dT _ => shB (match t with | .dict => true | _ => false)
  | _ => none
/-- in, not in -/
def anyEq (x : D) : List D → Option Bool
  | [] => some false
  | y :: ys => match eqD' y x, anyEq x ys with
    | some a, some b => some (a || b)
    | _, _ => none
def keyOf : D → Option Key
  | .int i => some (.inl i)
  | .str x => some (.inr x)
  | _ => none
def keysOf : List D → Option (List Key)
  | [] => some []
  | d :: ds => match keyOf d, keysOf ds with
    | some k, some ks => some (k :: ks)
    | _, _ => none
def valD {κ : Type} [DecidableEq κ] (kvs : List (κ × D)) (k : κ) : Option D := (kvs.find? fun kv => decide (kv.1 = k)).map (·.2)
def putD {κ : Type} [DecidableEq κ] (kvs : List (κ × D)) (k : κ) (v : D) : List (κ × D) :=
  if (kvs.any fun kv => decide (kv.1 = k)) = true then kvs.map (fun kv => if kv.1 = k then (kv.1, v) else kv) else kvs ++ [(k, v)]
/-- d[k], whether it is there -/
def getD' (x y : D) : Option (Option D) := match x, y with
  | .dK kvs, y => (keyOf y).map fun k => valD kvs k
  | .dT kvs, .tup ks => (keysOf ks).map fun k => valD kvs k
  | _, _ => none
def inDict (y x : D) : Option Bool := (getD' x y).map (·.isSome)
def inSeq (x y : D) : Option Bool := match seqOf y, toP x, (seqOf y).bind toPs with
  | some ds, some p, some ps => if shp p && shp (.list ps) then some (ps.any fun z => PyData.eqv z p) else none
  | _, _, _ => none
def inStr (x y : D) : Option Bool := match x, y with
  | .str i, .str j => some (!(Builtin.Str.occurrences j i 0 j.length 1).isEmpty)
  | _, _ => none
def dgetD (x y : D) : Option (Fl × D) := match getD' x y with
  | some (some d) => sh d
  | _ => none
def putDict (x k v : D) : Option D := match x with
  | .dK kvs => match keyOf k with
    | some k => if kvs.length < sizeLine then some (.dK (putD kvs k v)) else none
    | none => none
  | .dT kvs => match k with
    | .tup ks => match keysOf ks with
      | some k => if kvs.length < sizeLine then some (.dT (putD kvs k v)) else none
      | none => none
    | _ => none
  | _ => none
def putList (x k v : D) : Option D := match x, k with
  | .lst ds, .int i => (ixN ds.length i).map fun j => .lst (ds.set j v)
  | _, _ => none
def appendD (x : D) (as : List D) : Option (D × D) := match x, as with
  | .lst ds, [d] => if ds.length < sizeLine then some (.lst (ds ++ [d]), .non) else none
  | _, _ => none
def extendD (x : D) (as : List D) : Option (D × D) := match x, as with
  | .lst ds, [.lst es] => if ds.length + es.length ≤ sizeLine then some (.lst (ds ++ es), .non) else none
  | _, _ => none
def popD (x : D) (as : List D) : Option (D × D) := match x, as with
  | .lst ds, [] => (ds[ds.length - 1]?).map fun d => (.lst ds.dropLast, d)
  | _, _ => none
def countI (x y : D) : Option (Fl × D) := match x, y with
  | .lst ds, .int i => (intsOf ds).map fun is => (.sh, .int (is.count i))
  | _, _ => none

def notB (f : D → D → Option Bool) (x y : D) : Option Bool := (f x y).map (!·)
def inD' (x y : D) : Option Bool := match y with
  | .dK _ => inDict x y
  | .dT _ => inDict x y
  | .str _ => inStr x y
  | _ => inSeq x y
def inD (x y : D) : Option (Fl × D) := (inD' x y).map fun b => (.sh, .bl b)
def ninD (x y : D) : Option (Fl × D) := (inD' x y).map fun b => (.sh, .bl (!b))
/-- a part of a slice -/
def mPart (a : Option (M R)) : M (Option Int) := match a with
  | none => pur none
  | some m => bnd m fun r ρ => match (deref ρ r).bind intOf with
    | some i => .ok (some i) ρ
    | none => .bad
def mSlice (a : M R) (lo hi : Option (M R)) : M R := bnd a fun ra => bnd (mPart lo) fun l => bnd (mPart hi) fun h ρ => match deref ρ ra with
  | some x => opR ρ (sliceD x l h)
  | none => .bad
def revD (x : D) : Option (Fl × D) := match x with
  | .lst ds => some (.ow, .lst ds.reverse)
  | _ => none
def flatD : D → Bool
  | .non => true | .bl _ => true | .int _ => true | .str _ => true
  | _ => false
def sAug (i : Nat) (e : M R) (f : D → D → Option (Fl × D)) : M Flow := fun ρ0 => match ρ0[i]? with
  | some (some (_, x)) => if flatD x then (bnd e fun rb ρ => match deref ρ rb with
    | some y => match f x y with
      | some (fl, d) => if i < ρ.length ∧ fl.par = false then .ok .nx (ρ.set i (some (fl, d))) else .bad
      | none => .bad
    | none => .bad) ρ0 else .bad
  | _ => .bad
/-- xs.count(y), xs.index(y) -/
def countD (x y : D) : Option (Fl × D) := match x with
  | .lst ds => match toPs ds, toP y with
    | some ps, some p => if shp (.list ps) && shp p then shI ((ps.filter fun z => PyData.eqv z p).length : Nat) else none
    | _, _ => none
  | _ => none
def findP (p : PyData) : List PyData → Option Nat
  | [] => none
  | q :: qs => if PyData.eqv q p then some 0 else (findP p qs).map (· + 1)
def indexD (x y : D) : Option (Fl × D) := match x with
  | .lst ds => match toPs ds, toP y with
    | some ps, some p => if shp (.list ps) && shp p then (findP p ps).map fun j => (.sh, .int (j : Nat)) else none
    | _, _ => none
  | _ => none
def updateD (x : D) (as : List D) : Option (D × D) := match x, as with
  | .dK kvs, [.dK more] => if kvs.length + more.length ≤ sizeLine then some (.dK (more.foldl (fun acc kv => putD acc kv.1 kv.2) kvs), .non) else none
  | _, _ => none
/-- {k: v, ..} -/
def keyVals : List D → Option (List (Key × D))
  | [] => some []
  | k :: v :: r => match keyOf k, keyVals r with
    | some k, some r => some ((k, v) :: r)
    | _, _ => none
  | _ => none
def mDict (a : M (List D)) : M R := bnd a fun ds => match keyVals ds with
  | some kvs => if kvs.length ≤ 15 then pur (.v .ow (.dK (kvs.foldl (fun acc kv => putD acc kv.1 kv.2) []))) else fun _ => .bad
  | none => fun _ => .bad
def lenSetD (x : D) : Option (Fl × D) := match x with
  | .lst ds => match intsOf ds with
    | some ns => if ns.Nodup ∧ ns.length ≤ 4000 then shI ns.length else none
    | none => none
  | _ => none
def mRng (lo hi : M R) : M (Int × Int) := bnd lo fun ra => bnd hi fun rb ρ => match (deref ρ ra).bind intOf, (deref ρ rb).bind intOf with
  | some i, some j => .ok (i, j) ρ
  | _, _ => .bad
def rgOk (a b : Int) : Bool := small62 a && small62 b && decide ((b - a).toNat ≤ 2 ^ 24)
def mListRg (m : M (Int × Int)) : M R := bnd m fun p => if rgOk p.1 p.2 then pur (.v .ow (.lst (rngD p.1 (p.2 - p.1).toNat 1))) else fun _ => .bad

/-! comprehensions -/
def wipeE (ρ : Env) (vs : List Nat) : Env := vs.foldl (fun ρ i => ρ.set i none) ρ
def restore (ρ0 : Env) (vs : List Nat) (ρ : Env) : Env := vs.foldl (fun ρ i => ρ.set i ((ρ0[i]?).getD none)) ρ
def loopC (vs : List Nat) (g : Tg) (c : M Bool) (e : M R) : List D → List D → M (List D)
  | [], acc => pur acc
  | d :: ds, acc => fun ρ => match g d ρ with
    | .ok _ ρ1 => (match c ρ1 with
      | .ok true ρ2 => (match e ρ2 with
        | .ok (.v _ y) ρ3 => if acc.length < sizeLine then loopC vs g c e ds (acc ++ [y]) (wipeE ρ3 vs) else .bad
        | _ => .bad)
      | .ok false ρ2 => loopC vs g c e ds acc (wipeE ρ2 vs)
      | _ => .bad)
    | _ => .bad
def mComp (vs : List Nat) (it : M (List D)) (g : Tg) (c : M Bool) (e : M R) : M R := bnd it fun ds ρ0 =>
  match loopC vs g c e ds [] (wipeE ρ0 vs) with
  | .ok acc ρ => .ok (.v .ow (.lst acc)) (restore ρ0 vs ρ)
  | _ => .bad
def cYes : M Bool := pur true

/-! mutation of what a slot owns -/
def isLst : D → Bool
  | .lst _ => true
  | _ => false
def isDct : D → Bool
  | .dK _ => true
  | .dT _ => true
  | _ => false
def mMut (i : Nat) (ty : D → Bool) (as : M (List D)) (f : D → List D → Option (D × D)) : M R := fun ρ0 => match ρ0[i]? with
  | some (some (fl0, x0)) => if ty x0 then (bnd as fun ds ρ => match ρ[i]? with
    | some (some (fl, x)) => if fl.own then (match f x ds with
        | some (y, r) => .ok (.v .sh r) (ρ.set i (some (fl, y)))
        | none => .bad) else .bad
    | _ => .bad) ρ0 else .bad
  | _ => .bad
/-- x[k] = e: e, then k -/
def sPut (i : Nat) (e k : M R) (f : D → D → D → Option D) : M Flow := fun ρ0 => match ρ0[i]? with
  | some (some _) => (bnd e fun ra => bnd k fun rb ρ => match ra, rb, ρ[i]? with
    | .v _ v, .v _ j, some (some (fl, x)) => if fl.own then (match f x j v with
        | some y => .ok .nx (ρ.set i (some (fl, y)))
        | none => .bad) else .bad
    | _, _, _ => .bad) ρ0
  | _ => .bad
def sRetN : M Flow := pur (.rt .sh .non)

/-! a def -/
def entry (n : Nat) (as : List (Fl × D)) : Env := (as.map fun a => some (if a.1 = .ow then Fl.pa else .sh, a.2)) ++ List.replicate (n - as.length) none
def backs : List (Fl × D) → Env → Option (List (Fl × D))
  | [], _ => some []
  | (.ow, _) :: as, s :: ρ => match s with
    | some (.pa, d) => (backs as ρ).map ((.ow, d) :: ·)
    | some (.ps, d) => (backs as ρ).map ((.sh, d) :: ·)
    | _ => none
  | _ :: as, _ :: ρ => backs as ρ
  | _ :: _, [] => none
def runF (np n : Nat) (body : M Flow) : FM := fun as => if as.length = np then (match body (entry n as) with
  | .ok f ρ => (match backs as ρ with
    | some b => (match f with
      | .nx => .ok .sh .non b
      | .rt fl d => .ok fl d b
      | _ => .bad)
    | none => .bad)
  | .exc c p _ => .exc c p
  | .bad => .bad) else .bad
end PP

set_option Elab.async false
set_option linter.all false
/-! Pure python, 2: how plain data stand in the heap. -/
namespace PP
open PySem PySem.Spec PyProof.Rows L2

/-- what is fixed: the written part, where the defs and the classes stand, the tables of code -/
structure Gx where
  K : PySem.W.Frag
  fa : Nat → Option Addr
  ca : Nat → Addr
  tb : List (Addr × Str)

/-- a list of the written part (the script may stand there) -/
inductive KRep (K : PySem.W.Frag) : V → D → Prop
  | scr {a : Addr} {o : Obj} {its : Array Value} {n : Nat} {ns : List Int} : K.lookup a = some o → o.cls = .type "list" → o.dict = none → o.data = .seq its n → its.size ≤ sizeLine → Vals (ns.map V.int) its.toList → KRep K (.ref a) (.scr ns)

abbrev Fz := Addr → Option D
/-- v is the thing d, which nobody changes -/
inductive Rep (G : Gx) (F : Fz) : V → D → Prop
  | non : Rep G F .non .non
  | bl (b : Bool) : Rep G F (.bl b) (.bl b)
  | int (i : Int) : Rep G F (.int i) (.int i)
  | str (x : Str) : Rep G F (.str x) (.str x)
  | fz {a : Addr} {d : D} : F a = some d → Rep G F (.ref a) d
  | k {a : Addr} {d : D} : KRep G.K (.ref a) d → Rep G F (.ref a) d
  | fn {a : Addr} {f : Nat} : G.fa f = some a → Rep G F (.ref a) (.fn f)
  /-- an exception that is held: nothing is told of it -/
  | exo {a : Addr} : Rep G F (.ref a) .exo
abbrev Reps (G : Gx) (F : Fz) : List V → List D → Prop := Paired (Rep G F)
abbrev RepK {κ : Type} (G : Gx) (F : Fz) : List (κ × V) → List (κ × D) → Prop := Paired fun p q => p.1 = q.1 ∧ Rep G F p.2 q.2

/-- the tracked object at a is d -/
def Own (G : Gx) (H : Hp) (F : Fz) (a : Addr) : D → Prop
  | .lst ds => ∃ vs, H a = some (.lst vs) ∧ Reps G F vs ds
  | .dK ds => ∃ vs, H a = some (.dK vs) ∧ RepK G F vs ds
  | .dT ds => ∃ vs, H a = some (.dT vs) ∧ RepK G F vs ds
  | _ => False
/-- .. or may be read so -/
def Frz (G : Gx) (H : Hp) (F : Fz) (a : Addr) : D → Prop
  | .lst ds => ∃ vs, H a = some (.lst vs) ∧ Reps G F vs ds
  | .tup ds => ∃ vs, H a = some (.tup vs) ∧ Reps G F vs ds
  | .dK ds => ∃ vs, H a = some (.dK vs) ∧ RepK G F vs ds
  | .dT ds => ∃ vs, H a = some (.dT vs) ∧ RepK G F vs ds
  | .scr ns => Rd H a (.lst (ns.map V.int))
  | _ => False

abbrev Cell := V × Fl × D
def ItOk (G : Gx) (H : Hp) (F : Fz) (x : Cell) : Prop :=
  if x.2.1.own = true then ∃ a, x.1 = .ref a ∧ F a = none ∧ Own G H F a x.2.2 else Rep G F x.1 x.2.2
def ownA (L : List Cell) : List Addr := L.filterMap fun x => if x.2.1.own then (match x.1 with | .ref a => some a | _ => none) else none
structure Good (G : Gx) (H : Hp) (F : Fz) (L : List Cell) : Prop where
  fz : ∀ a d, F a = some d → Frz G H F a d
  it : ∀ x ∈ L, ItOk G H F x
  nd : (ownA L).Nodup
  tb : LamX.Tabs G.tb H

section
variable {G : Gx} {H H' : Hp} {F F' : Fz} {L L' : List Cell} {a p : Addr} {v : V} {d : D} {fl : Fl}

theorem Paired.imp' {α β : Type} {P Q : α → β → Prop} (h : ∀ a b, P a b → Q a b) : ∀ {l : List α} {m : List β}, Paired P l m → Paired Q l m
  | _, _, .nil => .nil
  | _, _, .cons r t => .cons (h _ _ r) (Paired.imp' h t)
theorem Rep.mono (h : ∀ a d, F a = some d → F' a = some d) (r : Rep G F v d) : Rep G F' v d := by
  cases r with
  | non => exact .non
  | bl b => exact .bl b
  | int i => exact .int i
  | str x => exact .str x
  | fz e => exact .fz (h _ _ e)
  | k e => exact .k e
  | fn e => exact .fn e
  | exo => exact .exo
theorem Reps.mono (h : ∀ a d, F a = some d → F' a = some d) {vs : List V} {ds : List D} (r : Reps G F vs ds) : Reps G F' vs ds := Paired.imp' (fun _ _ => Rep.mono h) r
theorem RepK.mono {κ : Type} (h : ∀ a d, F a = some d → F' a = some d) {vs : List (κ × V)} {ds : List (κ × D)} (r : RepK G F vs ds) : RepK G F' vs ds := Paired.imp' (fun _ _ q => ⟨q.1, q.2.mono h⟩) r
theorem Own.mono (h : ∀ a d, F a = some d → F' a = some d) (e : H' a = H a) (r : Own G H F a d) : Own G H' F' a d := by
  cases d <;> simp only [Own] at r ⊢
  · obtain ⟨vs, x, y⟩ := r; exact ⟨vs, e.trans x, y.mono h⟩
  · obtain ⟨vs, x, y⟩ := r; exact ⟨vs, e.trans x, y.mono h⟩
  · obtain ⟨vs, x, y⟩ := r; exact ⟨vs, e.trans x, y.mono h⟩
theorem Rd.eq {u : HO} (e : H' a = H a) (r : Rd H a u) : Rd H' a u := by
  rcases r with r | ⟨o, r⟩
  · exact .inl (e.trans r)
  · exact .inr ⟨o, e.trans r⟩
theorem Frz.mono (h : ∀ a d, F a = some d → F' a = some d) (e : H' a = H a) (r : Frz G H F a d) : Frz G H' F' a d := by
  cases d <;> simp only [Frz] at r ⊢
  · obtain ⟨vs, x, y⟩ := r; exact ⟨vs, e.trans x, y.mono h⟩
  · obtain ⟨vs, x, y⟩ := r; exact ⟨vs, e.trans x, y.mono h⟩
  · obtain ⟨vs, x, y⟩ := r; exact ⟨vs, e.trans x, y.mono h⟩
  · obtain ⟨vs, x, y⟩ := r; exact ⟨vs, e.trans x, y.mono h⟩
  · exact Rd.eq e r
theorem Own.frz (r : Own G H F a d) : Frz G H F a d := by
  cases d <;> simp only [Own] at r
  · obtain ⟨vs, x, y⟩ := r; exact ⟨vs, x, y⟩
  · obtain ⟨vs, x, y⟩ := r; exact ⟨vs, x, y⟩
  · obtain ⟨vs, x, y⟩ := r; exact ⟨vs, x, y⟩
theorem Own.ex (r : Own G H F a d) : ∃ o, H a = some o := by
  cases d <;> simp only [Own] at r
  · obtain ⟨vs, x, y⟩ := r; exact ⟨_, x⟩
  · obtain ⟨vs, x, y⟩ := r; exact ⟨_, x⟩
  · obtain ⟨vs, x, y⟩ := r; exact ⟨_, x⟩
theorem Rd.ex {u : HO} (r : Rd H a u) : ∃ o, H a = some o := by
  rcases r with r | ⟨o, r⟩
  · exact ⟨_, r⟩
  · exact ⟨_, r⟩
theorem Frz.ex (r : Frz G H F a d) : ∃ o, H a = some o := by
  cases d <;> simp only [Frz] at r
  · obtain ⟨vs, x, y⟩ := r; exact ⟨_, x⟩
  · obtain ⟨vs, x, y⟩ := r; exact ⟨_, x⟩
  · obtain ⟨vs, x, y⟩ := r; exact ⟨_, x⟩
  · obtain ⟨vs, x, y⟩ := r; exact ⟨_, x⟩
  · exact Rd.ex r
/-- no table -/
def NoTab (o : HO) : Prop := (∀ ps, o ≠ .tbl ps) ∧ ∀ c q, o ≠ LamX.CodeO c q
theorem noTab_lst {xs : List V} : NoTab (.lst xs) := ⟨fun _ h => HO.noConfusion h, fun c q h => by unfold LamX.CodeO at h; exact HO.noConfusion h⟩
theorem noTab_dK {xs : List (Key × V)} : NoTab (.dK xs) := ⟨fun _ h => HO.noConfusion h, fun c q h => by unfold LamX.CodeO at h; exact HO.noConfusion h⟩
theorem noTab_dT {xs : List (List Key × V)} : NoTab (.dT xs) := ⟨fun _ h => HO.noConfusion h, fun c q h => by unfold LamX.CodeO at h; exact HO.noConfusion h⟩
theorem tabs_upd {T : List (Addr × Str)} {o : HO} (t : LamX.Tabs T H) (h : H a = none ∨ ∃ u, H a = some u ∧ NoTab u) : LamX.Tabs T (upd H a o) := fun x hx => by
  obtain ⟨ps, h1, h2, h3⟩ := t x hx
  have ne : ∀ b u, H b = some u → (∀ w, H a = some w → NoTab w → u ≠ w) → b ≠ a := fun b u e q z => by
    subst z
    rcases h with h | ⟨w, h, n⟩
    · rw [e] at h; cases h
    · exact q w h n (by rw [e] at h; exact Option.some.inj h)
  refine ⟨ps, by rw [upd_ne (ne _ _ h1 fun w _ n z => n.1 ps z.symm)]; exact h1, h2, fun pos cv hc => ?_⟩
  obtain ⟨c, e1, e2⟩ := h3 pos cv hc
  exact ⟨c, e1, by rw [upd_ne (ne _ _ e2 fun w _ n z => n.2 _ _ z.symm)]; exact e2⟩

theorem Good.free (g : Good G H F L) (h : H p = none) : F p = none := by
  cases e : F p with
  | none => rfl
  | some d =>
    obtain ⟨o, q⟩ := (g.fz p d e).ex
    rw [h] at q; cases q
theorem ownA_cons (x : Cell) (L : List Cell) : ownA (x :: L) = (if x.2.1.own then (match x.1 with | .ref a => [a] | _ => []) else []) ++ ownA L := by
  unfold ownA
  rw [List.filterMap_cons]
  cases h : x.2.1.own
  · rfl
  · obtain ⟨v, fl, d⟩ := x
    cases v <;> rfl
theorem mem_ownA {a : Addr} {L : List Cell} (h : a ∈ ownA L) : ∃ x ∈ L, x.2.1.own = true ∧ x.1 = .ref a := by
  unfold ownA at h
  obtain ⟨x, hx, e⟩ := List.mem_filterMap.mp h
  refine ⟨x, hx, ?_⟩
  split at e
  · rename_i o
    split at e
    · rename_i b q
      cases e
      exact ⟨o, q⟩
    · cases e
  · cases e
theorem ownA_mem {x : Cell} {a : Addr} {L : List Cell} (h : x ∈ L) (o : x.2.1.own = true) (e : x.1 = .ref a) : a ∈ ownA L := by
  unfold ownA
  refine List.mem_filterMap.mpr ⟨x, h, ?_⟩
  rw [if_pos o, e]
/-- the same things in another order -/
theorem Good.perm (g : Good G H F L) (h : L.Perm L') : Good G H F L' :=
  ⟨g.fz, fun x hx => g.it x (h.symm.subset hx), (h.filterMap _).nodup_iff.mp g.nd, g.tb⟩
/-- forget some -/
theorem Good.sub (g : Good G H F L) (h : L'.Sublist L) : Good G H F L' :=
  ⟨g.fz, fun x hx => g.it x (h.subset hx), g.nd.sublist (h.filterMap _), g.tb⟩
theorem Good.tail {x : Cell} (g : Good G H F (x :: L)) : Good G H F L := g.sub (List.sublist_cons_self _ _)
theorem Good.right (g : Good G H F (L ++ L')) : Good G H F L' := g.sub (List.sublist_append_right _ _)
theorem Good.left (g : Good G H F (L ++ L')) : Good G H F L := g.sub (List.sublist_append_left _ _)
theorem Good.head {x : Cell} (g : Good G H F (x :: L)) : ItOk G H F x := g.it x List.mem_cons_self

/-- one thing of the list is another -/
theorem Good.rep {x : Cell} (g : Good G H F L) (hx : x.2.1.own = false) (h : Rep G F x.1 x.2.2) : Good G H F (x :: L) := by
  refine ⟨g.fz, fun y hy => ?_, ?_, g.tb⟩
  · rcases List.mem_cons.mp hy with rfl | hy
    · unfold ItOk; rw [if_neg (by rw [hx]; exact Bool.false_ne_true)]; exact h
    · exact g.it y hy
  · rw [ownA_cons, hx]; exact g.nd
theorem Good.repH {x : Cell} (g : Good G H F (x :: L)) (hx : x.2.1.own = false) : Rep G F x.1 x.2.2 := by
  have h := g.head
  unfold ItOk at h
  rw [if_neg (by rw [hx]; exact Bool.false_ne_true)] at h
  exact h
theorem Good.ownH {x : Cell} (g : Good G H F (x :: L)) (hx : x.2.1.own = true) : ∃ a, x.1 = .ref a ∧ F a = none ∧ Own G H F a x.2.2 := by
  have h := g.head
  unfold ItOk at h
  rw [if_pos hx] at h
  exact h
/-- what is owned is so under another flag -/
theorem Good.flag {fl' : Fl} (g : Good G H F ((v, fl, d) :: L)) (h : fl'.own = fl.own) : Good G H F ((v, fl', d) :: L) := by
  refine ⟨g.fz, fun y hy => ?_, ?_, g.tb⟩
  · rcases List.mem_cons.mp hy with rfl | hy
    · have := g.head
      unfold ItOk at this ⊢
      dsimp only at this ⊢
      rw [h]; exact this
    · exact g.it y (List.mem_cons_of_mem _ hy)
  · have := g.nd
    rw [ownA_cons] at this ⊢
    dsimp only at this ⊢
    rw [h]; exact this

def fzSet (F : Fz) (a : Addr) (d : D) : Fz := fun b => if b = a then some d else F b
theorem fzSet_le (h : F a = none) : ∀ b e, F b = some e → fzSet F a d b = some e := fun b e q => by
  unfold fzSet
  split
  · rename_i z; rw [z, h] at q; cases q
  · exact q
/-- what is owned is shared from now on -/
theorem Good.freeze (g : Good G H F ((v, fl, d) :: L)) : ∃ F', (∀ b e, F b = some e → F' b = some e) ∧ Good G H F' ((v, fl.shut, d) :: L) ∧ Rep G F' v d := by
  by_cases ho : fl.own = true
  · obtain ⟨a, hv, hn, w⟩ := g.ownH ho
    dsimp only at hv w
    have le := fzSet_le (d := d) hn
    have nin : a ∉ ownA L := by
      have := g.nd
      rw [ownA_cons] at this
      dsimp only at this
      rw [ho, if_pos rfl, hv] at this
      exact (List.nodup_cons.mp this).1
    have rp : Rep G (fzSet F a d) v d := by rw [hv]; exact .fz (by unfold fzSet; rw [if_pos rfl])
    refine ⟨fzSet F a d, le, ⟨fun b e q => ?_, fun y hy => ?_, ?_, g.tb⟩, rp⟩
    · unfold fzSet at q
      split at q
      · rename_i z; cases q; rw [z]; exact (w.frz).mono le rfl
      · exact (g.fz b e q).mono le rfl
    · rcases List.mem_cons.mp hy with rfl | hy
      · unfold ItOk
        have : fl.shut.own = false := by cases fl <;> rfl
        rw [if_neg (by dsimp only; rw [this]; exact Bool.false_ne_true)]
        exact rp
      · have q := g.it y (List.mem_cons_of_mem _ hy)
        unfold ItOk at q ⊢
        split
        · rename_i o
          rw [if_pos o] at q
          obtain ⟨b, e1, e2, e3⟩ := q
          refine ⟨b, e1, ?_, e3.mono le rfl⟩
          unfold fzSet
          rw [if_neg (fun z => nin (by rw [← z]; exact ownA_mem hy o e1))]
          exact e2
        · rename_i o
          rw [if_neg o] at q
          exact q.mono le
    · have : fl.shut.own = false := by cases fl <;> rfl
      rw [ownA_cons]
      dsimp only
      rw [this]
      exact g.tail.nd
  · have e : fl.own = false := by simpa using ho
    have : fl.shut = fl := by cases fl <;> first | rfl | (exact absurd e (by decide))
    refine ⟨F, fun _ _ q => q, by rw [this]; exact g, ?_⟩
    exact g.repH (x := (v, fl, d)) e
/-- a new object -/
theorem Good.new {o : HO} (g : Good G H F L) (hp : H p = none) (w : Own G (upd H p o) F p d) (hf : fl.own = true) : Good G (upd H p o) F ((.ref p, fl, d) :: L) := by
  have at_ : ∀ b u, H b = some u → upd H p o b = H b := fun b u e => upd_ne fun z => by rw [z, hp] at e; cases e
  refine ⟨fun a d' e => ?_, fun y hy => ?_, ?_, tabs_upd g.tb (.inl hp)⟩
  · obtain ⟨u, q⟩ := (g.fz a d' e).ex
    exact (g.fz a d' e).mono (fun _ _ z => z) (at_ a u q)
  · rcases List.mem_cons.mp hy with rfl | hy
    · unfold ItOk; rw [if_pos hf]; exact ⟨p, rfl, g.free hp, w⟩
    · have q := g.it y hy
      unfold ItOk at q ⊢
      split
      · rename_i ho
        rw [if_pos ho] at q
        obtain ⟨b, e1, e2, e3⟩ := q
        obtain ⟨u, e4⟩ := e3.ex
        exact ⟨b, e1, e2, e3.mono (fun _ _ z => z) (at_ b u e4)⟩
      · rename_i ho
        rw [if_neg ho] at q
        exact q
  · rw [ownA_cons]
    dsimp only
    rw [hf, if_pos rfl]
    refine List.nodup_cons.mpr ⟨fun z => ?_, g.nd⟩
    obtain ⟨y, hy, ho, e⟩ := mem_ownA z
    have q := g.it y hy
    unfold ItOk at q
    rw [if_pos ho] at q
    obtain ⟨b, e1, e2, e3⟩ := q
    rw [e] at e1; cases e1
    obtain ⟨u, e4⟩ := e3.ex
    rw [hp] at e4; cases e4
/-- a new tuple, shared at once -/
theorem Good.newT {vs : List V} {ds : List D} (g : Good G H F L) (hp : H p = none) (r : Reps G F vs ds) : ∃ F', (∀ b e, F b = some e → F' b = some e) ∧ Good G (upd H p (.tup vs)) F' ((.ref p, .sh, .tup ds) :: L) := by
  have at_ : ∀ b u, H b = some u → upd H p (.tup vs) b = H b := fun b u e => upd_ne fun z => by rw [z, hp] at e; cases e
  have hn := g.free hp
  have le := fzSet_le (d := .tup ds) hn
  refine ⟨fzSet F p (.tup ds), le, ⟨fun a d' e => ?_, fun y hy => ?_, ?_, tabs_upd g.tb (.inl hp)⟩⟩
  · unfold fzSet at e
    split at e
    · rename_i z; cases e; rw [z]; exact ⟨vs, upd_same, r.mono le⟩
    · obtain ⟨u, q⟩ := (g.fz a d' e).ex
      exact (g.fz a d' e).mono le (at_ a u q)
  · rcases List.mem_cons.mp hy with rfl | hy
    · unfold ItOk; rw [if_neg (show ¬ Fl.sh.own = true from Bool.false_ne_true)]; exact .fz (by unfold fzSet; rw [if_pos rfl])
    · have q := g.it y hy
      unfold ItOk at q ⊢
      split
      · rename_i ho
        rw [if_pos ho] at q
        obtain ⟨b, e1, e2, e3⟩ := q
        obtain ⟨u, e4⟩ := e3.ex
        refine ⟨b, e1, ?_, e3.mono le (at_ b u e4)⟩
        unfold fzSet
        rw [if_neg fun z => by rw [z, hp] at e4; cases e4]
        exact e2
      · rename_i ho
        rw [if_neg ho] at q
        exact q.mono le
  · rw [ownA_cons]; exact g.nd
theorem Own.noTab (w : Own G H F a d) : ∃ u, H a = some u ∧ NoTab u := by
  cases d <;> simp only [Own] at w
  · obtain ⟨_, x, _⟩ := w; exact ⟨_, x, noTab_lst⟩
  · obtain ⟨_, x, _⟩ := w; exact ⟨_, x, noTab_dK⟩
  · obtain ⟨_, x, _⟩ := w; exact ⟨_, x, noTab_dT⟩
/-- an owned object is changed -/
theorem Good.write {o : HO} {d' : D} (g : Good G H F ((.ref a, fl, d) :: L)) (hf : fl.own = true) (w : Own G (upd H a o) F a d') : Good G (upd H a o) F ((.ref a, fl, d') :: L) := by
  obtain ⟨a', ea, hn, w0⟩ := g.ownH hf
  cases ea
  have w0 : Own G H F a d := w0
  have nin : a ∉ ownA L := by
    have := g.nd
    rw [ownA_cons] at this
    dsimp only at this
    rw [hf, if_pos rfl] at this
    exact (List.nodup_cons.mp this).1
  refine ⟨fun b d2 e => ?_, fun y hy => ?_, ?_, tabs_upd g.tb (.inr w0.noTab)⟩
  · refine (g.fz b d2 e).mono (fun _ _ z => z) (upd_ne fun z => ?_)
    rw [z, hn] at e; cases e
  · rcases List.mem_cons.mp hy with rfl | hy
    · unfold ItOk; rw [if_pos hf]; exact ⟨a, rfl, hn, w⟩
    · have q := g.it y (List.mem_cons_of_mem _ hy)
      unfold ItOk at q ⊢
      split
      · rename_i ho
        rw [if_pos ho] at q
        obtain ⟨b, e1, e2, e3⟩ := q
        refine ⟨b, e1, e2, e3.mono (fun _ _ z => z) (upd_ne fun z => ?_)⟩
        exact nin (by rw [← z]; exact ownA_mem hy ho e1)
      · rename_i ho
        rw [if_neg ho] at q
        exact q
  · have := g.nd
    rw [ownA_cons] at this ⊢
    exact this

/-! ### one look at a thing -/
def View (G : Gx) (H : Hp) (F : Fz) (v : V) : D → Prop
  | .non => v = .non
  | .bl b => v = .bl b
  | .int i => v = .int i
  | .str x => v = .str x
  | .lst ds => ∃ a vs, v = .ref a ∧ H a = some (.lst vs) ∧ Reps G F vs ds
  | .tup ds => ∃ a vs, v = .ref a ∧ H a = some (.tup vs) ∧ Reps G F vs ds
  | .dK ds => ∃ a vs, v = .ref a ∧ H a = some (.dK vs) ∧ RepK G F vs ds
  | .dT ds => ∃ a vs, v = .ref a ∧ H a = some (.dT vs) ∧ RepK G F vs ds
  | .scr ns => ∃ a, v = .ref a ∧ SqL G.K H a (ns.map V.int)
  | .fn f => ∃ a, v = .ref a ∧ G.fa f = some a
  | .exo => ∃ a, v = .ref a
theorem KRep.view (r : KRep G.K v d) : View G H F v d := by
  cases r with
  | scr a b c e f g => exact ⟨_, rfl, .inr ⟨_, _, _, a, b, c, e, f, g⟩⟩
theorem Frz.view (r : Frz G H F a d) : View G H F (.ref a) d := by
  cases d <;> simp only [Frz] at r
  · obtain ⟨vs, x, y⟩ := r; exact ⟨_, _, rfl, x, y⟩
  · obtain ⟨vs, x, y⟩ := r; exact ⟨_, _, rfl, x, y⟩
  · obtain ⟨vs, x, y⟩ := r; exact ⟨_, _, rfl, x, y⟩
  · obtain ⟨vs, x, y⟩ := r; exact ⟨_, _, rfl, x, y⟩
  · exact ⟨_, rfl, .inl r⟩
theorem Good.viewR (g : Good G H F L) (r : Rep G F v d) : View G H F v d := by
  cases r with
  | non => exact rfl
  | bl b => exact rfl
  | int i => exact rfl
  | str x => exact rfl
  | fz e => exact (g.fz _ _ e).view
  | k e => exact e.view
  | fn e => exact ⟨_, rfl, e⟩
  | exo => exact ⟨_, rfl⟩
theorem Good.view {x : Cell} (g : Good G H F L) (h : x ∈ L) : View G H F x.1 x.2.2 := by
  have q := g.it x h
  unfold ItOk at q
  split at q
  · obtain ⟨a, e1, e2, e3⟩ := q
    rw [e1]
    exact e3.frz.view
  · exact g.viewR q
theorem View.tup {ds : List D} (w : View G H F v (.tup ds)) : ∃ a vs, v = .ref a ∧ SqT G.K H a vs ∧ Reps G F vs ds := by
  obtain ⟨a, vs, e, h, r⟩ := w
  exact ⟨a, vs, e, SqT.of h, r⟩
end
end PP

set_option Elab.async false
set_option linter.all false
/-! Pure python, 3: environments over slots; readings. -/
namespace PP
open PySem PySem.Spec PyProof.Rows L2

/-- the things in the slots -/
def live : List (Option V) → Env → List Cell
  | some v :: σ, some s :: ρ => (v, s.1, s.2) :: live σ ρ
  | _ :: σ, _ :: ρ => live σ ρ
  | _, _ => []
structure Slots (O : List V) (σ : List (Option V)) (ρ : Env) : Prop where
  len : σ.length = ρ.length
  has : ∀ (i : Nat) (s : Fl × D), ρ[i]? = some (some s) → ∃ v, σ[i]? = some (some v) ∧ (s.1.par = true → O[i]? = some v)

section
variable {σ σ' : List (Option V)} {ρ ρ' : Env} {i : Nat} {v : V} {s : Fl × D} {O : List V}
theorem live_none (x : Option V) : ∀ {σ : List (Option V)} {ρ : Env} {i : Nat}, live (σ.set i x) (ρ.set i none) = live σ (ρ.set i none)
  | [], _, _ => rfl
  | a :: σ, [], i => by cases i <;> cases a <;> cases x <;> rfl
  | a :: σ, b :: ρ, 0 => by
    show live (x :: σ) (none :: ρ) = live (a :: σ) (none :: ρ)
    cases a <;> cases x <;> rfl
  | a :: σ, b :: ρ, i + 1 => by
    show live (a :: σ.set i x) (b :: ρ.set i none) = live (a :: σ) (b :: ρ.set i none)
    have ih := live_none x (σ := σ) (ρ := ρ) (i := i)
    cases a <;> cases b <;> simp only [live, ih]
theorem live_take : ∀ {σ : List (Option V)} {ρ : Env} {i : Nat} {v : V} {s : Fl × D}, σ[i]? = some (some v) → ρ[i]? = some (some s) → (live σ ρ).Perm ((v, s.1, s.2) :: live σ (ρ.set i none))
  | [], _, _, _, _, h, _ => by simp at h
  | _ :: _, [], _, _, _, _, h => by simp at h
  | a :: σ, b :: ρ, 0, v, s, h1, h2 => by
    have e1 : a = some v := by simpa using h1
    have e2 : b = some s := by simpa using h2
    subst e1 e2
    show ((v, s.1, s.2) :: live σ ρ).Perm ((v, s.1, s.2) :: live (some v :: σ) (none :: ρ))
    exact List.Perm.refl _
  | a :: σ, b :: ρ, i + 1, v, s, h1, h2 => by
    have ih := live_take (σ := σ) (ρ := ρ) (i := i) (v := v) (s := s) (by simpa using h1) (by simpa using h2)
    show (live (a :: σ) (b :: ρ)).Perm (_ :: live (a :: σ) (b :: ρ.set i none))
    cases a with
    | none => cases b <;> exact ih
    | some a =>
      cases b with
      | none => exact ih
      | some b => exact (List.Perm.cons _ ih).trans (List.Perm.swap _ _ _)
theorem live_put {σ : List (Option V)} {ρ : Env} {i : Nat} {v : V} {s : Fl × D} (h : i < σ.length) (h' : i < ρ.length) : (live (σ.set i (some v)) (ρ.set i (some s))).Perm ((v, s.1, s.2) :: live σ (ρ.set i none)) := by
  refine (live_take (i := i) (v := v) (s := s) (by simp [h]) (by simp [h'])).trans ?_
  rw [List.set_set, live_none]
theorem set_eq {α : Type} {l : List α} {i : Nat} {x : α} (h : l[i]? = some x) : l.set i x = l := by
  apply List.ext_getElem?
  intro j
  rw [List.getElem?_set]
  by_cases e : i = j
  · subst e
    rw [if_pos rfl]
    split
    · exact h.symm
    · rename_i z
      rw [List.getElem?_eq_none (by omega)] at h
      cases h
  · rw [if_neg e]
theorem lt_of_get {α : Type} {l : List α} {i : Nat} {x : α} (h : l[i]? = some x) : i < l.length := (List.getElem?_eq_some_iff.mp h).1
/-- the slot keeps its thing -/
theorem live_put' {σ : List (Option V)} {ρ : Env} {i : Nat} {v : V} {s : Fl × D} (h : σ[i]? = some (some v)) (h' : i < ρ.length) : (live σ (ρ.set i (some s))).Perm ((v, s.1, s.2) :: live σ (ρ.set i none)) := by
  have := live_put (σ := σ) (ρ := ρ) (i := i) (v := v) (s := s) (lt_of_get h) h'
  rwa [set_eq h] at this
theorem live_sub : ∀ {σ : List (Option V)} {ρ : Env} {i : Nat}, (live σ (ρ.set i none)).Sublist (live σ ρ)
  | [], _, _ => by cases ‹Env› <;> exact List.Sublist.refl _
  | a :: σ, [], i => by simp [List.Sublist.refl]
  | a :: σ, b :: ρ, 0 => by
    show (live (a :: σ) (none :: ρ)).Sublist _
    cases a with
    | none => exact List.Sublist.refl _
    | some a =>
      cases b with
      | none => exact List.Sublist.refl _
      | some b => exact List.sublist_cons_self _ _
  | a :: σ, b :: ρ, i + 1 => by
    show (live (a :: σ) (b :: ρ.set i none)).Sublist _
    have ih := live_sub (σ := σ) (ρ := ρ) (i := i)
    cases a with
    | none => exact ih
    | some a =>
      cases b with
      | none => exact ih
      | some b => exact ih.cons_cons _
theorem Slots.set (h : Slots O σ ρ) {s : Slot} (hs : ∀ x, s = some x → x.1.par = false) (hi : i < ρ.length) (v : V) : Slots O (σ.set i (some v)) (ρ.set i s) := by
  refine ⟨by simpa using h.len, fun j t e => ?_⟩
  by_cases z : i = j
  · subst z
    refine ⟨v, by simp [h.len, hi], fun p => ?_⟩
    rw [List.getElem?_set_self hi] at e
    cases e
    rw [hs t rfl] at p; cases p
  · rw [List.getElem?_set_ne z] at e ⊢
    exact h.has j t e
/-- the same thing under another flag, with other contents -/
theorem Slots.upd (h : Slots O σ ρ) {s : Fl × D} {t : Fl × D} (e : ρ[i]? = some (some s)) (hp : t.1.par = true → s.1.par = true) : Slots O σ (ρ.set i (some t)) := by
  refine ⟨by simpa using h.len, fun j u q => ?_⟩
  by_cases z : i = j
  · subst z
    rw [List.getElem?_set_self (lt_of_get e)] at q
    cases q
    obtain ⟨v, h1, h2⟩ := h.has i s e
    exact ⟨v, h1, fun p => h2 (hp p)⟩
  · rw [List.getElem?_set_ne z] at q
    exact h.has j u q
theorem Slots.none (h : Slots O σ ρ) : Slots O σ (ρ.set i none) := by
  refine ⟨by simpa using h.len, fun j u q => ?_⟩
  by_cases z : i = j
  · subst z
    have hi : i < ρ.length := by have := lt_of_get q; simpa using this
    rw [List.getElem?_set_self hi] at q
    cases q
  · rw [List.getElem?_set_ne z] at q
    exact h.has j u q
end

/-- the state: the slots, and what is held besides -/
structure St (G : Gx) (O : List V) (ρ : Env) (σ : L2.St) (T : List Cell) (H : Hp) (F : Fz) : Prop where
  sl : Slots O σ ρ
  gd : Good G H F (live σ ρ ++ T)

def RV (σ : L2.St) : R → V → Prop
  | .v _ _, _ => True
  | .s i, v => σ[i]? = some (some v)
def temp : R → V → List Cell
  | .v fl d, v => [(v, fl, d)]
  | .s _, _ => []
abbrev Q0 := Option Addr → Hp → Prop
/-- an exception of the class c, with its parameter p -/
def ExcAt (H : Hp) (p : Option D) (da : Option Addr) : Prop := p = none ∧ da = none

section
variable (G : Gx) (O : List V) (E : XK)
/-- the end of m, with what is wanted of each way -/
def Wp {α : Type} (σ : L2.St) (T : List Cell) (r : Res α) (ok : α → Env → Prop) : Prop := match r with
  | .ok a ρ => ok a ρ
  | .exc c p ρ => ∀ H F da, ExcAt H p da → St G O ρ σ T H F → E (.ref (G.ca c)) da H
  | .bad => False
def tE (m : M R) : TE := fun σ H Q => ∃ ρ T F, St G O ρ σ T H F ∧ Wp G O E σ T (m ρ) fun r ρ' => ∀ v H' F', RV σ r v → St G O ρ' σ (temp r v ++ T) H' F' → Q v H'
def tT (m : M Bool) : TT := fun σ H Q => ∃ ρ T F, St G O ρ σ T H F ∧ Wp G O E σ T (m ρ) fun b ρ' => ∀ H' F', St G O ρ' σ T H' F' → Q b H'
def shs (vs : List V) (ds : List D) : List Cell := vs.zipWith (fun v d => (v, Fl.sh, d)) ds
def tL (m : M (List D)) : TA := fun σ H Q => ∃ ρ T F, St G O ρ σ T H F ∧ Wp G O E σ T (m ρ) fun ds ρ' => ∀ vs H' F', vs.length = ds.length → St G O ρ' σ (shs vs ds ++ T) H' F' → Q vs H'
def agC (vs : List V) (as : List Ag) : List Cell := vs.zipWith (fun v a => (v, a.fl, a.d)) as
def AgOk (σ : L2.St) : List V → List Ag → Prop := Paired fun v a => (∀ i fl, a.src = some (i, fl) → σ[i]? = some (some v) ∧ fl.own = true ∧ a.fl = .ow ∧ (fl.par = true → O[i]? = some v)) ∧ (a.src = none → a.fl = .sh)
def tG (m : M (List Ag)) : TA := fun σ H Q => ∃ ρ T F, St G O ρ σ T H F ∧ Wp G O E σ T (m ρ) fun as ρ' => ∀ vs H' F', AgOk O σ vs as → St G O ρ' σ (agC vs as ++ T) H' F' → Q vs H'
def Ps (Dn : Ends) (T : List Cell) (r : Res Flow) : Prop := match r with
  | .ok .nx ρ' => ∀ σ' H' F', St G O ρ' σ' T H' F' → Dn.nx σ' H'
  | .ok .bk ρ' => ∀ σ' H' F', St G O ρ' σ' T H' F' → Dn.bk σ' H'
  | .ok .ct ρ' => ∀ σ' H' F', St G O ρ' σ' T H' F' → Dn.ct σ' H'
  | .ok (.rt fl d) ρ' => ∀ v σ' H' F', St G O ρ' σ' ((v, fl, d) :: T) H' F' → Dn.rt v H'
  | .exc c p ρ' => ∀ σ' H' F' da, ExcAt H' p da → St G O ρ' σ' T H' F' → E (.ref (G.ca c)) da H'
  | .bad => False
def tS (m : M Flow) : TS := fun Dn σ H => ∃ ρ T F, St G O ρ σ T H F ∧ Ps G O E Dn T (m ρ)
/-- all but the slots ws as they were -/
def Keep (ws : List Nat) (σ σ' : L2.St) : Prop := σ'.length = σ.length ∧ ∀ i, i ∉ ws → σ'[i]? = σ[i]?
/-- a target that stores to the slots ws -/
def tTg (ws : List Nat) (g : Tg) : TG := fun v σ H Q => ∃ d ρ T F, St G O ρ σ ((v, .sh, d) :: T) H F ∧ match g d ρ with
  | .ok _ ρ' => ∀ σ' H' F', Keep ws σ σ' → St G O ρ' σ' T H' F' → Q σ' H'
  | _ => False
def tTgs (ws : List Nat) (gs : List Tg) : TGs := fun vs σ H Q => ∃ ds ρ T F, vs.length = ds.length ∧ St G O ρ σ (shs vs ds ++ T) H F ∧ match gTs gs ds ρ with
  | .ok _ ρ' => ∀ σ' H' F', Keep ws σ σ' → St G O ρ' σ' T H' F' → Q σ' H'
  | _ => False
/-- what is walked: the things ds, while the cells C are held -/
def JOk (J : It) (ds : List D) (C : List Cell) : Prop := ∀ (i : Nat) (H : Hp) (F : Fz) (L : List Cell), Good G H F (C ++ L) →
  (i < ds.length → J.go i H) ∧ (ds.length ≤ i → J.stop i H) ∧ ∀ x H' d, ds[i]? = some d → J.yld i H x H' → ∃ F', Good G H' F' ((x, .sh, d) :: (C ++ L))
def tI (m : M (List D)) : TI := fun σ H Q => ∃ ρ T F, St G O ρ σ T H F ∧ Wp G O E σ T (m ρ) fun ds ρ' => ∀ J C H' F', JOk G J ds C → St G O ρ' σ (C ++ T) H' F' → Q J H'
variable (X : Cx)
def SE (e : Expr) (m : M R) : Prop := PE X e (tE G O E m)
def ST (e : Expr) (m : M Bool) : Prop := PT X e (tT G O E m)
def SW (e : Expr) (m : M Bool) : Prop := PW X e (tT G O E m)
def SL (es : List Expr) (m : M (List D)) : Prop := PA X es (tL G O E m)
def SG (es : List Expr) (m : M (List Ag)) : Prop := PA X es (tG G O E m)
def SS (s : Stmt) (m : M Flow) : Prop := PS X s (tS G O E m)
def SSs (s : List Stmt) (m : M Flow) : Prop := PSs X s (tS G O E m)
def SI (tg e : Expr) (m : M (List D)) : Prop := PI X tg e (tI G O E m)
def SP' (tg : Expr) (ws : List Nat) (g : Tg) : Prop := PG X tg (tTg G O ws g)
def SPs (tgs : List Expr) (ws : List Nat) (gs : List Tg) : Prop := PGs X tgs (tTgs G O ws gs)
end
/-- what a context must have -/
structure CxOk (gu : Bool) (G : Gx) (E : XK) (k : Nat) (X : Cx) : Prop where
  K : X.K = G.K
  nd : X.N.Nodup
  room : Room k X.A
  tk : Takes X (fun cls d _ H => E cls d H)
  calm : X.calm = true
  own : PassesOwn (model X.prog X.w) X.A X.env X.xe
  /-- no repr is under way -/
  gd : gu = true → X.A.guards = some []

theorem PE.imp {X : Cx} {e : Expr} {t t' : TE} (h : PE X e t) (w : ∀ σ H Q, t' σ H Q → t σ H Q) : PE X e t' := ⟨fun pins s σ H Q I q => h.run pins s σ H Q I (w σ H Q q)⟩
theorem PT.imp {X : Cx} {e : Expr} {t t' : TT} (h : PT X e t) (w : ∀ σ H Q, t' σ H Q → t σ H Q) : PT X e t' := ⟨fun pins s σ H Q I q => h.run pins s σ H Q I (w σ H Q q)⟩
theorem PW.imp {X : Cx} {e : Expr} {t t' : TT} (h : PW X e t) (w : ∀ σ H Q, t' σ H Q → t σ H Q) : PW X e t' := ⟨fun wh pins s σ H Q I q => h.run wh pins s σ H Q I (w σ H Q q)⟩
theorem PA.imp {X : Cx} {e : List Expr} {t t' : TA} (h : PA X e t) (w : ∀ σ H Q, t' σ H Q → t σ H Q) : PA X e t' := ⟨fun ps pins s σ H Q I q => h.run ps pins s σ H Q I (w σ H Q q)⟩
theorem PS.imp {X : Cx} {e : Stmt} {t t' : TS} (h : PS X e t) (w : ∀ D σ H, t' D σ H → t D σ H) : PS X e t' := ⟨fun pins s σ H D I q => h.run pins s σ H D I (w D σ H q)⟩
theorem PSs.imp {X : Cx} {e : List Stmt} {t t' : TS} (h : PSs X e t) (w : ∀ D σ H, t' D σ H → t D σ H) : PSs X e t' := ⟨fun pins s σ H D I q => h.run pins s σ H D I (w D σ H q)⟩

section
variable {G : Gx} {O : List V} {E : XK} {k : Nat} {X : Cx}
theorem St.drop {ρ : Env} {σ : L2.St} {T T' : List Cell} {H : Hp} {F : Fz} (s : St G O ρ σ (T' ++ T) H F) : St G O ρ σ T H F :=
  ⟨s.sl, s.gd.sub (List.Sublist.append_left (List.sublist_append_right _ _) _)⟩
theorem St.drop1 {ρ : Env} {σ : L2.St} {T : List Cell} {x : Cell} {H : Hp} {F : Fz} (s : St G O ρ σ (x :: T) H F) : St G O ρ σ T H F := St.drop (T' := [x]) s
theorem Wp.bnd {α β : Type} {m : M α} {f : α → M β} {ρ : Env} {σ : L2.St} {T : List Cell} {ok : β → Env → Prop} (h : Wp G O E σ T (bnd m f ρ) ok) : Wp G O E σ T (m ρ) fun a ρ1 => Wp G O E σ T (f a ρ1) ok := by
  unfold PP.bnd at h
  cases q : m ρ with
  | ok a ρ1 => rw [q] at h; exact h
  | exc c p ρ1 => rw [q] at h; exact h
  | bad => rw [q] at h; exact h
theorem Wp.imp {α : Type} {r : Res α} {σ : L2.St} {T : List Cell} {ok ok' : α → Env → Prop} (h : Wp G O E σ T r ok) (w : ∀ a ρ, ok a ρ → ok' a ρ) : Wp G O E σ T r ok' := by
  cases r with
  | ok a ρ => exact w a ρ h
  | exc c p ρ => exact h
  | bad => exact h
/-- with more held besides -/
theorem Wp.ext {α : Type} {r : Res α} {σ : L2.St} {T T' : List Cell} {ok ok' : α → Env → Prop} (h : Wp G O E σ T r ok) (w : ∀ a ρ, ok a ρ → ok' a ρ) : Wp G O E σ (T' ++ T) r ok' := by
  cases r with
  | ok a ρ => exact w a ρ h
  | exc c p ρ => exact fun H F da x s => h H F da x s.drop
  | bad => exact h
/-- the first part's reading, then the rest with its value held -/
theorem tE_bnd {β : Type} {m : M R} {f : R → M β} {ρ : Env} {σ : L2.St} {T : List Cell} {H : Hp} {F : Fz} {ok : β → Env → Prop} {Q : VK} (s : St G O ρ σ T H F) (h : Wp G O E σ T (bnd m f ρ) ok)
    (q : ∀ r ρ1 v H1 F1, RV σ r v → St G O ρ1 σ (temp r v ++ T) H1 F1 → Wp G O E σ T (f r ρ1) ok → Q v H1) : tE G O E m σ H Q :=
  ⟨ρ, T, F, s, h.bnd.imp fun r ρ1 w v H1 F1 rv s1 => q r ρ1 v H1 F1 rv s1 w⟩
/-- a test's, a list's -/
theorem tT_bnd {β : Type} {m : M Bool} {f : Bool → M β} {ρ : Env} {σ : L2.St} {T : List Cell} {H : Hp} {F : Fz} {ok : β → Env → Prop} {Q : Bool → Hp → Prop} (s : St G O ρ σ T H F) (h : Wp G O E σ T (bnd m f ρ) ok)
    (q : ∀ b ρ1 H1 F1, St G O ρ1 σ T H1 F1 → Wp G O E σ T (f b ρ1) ok → Q b H1) : tT G O E m σ H Q :=
  ⟨ρ, T, F, s, h.bnd.imp fun b ρ1 w H1 F1 s1 => q b ρ1 H1 F1 s1 w⟩
theorem tL_bnd {β : Type} {m : M (List D)} {f : List D → M β} {ρ : Env} {σ : L2.St} {T : List Cell} {H : Hp} {F : Fz} {ok : β → Env → Prop} {Q : List V → Hp → Prop} (s : St G O ρ σ T H F) (h : Wp G O E σ T (bnd m f ρ) ok)
    (q : ∀ ds ρ1 vs H1 F1, vs.length = ds.length → St G O ρ1 σ (shs vs ds ++ T) H1 F1 → Wp G O E σ T (f ds ρ1) ok → Q vs H1) : tL G O E m σ H Q :=
  ⟨ρ, T, F, s, h.bnd.imp fun r ρ1 w v H1 F1 rv s1 => q r ρ1 v H1 F1 rv s1 w⟩
theorem tG_bnd {β : Type} {m : M (List Ag)} {f : List Ag → M β} {ρ : Env} {σ : L2.St} {T : List Cell} {H : Hp} {F : Fz} {ok : β → Env → Prop} {Q : List V → Hp → Prop} (s : St G O ρ σ T H F) (h : Wp G O E σ T (bnd m f ρ) ok)
    (q : ∀ as ρ1 vs H1 F1, AgOk O σ vs as → St G O ρ1 σ (agC vs as ++ T) H1 F1 → Wp G O E σ T (f as ρ1) ok → Q vs H1) : tG G O E m σ H Q :=
  ⟨ρ, T, F, s, h.bnd.imp fun r ρ1 w v H1 F1 rv s1 => q r ρ1 v H1 F1 rv s1 w⟩

/-- what a value is -/
theorem St.view {ρ : Env} {σ : L2.St} {T : List Cell} {H : Hp} {F : Fz} {r : R} {v : V} {d : D} (s : St G O ρ σ T H F) (rv : RV σ r v) (hm : ∀ x ∈ temp r v, x ∈ T) (h : deref ρ r = some d) : View G H F v d := by
  cases r with
  | v fl e =>
    cases h
    exact s.gd.view (x := (v, fl, d)) (List.mem_append_right _ (hm _ List.mem_cons_self))
  | s i =>
    have h : slotD ρ i = some d := h
    unfold slotD at h
    split at h
    · rename_i fl d' e
      cases h
      obtain ⟨w, h1, _⟩ := s.sl.has i _ e
      have rv : σ[i]? = some (some v) := rv
      rw [rv] at h1
      cases h1
      have := (live_take rv e).symm.subset (List.mem_cons_self)
      exact s.gd.view (x := (v, fl, d)) (List.mem_append_left _ this)
    · cases h
/-- it stands among the things -/
abbrev Among (L : List Cell) (v : V) (d : D) : Prop := ∃ fl, (v, fl, d) ∈ L
theorem St.mem {ρ : Env} {σ : L2.St} {T : List Cell} {H : Hp} {F : Fz} {r : R} {v : V} {d : D} (s : St G O ρ σ T H F) (rv : RV σ r v) (hm : ∀ x ∈ temp r v, x ∈ T) (h : deref ρ r = some d) : Among (live σ ρ ++ T) v d := by
  cases r with
  | v fl e =>
    cases h
    exact ⟨fl, List.mem_append_right _ (hm _ List.mem_cons_self)⟩
  | s i =>
    have h : slotD ρ i = some d := h
    unfold slotD at h
    split at h
    · rename_i fl d' e
      cases h
      obtain ⟨w, h1, _⟩ := s.sl.has i _ e
      have rv : σ[i]? = some (some v) := rv
      rw [rv] at h1
      cases h1
      exact ⟨fl, List.mem_append_left _ ((live_take rv e).symm.subset (List.mem_cons_self))⟩
    · cases h
theorem Good.vw {H : Hp} {F : Fz} {L : List Cell} {v : V} {d : D} (g : Good G H F L) (h : Among L v d) : View G H F v d := by
  obtain ⟨fl, h⟩ := h
  exact g.view h
theorem Good.rpT {H : Hp} {F : Fz} {L : List Cell} {v : V} {ds : List D} (g : Good G H F L) (h : Among L v (.tup ds)) : Rep G F v (.tup ds) := by
  obtain ⟨fl, h⟩ := h
  have q := g.it _ h
  unfold ItOk at q
  split at q
  · obtain ⟨a, _, _, w⟩ := q
    exact w.elim
  · exact q
end
end PP

set_option Elab.async false
set_option linter.all false
set_option maxRecDepth 100000
/-! Pure python, 4: the constructs' readings. -/
namespace PP
open PySem PySem.Spec PyProof.Rows L2

section
variable {G : Gx} {O : List V} {E : XK} {k : Nat} {X : Cx}
/-- a thing on top -/
theorem St.push {ρ : Env} {σ : L2.St} {T : List Cell} {H : Hp} {F : Fz} {x : Cell} (s : Slots O σ ρ) (g : Good G H F (x :: (live σ ρ ++ T))) : St G O ρ σ (x :: T) H F :=
  ⟨s, g.perm List.perm_middle.symm⟩
theorem St.good {ρ : Env} {σ : L2.St} {T : List Cell} {H : Hp} {F : Fz} {x : Cell} (s : St G O ρ σ (x :: T) H F) : Good G H F (x :: (live σ ρ ++ T)) := s.gd.perm List.perm_middle
/-- a slot's thing in front -/
theorem St.front {ρ : Env} {σ : L2.St} {T : List Cell} {H : Hp} {F : Fz} {i : Nat} {s : Fl × D} (st : St G O ρ σ T H F) (e : ρ[i]? = some (some s)) :
    ∃ v, σ[i]? = some (some v) ∧ (s.1.par = true → O[i]? = some v) ∧ Good G H F ((v, s.1, s.2) :: (live σ (ρ.set i none) ++ T)) := by
  obtain ⟨v, h1, h2⟩ := st.sl.has i s e
  exact ⟨v, h1, h2, st.gd.perm ((live_take h1 e).append_right T)⟩
theorem St.back {ρ : Env} {σ : L2.St} {T : List Cell} {H : Hp} {F : Fz} {i : Nat} {s t : Fl × D} {v : V} (sl : Slots O σ ρ) (e : ρ[i]? = some (some s)) (hv : σ[i]? = some (some v)) (hp : t.1.par = true → s.1.par = true)
    (g : Good G H F ((v, t.1, t.2) :: (live σ (ρ.set i none) ++ T))) : St G O (ρ.set i (some t)) σ T H F :=
  ⟨sl.upd e hp, g.perm ((live_put' hv (lt_of_get e)).symm.append_right T)⟩
theorem shut_own {fl : Fl} : fl.shut.own = false := by cases fl <;> rfl
theorem shut_par {fl : Fl} : fl.shut.par = true → fl.par = true := by cases fl <;> simp [Fl.shut, Fl.par]

/-! ### names, constants -/
theorem SE.var {i : Nat} {x : Str} {pos : Pos} (hN : X.N[i]? = some x := by rfl) (hv : Vis X.env.scope x := by first | exact Or.inl rfl | exact Or.inr (Or.inl rfl) | exact Or.inr (Or.inr rfl)) (hd : (x == ("__debug__" : Str)) = false := by decide)
    (hcd : (x == ("__classdict__" : Str)) = false := by decide) : SE G O E X (.Name x pos) (mV i) := by
  refine PE.imp (pe_var hN hv hd hcd) fun σ H Q h => ?_
  obtain ⟨ρ, T, F, st, w⟩ := h
  unfold mV at w
  split at w
  · rename_i fl d e
    obtain ⟨v, h1, h2, g⟩ := st.front e
    refine ⟨v, h1, ?_⟩
    split at w
    · rename_i ho
      obtain ⟨F', le, g', rp⟩ := g.freeze
      refine w v H F' trivial (St.push (st.sl.upd e shut_par) ?_)
      have g2 := (g'.rep (x := (v, .sh, d)) rfl rp).perm (List.Perm.swap _ _ _)
      refine g2.perm ?_
      refine (List.Perm.swap _ _ _).trans (List.Perm.cons _ ?_)
      exact ((live_put' (s := (fl.shut, d)) h1 (lt_of_get e)).symm.append_right T)
    · rename_i ho
      have ho' : fl.own = false := by simpa using ho
      refine w v H F trivial (St.push st.sl ?_)
      exact st.gd.rep (x := (v, .sh, d)) rfl (g.repH (x := (v, fl, d)) ho')
  · exact w.elim
theorem SE.bor {i : Nat} {x : Str} {pos : Pos} (hN : X.N[i]? = some x := by rfl) (hv : Vis X.env.scope x := by first | exact Or.inl rfl | exact Or.inr (Or.inl rfl) | exact Or.inr (Or.inr rfl)) (hd : (x == ("__debug__" : Str)) = false := by decide)
    (hcd : (x == ("__classdict__" : Str)) = false := by decide) : SE G O E X (.Name x pos) (mB i) := by
  refine PE.imp (pe_var hN hv hd hcd) fun σ H Q h => ?_
  obtain ⟨ρ, T, F, st, w⟩ := h
  unfold mB at w
  split at w
  · rename_i s e
    obtain ⟨v, h1, _⟩ := st.front e
    exact ⟨v, h1, w v H F h1 st⟩
  · exact w.elim
theorem SE.const {e : Expr} {v : V} {d : D} (h : PE X e (tC v)) (r : ∀ F, Rep G F v d) : SE G O E X e (mC d) :=
  PE.imp h fun σ H Q ⟨ρ, T, F, st, w⟩ => w v H F trivial (St.push st.sl (st.gd.rep (x := (v, .sh, d)) rfl (r F)))
theorem SE.int {i j pos} : SE G O E X (.Constant (.int i) j pos) (mC (.int i)) := SE.const pe_int fun _ => .int i
theorem SE.bl {b j pos} : SE G O E X (.Constant (.bool b) j pos) (mC (.bl b)) := SE.const pe_bl fun _ => .bl b
theorem SE.non {j pos} : SE G O E X (.Constant .none j pos) (mC .non) := SE.const pe_non fun _ => .non
theorem SE.str {x j pos} : SE G O E X (.Constant (.str x) j pos) (mC (.str x)) := SE.const pe_str fun _ => .str x
/-- a def as a value -/
theorem SE.fn {x : Str} {a : Addr} {f : Nat} {pos : Pos} (hg : Gl X x) (hm : X.mg x = some (.ref a)) (hf : G.fa f = some a) (hd : (x == ("__debug__" : Str)) = false := by decide) : SE G O E X (.Name x pos) (mC (.fn f)) :=
  SE.const (v := .ref a) (pe_glob hg hm rfl hd) fun _ => .fn hf
/-- a module's number or text -/
theorem SE.glob {x : Str} {v : V} {u : Value} {d : D} {pos : Pos} (hg : Gl X x) (hm : X.mg x = some u) (r : RelV v u) (h : ∀ F, Rep G F v d) (hd : (x == ("__debug__" : Str)) = false := by decide) : SE G O E X (.Name x pos) (mC d) :=
  SE.const (pe_glob hg hm r hd) h

/-! ### operations on one, two, three things -/
/-- the end of an operation: the thing is made, the rest stands -/
def Made (G : Gx) (L : List Cell) (r : Option (Fl × D)) (Q : VK) : Prop := match r with
  | some (fl, d) => ∀ w H' F', Good G H' F' ((w, fl, d) :: L) → Q w H'
  | none => False
def Ok1 (G : Gx) (r : V → Hp → VK → Prop) (f : D → Option (Fl × D)) : Prop := ∀ H F L v x Q, Good G H F L → Among L v x → Made G L (f x) Q → r v H Q
def Ok2 (G : Gx) (r : R2) (f : D → D → Option (Fl × D)) : Prop := ∀ H F L v u x y Q, Good G H F L → Among L v x → Among L u y → Made G L (f x y) Q → r v u H Q
def orE {α : Type} (a b : Option α) : Option α := match a with
  | some z => some z
  | none => b
theorem Ok2.or {r r' : R2} {f g : D → D → Option (Fl × D)} (h : Ok2 G r f) (h' : Ok2 G r' g) : Ok2 G (fun x y H Q => r x y H Q ∨ r' x y H Q) (fun x y => orE (f x y) (g x y)) := by
  intro H F L v u x y Q gd hv hu m
  dsimp only at m
  cases e : f x y with
  | some z => exact .inl (h H F L v u x y Q gd hv hu (by rw [e] at m ⊢; exact m))
  | none => exact .inr (h' H F L v u x y Q gd hv hu (by rw [e] at m; exact m))
theorem Ok1.or {r r' : V → Hp → VK → Prop} {f g : D → Option (Fl × D)} (h : Ok1 G r f) (h' : Ok1 G r' g) : Ok1 G (fun x H Q => r x H Q ∨ r' x H Q) (fun x => orE (f x) (g x)) := by
  intro H F L v x Q gd hv m
  dsimp only at m
  cases e : f x with
  | some z => exact .inl (h H F L v x Q gd hv (by rw [e] at m ⊢; exact m))
  | none => exact .inr (h' H F L v x Q gd hv (by rw [e] at m; exact m))
theorem made_of {r : Option (Fl × D)} {ρ : Env} {σ : L2.St} {T T' : List Cell} {Q : VK} (sl : Slots O σ ρ) (w : Wp G O E σ T' (opR ρ r) fun r ρ' => ∀ v H' F', RV σ r v → St G O ρ' σ (temp r v ++ T) H' F' → Q v H') : Made G (live σ ρ ++ T) r Q := by
  cases r with
  | none => exact w
  | some z =>
    obtain ⟨fl, d⟩ := z
    exact fun u H' F' g => w u H' F' trivial (St.push sl g)
theorem Made.sub {L L' : List Cell} {r : Option (Fl × D)} {Q : VK} (h : L'.Sublist L) (m : Made G L' r Q) : Made G L r Q := by
  cases r with
  | none => exact m
  | some z => exact fun w H' F' g => m w H' F' (g.sub (h.cons_cons _))
theorem St.sub {ρ : Env} {σ : L2.St} {T' T : List Cell} : (live σ ρ ++ T).Sublist (live σ ρ ++ (T' ++ T)) := List.Sublist.append_left (List.sublist_append_right _ _) _
theorem mem_temp {r : R} {v : V} {T : List Cell} : ∀ x ∈ temp r v, x ∈ temp r v ++ T := fun x h => List.mem_append_left _ h

/-- what two operands' readings give -/
theorem bin_read {a b : M R} {f : D → D → Option (Fl × D)} {σ : L2.St} {H : Hp} {Q : VK} (h : tE G O E (mOp2 f a b) σ H Q) {P : V → V → Hp → Prop}
    (q : ∀ H F L v u x y, Good G H F L → Among L v x → Among L u y → Made G L (f x y) Q → P v u H) : tE G O E a σ H fun v H1 => tE G O E b σ H1 fun u H2 => P v u H2 := by
  obtain ⟨ρ, T, F, st, w⟩ := h
  unfold mOp2 at w
  refine tE_bnd st w fun ra ρ1 v H1 F1 rv st1 w1 => ?_
  refine tE_bnd (T := temp ra v ++ T) st1 (w1.ext fun _ _ x => x) fun rb ρ2 u H2 F2 ru st2 w2 => ?_
  split at w2
  · rename_i x y ex ey
    refine q H2 F2 _ v u x y st2.gd (st2.mem rv (fun z hz => List.mem_append_right _ (mem_temp z hz)) ex) (st2.mem ru mem_temp ey) ?_
    refine Made.sub ?_ (made_of (T' := temp ra v ++ T) (T := T) st2.sl w2)
    exact List.Sublist.append_left ((List.sublist_append_right _ _).trans (List.sublist_append_right _ _)) _
  · exact w2.elim
theorem un_read {a : M R} {f : D → Option (Fl × D)} {σ : L2.St} {H : Hp} {Q : VK} (h : tE G O E (mOp1 f a) σ H Q) {P : V → Hp → Prop}
    (q : ∀ H F L v x, Good G H F L → Among L v x → Made G L (f x) Q → P v H) : tE G O E a σ H P := by
  obtain ⟨ρ, T, F, st, w⟩ := h
  unfold mOp1 at w
  refine tE_bnd st w fun ra ρ1 v H1 F1 rv st1 w1 => ?_
  split at w1
  · rename_i x ex
    refine q H1 F1 _ v x st1.gd (st1.mem rv mem_temp ex) ?_
    exact Made.sub St.sub (made_of (T' := T) st1.sl w1)
  · exact w1.elim
theorem SE.op {op : Operator} {a b : Expr} {pos : Pos} {r : R2} {f : D → D → Option (Fl × D)} {ma mb : M R} (ho : OpR X (binaryOp op) r) (hr : Ok2 G r f) (ha : SE G O E X a ma) (hb : SE G O E X b mb) : SE G O E X (.BinOp a op b pos) (mOp2 f ma mb) :=
  PE.imp (pe_op ho ha hb) fun σ H Q h => bin_read h fun H F L v u x y g vv vu m => hr H F L v u x y Q g vv vu m
theorem SE.cmp {op : CmpOp} {a b : Expr} {pos : Pos} {r : R2} {f : D → D → Option (Fl × D)} {ma mb : M R} (ho : OpR X (compareOp op) r) (hr : Ok2 G r f) (ha : SE G O E X a ma) (hb : SE G O E X b mb) (hm : behindInMarks op b = false) : SE G O E X (.Compare a [op] [b] pos) (mOp2 f ma mb) :=
  PE.imp (pe_cmpR ho ha hb hm) fun σ H Q h => bin_read h fun H F L v u x y g vv vu m => hr H F L v u x y Q g vv vu m
theorem SE.ix {a b : Expr} {pos : Pos} {r : R2} {f : D → D → Option (Fl × D)} {ma mb : M R} (ho : IxR X r) (hr : Ok2 G r f) (ha : SE G O E X a ma) (hb : SE G O E X b mb) (hs : PlainIx b := by exact fun _ _ => rfl) : SE G O E X (.Subscript a b pos) (mOp2 f ma mb) :=
  PE.imp (pe_ix ho ha hb hs) fun σ H Q h => bin_read h fun H F L v u x y g vv vu m => hr H F L v u x y Q g vv vu m
theorem SE.un {op : UnaryOp} {a : Expr} {pos : Pos} {r : V → Hp → VK → Prop} {f : D → Option (Fl × D)} {ma : M R} (ho : UnR X (unaryOp op) r) (hr : Ok1 G r f) (ha : SE G O E X a ma) : SE G O E X (.UnaryOp op a pos) (mOp1 f ma) :=
  PE.imp (pe_un ho ha) fun σ H Q h => un_read h fun H F L v x g vv m => hr H F L v x Q g vv m
/-- a built-in of one thing, of two -/
theorem SE.b1 {x : Str} {p pos : Pos} {id : String} {r : List V → Hp → VK → Prop} {f : D → Option (Fl × D)} {a : Expr} {ma : M R} (hc : CallR X (.builtin id) r) (hr : Ok1 G (fun v => r [v]) f) (hg : Gl X x) (hm : X.mg x = none) (hv : bootBuiltins x = some (.builtin id)) (ha : SE G O E X a ma)
    (hs : starEach [a] X.env = (false, eval a X.env) :: starEach [] X.env := by rfl) (hpl : (backTo pos (starEach [] X.env)).any (·.1) = false := by rfl) (hn : x ≠ "__name__" := by decide) (hdb : (x == ("__debug__" : Str)) = false := by decide) : SE G O E X (.Call (.Name x p) [a] [] pos) (mOp1 f ma) :=
  PE.imp (pe_callB hc hg hm hv (pa_cons ha pa_nil hs) hn hdb hs hpl) fun σ H Q h => un_read h fun H F L v x g vv m => hr H F L v x Q g vv m
theorem SE.b2 {x : Str} {p pos : Pos} {id : String} {r : List V → Hp → VK → Prop} {f : D → D → Option (Fl × D)} {a b : Expr} {ma mb : M R} (hc : CallR X (.builtin id) r) (hr : Ok2 G (fun v u => r [v, u]) f) (hg : Gl X x) (hm : X.mg x = none) (hv : bootBuiltins x = some (.builtin id)) (ha : SE G O E X a ma) (hb : SE G O E X b mb)
    (hs : starEach [a, b] X.env = (false, eval a X.env) :: starEach [b] X.env := by rfl) (hs2 : starEach [b] X.env = (false, eval b X.env) :: starEach [] X.env := by rfl) (hpl : (backTo pos (starEach [b] X.env)).any (·.1) = false := by rfl) (hn : x ≠ "__name__" := by decide) (hdb : (x == ("__debug__" : Str)) = false := by decide) : SE G O E X (.Call (.Name x p) [a, b] [] pos) (mOp2 f ma mb) :=
  PE.imp (pe_callB hc hg hm hv (pa_cons ha (pa_cons hb pa_nil hs2) hs) hn hdb hs hpl) fun σ H Q h => bin_read h fun H F L v u x y g vv vu m => hr H F L v u x y Q g vv vu m
theorem SE.t1 {x : Str} {p pos : Pos} {ty : String} {r : List V → Hp → VK → Prop} {f : D → Option (Fl × D)} {a : Expr} {ma : M R} (hc : CallR X (.type ty) r) (hr : Ok1 G (fun v => r [v]) f) (hg : Gl X x) (hm : X.mg x = none) (hv : bootBuiltins x = some (.type ty)) (ha : SE G O E X a ma)
    (hs : starEach [a] X.env = (false, eval a X.env) :: starEach [] X.env := by rfl) (hpl : (backTo pos (starEach [] X.env)).any (·.1) = false := by rfl) (hn : x ≠ "__name__" := by decide) (hdb : (x == ("__debug__" : Str)) = false := by decide) : SE G O E X (.Call (.Name x p) [a] [] pos) (mOp1 f ma) :=
  PE.imp (pe_callTy hc hg hm hv (pa_cons ha pa_nil hs) hn hdb hs hpl) fun σ H Q h => un_read h fun H F L v x g vv m => hr H F L v x Q g vv m
/-- a[lo:hi] -/
theorem SE.slice {a : Expr} {lo hi : Option Expr} {tl th : TO} {p2 pos : Pos} {r : V → Option Int → Option Int → Hp → VK → Prop} {m : M R} {ta : TE} (hr : SlR X r) (ha : PE X a ta) (hl : PO X lo tl) (hu : PO X hi th)
    (h : ∀ σ H Q, tE G O E m σ H Q → tSl r ta tl th σ H Q) : SE G O E X (.Subscript a (.Slice lo hi none p2) pos) m := PE.imp (pe_slice hr ha hl hu) h

/-! ### displays -/
theorem SL.nil : SL G O E X [] mNil := PA.imp pa_nil fun σ H Q ⟨ρ, T, F, st, w⟩ => w [] H F rfl st
theorem freeze_top {ρ : Env} {σ : L2.St} {T : List Cell} {H : Hp} {F : Fz} {v : V} {fl : Fl} {d : D} (st : St G O ρ σ ((v, fl, d) :: T) H F) : ∃ F', St G O ρ σ ((v, .sh, d) :: T) H F' := by
  obtain ⟨F', le, g, rp⟩ := st.good.freeze
  exact ⟨F', St.push st.sl (g.tail.rep (x := (v, .sh, d)) rfl rp)⟩
theorem SL.cons {e : Expr} {es : List Expr} {me : M R} {ms : M (List D)} (he : SE G O E X e me) (hs : SL G O E X es ms) (hst : starEach (e :: es) X.env = (false, eval e X.env) :: starEach es X.env := by rfl) : SL G O E X (e :: es) (mCons me ms) := by
  refine PA.imp (pa_cons he hs hst) fun σ H Q ⟨ρ, T, F, st, w⟩ => ?_
  unfold mCons at w
  refine tE_bnd st w fun ra ρ1 v H1 F1 rv st1 w1 => ?_
  cases ra with
  | s i => exact w1.elim
  | v fl d =>
    obtain ⟨F2, st2⟩ := freeze_top (T := T) (by exact st1)
    refine tL_bnd (T := (v, .sh, d) :: T) st2 (w1.ext (T' := [(v, .sh, d)]) fun _ _ x => x) fun ds ρ2 vs H3 F3 hl st3 w3 => ?_
    refine w3 (v :: vs) H3 F3 (by simp [hl]) ⟨st3.sl, st3.gd.perm (List.Perm.append_left _ ?_)⟩
    exact List.perm_middle
theorem shs_reps : ∀ {vs : List V} {ds : List D} {H : Hp} {F : Fz} {L : List Cell}, vs.length = ds.length → Good G H F (shs vs ds ++ L) → Reps G F vs ds
  | [], [], _, _, _, _, _ => .nil
  | v :: vs, d :: ds, H, F, L, h, g => .cons (g.repH (x := (v, .sh, d)) rfl) (shs_reps (by simpa using h) g.tail)
  | [], _ :: _, _, _, _, h, _ => by simp at h
  | _ :: _, [], _, _, _, h, _ => by simp at h
theorem Good.swap {H : Hp} {F : Fz} {A B L : List Cell} (g : Good G H F (A ++ (B ++ L))) : Good G H F (B ++ (A ++ L)) := g.perm (by
  rw [← List.append_assoc, ← List.append_assoc]
  exact List.Perm.append_right _ List.perm_append_comm)
theorem SE.tup {es : List Expr} {ms : M (List D)} {x1 : Nat} {pos : Pos} (h : SL G O E X es ms) : SE G O E X (.Tuple es x1 pos) (mTup ms) := by
  refine PE.imp (pe_tup h) fun σ H Q ⟨ρ, T, F, st, w⟩ => ?_
  unfold mTup at w
  refine tL_bnd st w fun ds ρ1 vs H1 F1 hl st1 w1 => ?_
  split at w1
  · rename_i hz
    refine ⟨by omega, fun p hp => ?_⟩
    have g := Good.swap st1.gd
    obtain ⟨F2, le, g2⟩ := g.right.newT (vs := vs) (ds := ds) hp (shs_reps hl g)
    exact w1 (.ref p) _ F2 trivial (St.push st1.sl g2)
  · exact w1.elim
theorem SE.lst {es : List Expr} {ms : M (List D)} {pos : Pos} (h : SL G O E X es ms) : SE G O E X (.List es pos) (mLst ms) := by
  refine PE.imp (pe_lst h) fun σ H Q ⟨ρ, T, F, st, w⟩ => ?_
  unfold mLst at w
  refine tL_bnd st w fun ds ρ1 vs H1 F1 hl st1 w1 => ?_
  split at w1
  · rename_i hz
    refine ⟨by omega, fun p hp => ?_⟩
    have g := Good.swap st1.gd
    exact w1 (.ref p) _ F1 trivial (St.push st1.sl (g.right.new hp ⟨vs, upd_same, shs_reps hl g⟩ rfl))
  · exact w1.elim

/-! ### tests -/
theorem ST.val {e : Expr} {m : M R} (h : SE G O E X e m) (he : ∀ whole, isTrue e X.env whole = (do let v ← whole; standAt e.pos; holding [v] (truthy v)) := by intro _; rfl) : ST G O E X e (mTst m) := by
  refine PT.imp (pt_val h he) fun σ H Q ⟨ρ, T, F, st, w⟩ => ?_
  unfold mTst at w
  refine tE_bnd st w fun r ρ1 v H1 F1 rv st1 w1 => ?_
  split at w1
  · rename_i b e1
    exact ⟨b, st1.view rv mem_temp e1, w1 H1 F1 st1.drop⟩
  · exact w1.elim
theorem ST.cmp {op : CmpOp} {a b : Expr} {pos : Pos} {r : R2} {f : D → D → Option (Fl × D)} {ma mb : M R} (ho : OpR X (compareOp op) r) (hr : Ok2 G r f) (ha : SE G O E X a ma) (hb : SE G O E X b mb) (hm : behindInMarks op b = false) : ST G O E X (.Compare a [op] [b] pos) (mTst (mOp2 f ma mb)) := by
  refine PT.imp (pt_cmpR ho ha hb hm) fun σ H Q ⟨ρ, T, F, st, w⟩ => ?_
  have h : tE G O E (mOp2 f ma mb) σ H fun x H' => ∃ k, x = .bl k ∧ Q k H' := by
    unfold mTst at w
    refine tE_bnd st w fun r ρ1 v H1 F1 rv st1 w1 => ?_
    split at w1
    · rename_i b e1
      exact ⟨b, st1.view rv mem_temp e1, w1 H1 F1 st1.drop⟩
    · exact w1.elim
  exact bin_read h fun H F L v u x y g vv vu m => hr H F L v u x y _ g vv vu m
theorem ST.tru {e : Expr} {m : M R} (hK : X.K = G.K) (h : SE G O E X e m) (he : ∀ whole, isTrue e X.env whole = (do let v ← whole; standAt e.pos; holding [v] (truthy v)) := by intro _; rfl) : ST G O E X e (mTru m) := by
  refine PT.imp (pt_truth h he) fun σ H Q ⟨ρ, T, F, st, w⟩ => ?_
  unfold mTru at w
  refine tE_bnd st w fun r ρ1 v H1 F1 rv st1 w1 => ?_
  split at w1
  · rename_i b e1
    refine ⟨b, ?_, w1 H1 F1 st1.drop⟩
    cases ed : deref ρ1 r with
    | none => rw [ed] at e1; cases e1
    | some d =>
      rw [ed] at e1
      have e1 : truD d = some b := e1
      have vw := st1.view rv mem_temp ed
      rw [hK]
      cases d with
      | non => rw [show v = .non from vw]; exact (Option.some.inj e1).symm
      | bl c => rw [show v = .bl c from vw]; exact (Option.some.inj e1).symm
      | int i => rw [show v = .int i from vw]; exact (Option.some.inj e1).symm
      | str x =>
        rw [show v = .str x from vw]
        simp only [truD] at e1
        split at e1
        · exact ⟨by assumption, (Option.some.inj e1).symm⟩
        · cases e1
      | tup ds =>
        obtain ⟨a, vs, ev, hs, rp⟩ := View.tup vw
        rw [ev]
        refine .inr (.inl ⟨vs, hs, ?_⟩)
        rw [← Option.some.inj e1]
        cases rp <;> rfl
      | lst ds =>
        obtain ⟨a, vs, ev, hs, rp⟩ := vw
        rw [ev]
        refine .inl ⟨vs, SqL.of hs, ?_⟩
        rw [← Option.some.inj e1]
        cases rp <;> rfl
      | scr ns => cases e1
      | dK kvs => cases e1
      | dT kvs => cases e1
      | fn f => cases e1
      | exo => cases e1
  · exact w1.elim
theorem ST.and1 {a : Expr} {m : M Bool} {pos : Pos} (h : ST G O E X a m) : SW G O E X (.BoolOp .And [a] pos) m := pw_and1 h
theorem ST.or1 {a : Expr} {m : M Bool} {pos : Pos} (h : ST G O E X a m) : SW G O E X (.BoolOp .Or [a] pos) m := pw_or1 h
theorem ST.and {a b : Expr} {r : List Expr} {m n : M Bool} {pos : Pos} (h : ST G O E X a m) (h' : SW G O E X (.BoolOp .And (b :: r) pos) n) : SW G O E X (.BoolOp .And (a :: b :: r) pos) (mAnd m n) := by
  refine PW.imp (pw_and h h') fun σ H Q ⟨ρ, T, F, st, w⟩ => ?_
  unfold mAnd at w
  refine tT_bnd st w fun b ρ1 H1 F1 st1 w1 => ?_
  cases b with
  | true => rw [if_pos rfl] at w1 ⊢; exact ⟨ρ1, T, F1, st1, w1⟩
  | false => rw [if_neg Bool.false_ne_true] at w1 ⊢; exact w1 H1 F1 st1
theorem ST.or {a b : Expr} {r : List Expr} {m n : M Bool} {pos : Pos} (h : ST G O E X a m) (h' : SW G O E X (.BoolOp .Or (b :: r) pos) n) : SW G O E X (.BoolOp .Or (a :: b :: r) pos) (mOr m n) := by
  refine PW.imp (pw_or h h') fun σ H Q ⟨ρ, T, F, st, w⟩ => ?_
  unfold mOr at w
  refine tT_bnd st w fun b ρ1 H1 F1 st1 w1 => ?_
  cases b with
  | true => rw [if_pos rfl] at w1 ⊢; exact w1 H1 F1 st1
  | false => rw [if_neg Bool.false_ne_true] at w1 ⊢; exact ⟨ρ1, T, F1, st1, w1⟩
theorem ST.bool {a : Expr} {m : M Bool} (h : SW G O E X a m) : ST G O E X a m := PW.pt h
theorem ST.not {a : Expr} {m : M Bool} {pos : Pos} (h : ST G O E X a m) : ST G O E X (.UnaryOp .Not a pos) (mNot m) := by
  refine PT.imp (pt_not h) fun σ H Q ⟨ρ, T, F, st, w⟩ => ?_
  exact tT_bnd st w fun b ρ1 H1 F1 st1 w1 => w1 H1 F1 st1
/-- as values -/
theorem SE.ifx {c a b : Expr} {mc : M Bool} {ma mb : M R} {pos : Pos} (hc : ST G O E X c mc) (ha : SE G O E X a ma) (hb : SE G O E X b mb) : SE G O E X (.IfExp c a b pos) (mIf mc ma mb) := by
  refine PE.imp (pe_ifExp hc ha hb) fun σ H Q ⟨ρ, T, F, st, w⟩ => ?_
  unfold mIf at w
  refine tT_bnd st w fun b ρ1 H1 F1 st1 w1 => ?_
  cases b with
  | true => rw [if_pos rfl] at w1 ⊢; exact ⟨ρ1, T, F1, st1, w1⟩
  | false => rw [if_neg Bool.false_ne_true] at w1 ⊢; exact ⟨ρ1, T, F1, st1, w1⟩
theorem SE.one {op : BoolOp} {a : Expr} {m : M R} {pos : Pos} (h : SE G O E X a m) : SE G O E X (.BoolOp op [a] pos) m := pe_one h
theorem tst_bnd {β : Type} {m : M R} {f : Bool → M β} {ρ : Env} {σ : L2.St} {T : List Cell} {H : Hp} {F : Fz} {ok : β → Env → Prop} {Q : VK} (s : St G O ρ σ T H F) (h : Wp G O E σ T (bnd (mTst m) f ρ) ok)
    (q : ∀ b ρ1 H1 F1, St G O ρ1 σ T H1 F1 → Wp G O E σ T (f b ρ1) ok → Q (.bl b) H1) : tE G O E m σ H Q := by
  have h' := h.bnd
  unfold mTst at h'
  refine tE_bnd s h' fun r ρ1 v H1 F1 rv st1 w1 => ?_
  split at w1
  · rename_i b e1
    have := st1.view rv mem_temp e1
    rw [show v = .bl b from this]
    exact q b ρ1 H1 F1 st1.drop w1
  · exact w1.elim
theorem SE.and {a b : Expr} {r : List Expr} {m n : M R} {pos : Pos} (h : SE G O E X a m) (h' : SE G O E X (.BoolOp .And (b :: r) pos) n) : SE G O E X (.BoolOp .And (a :: b :: r) pos) (mAndV m n) := by
  refine PE.imp (pe_and h h') fun σ H Q ⟨ρ, T, F, st, w⟩ => ?_
  unfold mAndV at w
  refine tst_bnd st w fun b ρ1 H1 F1 st1 w1 => ⟨b, rfl, ?_⟩
  cases b with
  | true => rw [if_pos rfl] at w1 ⊢; exact ⟨ρ1, T, F1, st1, w1⟩
  | false =>
    rw [if_neg Bool.false_ne_true] at w1 ⊢
    exact w1 (.bl false) H1 F1 trivial (St.push st1.sl (st1.gd.rep (x := (.bl false, .sh, .bl false)) rfl (.bl false)))
theorem SE.or {a b : Expr} {r : List Expr} {m n : M R} {pos : Pos} (h : SE G O E X a m) (h' : SE G O E X (.BoolOp .Or (b :: r) pos) n) : SE G O E X (.BoolOp .Or (a :: b :: r) pos) (mOrV m n) := by
  refine PE.imp (pe_or h h') fun σ H Q ⟨ρ, T, F, st, w⟩ => ?_
  unfold mOrV at w
  refine tst_bnd st w fun b ρ1 H1 F1 st1 w1 => ⟨b, rfl, ?_⟩
  cases b with
  | true =>
    rw [if_pos rfl] at w1 ⊢
    exact w1 (.bl true) H1 F1 trivial (St.push st1.sl (st1.gd.rep (x := (.bl true, .sh, .bl true)) rfl (.bl true)))
  | false => rw [if_neg Bool.false_ne_true] at w1 ⊢; exact ⟨ρ1, T, F1, st1, w1⟩
theorem SE.not {a : Expr} {m : M R} {pos : Pos} (h : SE G O E X a m) : SE G O E X (.UnaryOp .Not a pos) (mNotV m) := by
  refine PE.imp (pe_not h) fun σ H Q ⟨ρ, T, F, st, w⟩ => ?_
  unfold mNotV at w
  refine tst_bnd st w fun b ρ1 H1 F1 st1 w1 => ⟨b, rfl, ?_⟩
  exact w1 (.bl (!b)) H1 F1 trivial (St.push st1.sl (st1.gd.rep (x := (.bl (!b), .sh, .bl (!b))) rfl (.bl (!b))))
end
end PP

set_option Elab.async false
set_option linter.all false
set_option maxRecDepth 100000
/-! Pure python, 5: calls, defs, statements. -/
namespace PP
open PySem PySem.Spec PyProof.Rows L2

/-! ### what a def promises -/
def argC (vs : List V) (as : List (Fl × D)) : List Cell := vs.zipWith (fun v a => (v, a.1, a.2)) as
def backC : List V → List (Fl × D) → List (Fl × D) → List Cell
  | v :: vs, (.ow, _) :: as, b :: bs => (v, b.1, b.2) :: backC vs as bs
  | _ :: vs, _ :: as, bs => backC vs as bs
  | _, _, _ => []
def spD (G : Gx) (n : Nat) (f : FM) : Sp := fun vs H Q E => ∃ (as : List (Fl × D)) (L : List Cell) (F : Fz), vs.length = n ∧ as.length = n ∧ (∀ a ∈ as, a.1 = .ow ∨ a.1 = .sh) ∧ Good G H F (argC vs as ++ L) ∧ match f as with
  | .ok fl d back => ∀ v H' F', Good G H' F' ((v, fl, d) :: (backC vs as back ++ L)) → Q v H'
  | .exc c p => ∀ H' F' da, ExcAt H' p da → Good G H' F' L → E (.ref (G.ca c)) da H'
  | .bad => False

section
variable {G : Gx} {O : List V} {E : XK} {k : Nat} {X : Cx}
/-! ### arguments -/
theorem SG.nil : SG G O E X [] aNil := PA.imp pa_nil fun σ H Q ⟨ρ, T, F, st, w⟩ => w [] H F .nil st
theorem SG.val {e : Expr} {es : List Expr} {me : M R} {ms : M (List Ag)} (he : SE G O E X e me) (hs : SG G O E X es ms) (hst : starEach (e :: es) X.env = (false, eval e X.env) :: starEach es X.env := by rfl) : SG G O E X (e :: es) (aVal me ms) := by
  refine PA.imp (pa_cons he hs hst) fun σ H Q ⟨ρ, T, F, st, w⟩ => ?_
  unfold aVal at w
  refine tE_bnd st w fun ra ρ1 v H1 F1 rv st1 w1 => ?_
  cases ra with
  | s i => exact w1.elim
  | v fl d =>
    obtain ⟨F2, st2⟩ := freeze_top (T := T) (by exact st1)
    refine tG_bnd (T := (v, .sh, d) :: T) st2 (w1.ext (T' := [(v, .sh, d)]) fun _ _ x => x) fun ds ρ2 vs H3 F3 hl st3 w3 => ?_
    refine w3 (v :: vs) H3 F3 (.cons ⟨fun i fl e => (nomatch e), fun _ => rfl⟩ hl) ⟨st3.sl, st3.gd.perm (List.Perm.append_left _ ?_)⟩
    exact List.perm_middle
theorem SG.lend {i : Nat} {x : Str} {pos : Pos} {es : List Expr} {ms : M (List Ag)} (hs : SG G O E X es ms) (hN : X.N[i]? = some x := by rfl) (hv : Vis X.env.scope x := by first | exact Or.inl rfl | exact Or.inr (Or.inl rfl) | exact Or.inr (Or.inr rfl))
    (hst : starEach (.Name x pos :: es) X.env = (false, eval (.Name x pos) X.env) :: starEach es X.env := by rfl) (hd : (x == ("__debug__" : Str)) = false := by decide) (hcd : (x == ("__classdict__" : Str)) = false := by decide) : SG G O E X (.Name x pos :: es) (aLend i ms) := by
  refine PA.imp (pa_cons (pe_var hN hv hd hcd) hs hst) fun σ H Q ⟨ρ, T, F, st, w⟩ => ?_
  unfold aLend at w
  split at w
  · rename_i fl d e
    split at w
    · rename_i ho
      obtain ⟨v, h1, h2, g⟩ := st.front e
      refine ⟨v, h1, ?_⟩
      have g' : Good G H F ((v, .ow, d) :: (live σ (ρ.set i none) ++ T)) := g.flag (fl' := .ow) (by rw [ho]; rfl)
      refine tG_bnd (T := (v, .ow, d) :: T) (St.push st.sl.none g') (w.ext (T' := [(v, .ow, d)]) fun _ _ x => x) fun ds ρ2 vs H3 F3 hl st3 w3 => ?_
      refine w3 (v :: vs) H3 F3 (.cons ⟨fun j fl' e' => ?_, fun z => by cases z⟩ hl) ⟨st3.sl, st3.gd.perm (List.Perm.append_left _ List.perm_middle)⟩
      cases e'
      exact ⟨h1, ho, rfl, h2⟩
    · exact w.elim
  · exact w.elim
theorem agC_arg : ∀ {vs : List V} {as : List Ag}, agC vs as = argC vs (as.map fun a => (a.fl, a.d))
  | [], _ => rfl
  | _ :: _, [] => rfl
  | v :: vs, a :: as => by
    show (v, a.fl, a.d) :: agC vs as = (v, a.fl, a.d) :: argC vs _
    rw [agC_arg]
/-- what was lent stands in its slot again -/
theorem giveBack_ok : ∀ {vs : List V} {as : List Ag} {bs : List (Fl × D)} {ρ ρ' : Env} {σ : L2.St} {H : Hp} {F : Fz} {L : List Cell}, AgOk O σ vs as → giveBack as bs ρ = some ρ' → Slots O σ ρ →
    Good G H F (backC vs (as.map fun a => (a.fl, a.d)) bs ++ (live σ ρ ++ L)) → St G O ρ' σ L H F
  | [], [], [], ρ, ρ', σ, H, F, L, _, e, sl, g => by
    have e : some ρ = some ρ' := e
    cases e
    exact ⟨sl, g⟩
  | v :: vs, ⟨none, fl, d⟩ :: as, bs, ρ, ρ', σ, H, F, L, .cons r t, e, sl, g => by
    have hf : fl = .sh := r.2 rfl
    subst hf
    exact giveBack_ok t (by simpa [giveBack] using e) sl g
  | v :: vs, ⟨some (i, fl), fl2, d⟩ :: as, (g0, d0) :: bs, ρ, ρ', σ, H, F, L, .cons r t, e, sl, g => by
    obtain ⟨h1, h2, h3, h4⟩ := r.1 i fl rfl
    have h3 : fl2 = .ow := h3
    subst h3
    have hi : i < σ.length := lt_of_get h1
    have hi' : i < ρ.length := by have := sl.len; omega
    have g : Good G H F ((v, g0, d0) :: (backC vs (as.map fun a => (a.fl, a.d)) bs ++ (live σ ρ ++ L))) := g
    have back : ∀ (t : Fl × D), t.2 = d0 → t.1.own = g0.own → (t.1.par = true → fl.par = true) → Good G H F (backC vs (as.map fun a => (a.fl, a.d)) bs ++ (live σ (ρ.set i (some t)) ++ L)) := fun t e1 e2 e3 => by
      have g1 : Good G H F ((v, t.1, t.2) :: (backC vs (as.map fun a => (a.fl, a.d)) bs ++ (live σ ρ ++ L))) := by
        rw [e1]; exact g.flag e2
      have g2 := (g1.perm List.perm_middle.symm).sub (L' := backC vs (as.map fun a => (a.fl, a.d)) bs ++ ((v, t.1, t.2) :: (live σ (ρ.set i none) ++ L))) (List.Sublist.append_left ((List.Sublist.append_right live_sub _).cons_cons _) _)
      exact g2.perm (List.Perm.append_left _ ((live_put' h1 hi').symm.append_right L))
    have sl' : ∀ (t : Fl × D), (t.1.par = true → fl.par = true) → Slots O σ (ρ.set i (some t)) := fun t ht => by
      refine ⟨by simpa using sl.len, fun j u q => ?_⟩
      by_cases z : i = j
      · subst z
        rw [List.getElem?_set_self hi'] at q
        cases q
        exact ⟨v, h1, fun p => h4 (ht p)⟩
      · rw [List.getElem?_set_ne z] at q
        exact sl.has j u q
    unfold giveBack at e
    split at e
    · rename_i hg
      subst hg
      exact giveBack_ok t e (sl' _ fun p => p) (back (fl, d0) rfl (by rw [h2]; rfl) fun p => p)
    · split at e
      · rename_i hg
        subst hg
        exact giveBack_ok t e (sl' _ shut_par) (back (fl.shut, d0) rfl (by rw [shut_own]; rfl) shut_par)
      · cases e
  | [], _ :: _, _, _, _, _, _, _, _, r, _, _, _ => by cases r
  | _ :: _, [], _, _, _, _, _, _, _, r, _, _, _ => by cases r
  | [], [], _ :: _, _, _, _, _, _, _, _, e, _, _ => by cases e
  | _ :: _, ⟨some _, _, _⟩ :: _, [], _, _, _, _, _, _, _, e, _, _ => by cases e
theorem AgOk.flags : ∀ {vs : List V} {as : List Ag} {σ : L2.St}, AgOk O σ vs as → ∀ a ∈ as.map (fun a => (a.fl, a.d)), a.1 = .ow ∨ a.1 = .sh
  | _, _, _, .nil, a, h => by cases h
  | _, b :: as, _, .cons r t, a, h => by
    rcases List.mem_cons.mp h with rfl | h
    · cases e : b.src with
      | none => exact .inr (r.2 e)
      | some p => exact .inl (r.1 p.1 p.2 e).2.2.1
    · exact AgOk.flags t a h
theorem Paired.len' {α β : Type} {P : α → β → Prop} {l : List α} {m : List β} (h : Paired P l m) : l.length = m.length := h.length
theorem call_read {ps : List Str} {fm : FM} {e : Expr} {es : List Expr} {ms : M (List Ag)} (hn : ps.length = (e :: es).length) (hlen : ∀ ρ as ρ', ms ρ = .ok as ρ' → as.length = (e :: es).length) {σ : L2.St} {H : Hp} {Q : VK} (h : tE G O E (mCall fm ms) σ H Q) :
    tCall (spD G ps.length fm) [] E (tG G O E ms) σ H Q := by
  obtain ⟨ρ, T, F0, st, w⟩ := h
  unfold mCall at w
  refine ⟨ρ, T, F0, st, ?_⟩
  cases q : ms ρ with
  | bad => unfold bnd at w; rw [q] at w; exact w
  | exc c p ρ' => unfold bnd at w; rw [q] at w; exact w
  | ok as ρ1 =>
    have w1 := w.bnd
    rw [q] at w1
    intro vs H1 F1 ok st1
    have hl := hlen ρ as ρ1 q
    have hv : vs.length = as.length := Paired.length ok
    refine ⟨as.map fun a => (a.fl, a.d), live σ ρ1 ++ T, F1, by rw [List.append_nil]; omega, by simp; omega, AgOk.flags ok, ?_, ?_⟩
    · rw [List.append_nil, ← agC_arg]; exact Good.swap st1.gd
    · rw [List.append_nil]
      have w1 : Wp G O E σ T (match fm (as.map fun a => (a.fl, a.d)) with
        | .ok fl d back => match giveBack as back ρ1 with
          | some ρ' => .ok (.v fl d) ρ'
          | none => .bad
        | .exc c p => .exc c p ρ1
        | .bad => .bad) fun r ρ' => ∀ v H' F', RV σ r v → St G O ρ' σ (temp r v ++ T) H' F' → Q v H' := w1
      cases z : fm (as.map fun a => (a.fl, a.d)) with
      | bad => rw [z] at w1; exact w1
      | exc c p =>
        rw [z] at w1
        exact fun H' F' da ex g => w1 H' F' da ex ⟨st1.sl, g⟩
      | ok fl d back =>
        rw [z] at w1
        dsimp only at w1 ⊢
        intro v H' F' g
        cases y : giveBack as back ρ1 with
        | none => rw [y] at w1; exact w1.elim
        | some ρ' =>
          rw [y] at w1
          refine w1 v H' F' trivial ?_
          refine giveBack_ok (L := temp (.v fl d) v ++ T) ok y st1.sl ?_
          refine g.perm ?_
          show ((v, fl, d) :: (backC vs _ back ++ (live σ ρ1 ++ T))).Perm (backC vs _ back ++ (live σ ρ1 ++ ((v, fl, d) :: T)))
          rw [← List.append_assoc, ← List.append_assoc]
          exact List.perm_middle.symm
/-- f(..), from a reading of the call -/
theorem SE.call_of {ps : List Str} {fm : FM} {x : Str} {p pos : Pos} {e : Expr} {es : List Expr} {ms : M (List Ag)} (hpe : PE X (.Call (.Name x p) (e :: es) [] pos) (tCall (spD G ps.length fm) [] E (tG G O E ms)))
    (hn : ps.length = (e :: es).length) (hlen : ∀ ρ as ρ', ms ρ = .ok as ρ' → as.length = (e :: es).length) : SE G O E X (.Call (.Name x p) (e :: es) [] pos) (mCall fm ms) :=
  PE.imp hpe fun σ H Q h => call_read hn hlen h
/-- f(..) -/
theorem SE.call {f : Addr} {fd : FuncData} {ps : List Str} {fm : FM} {x : Str} {p pos : Pos} {e : Expr} {es : List Expr} {ms : M (List Ag)} (F : FnOk X.prog X.w X.K X.mg X.base (L2.CX X.prog X.w) k f fd ps (spD G ps.length fm)) (hr : Room k X.A) (hg : Gl X x) (hm : X.mg x = some (.ref f))
    (hk : PySem.W.keepIn X.K (.ref f) = true) (hb : Binds X.K fd ps []) (hx : Passes (L2.CX X.prog X.w) X E) (hn : ps.length = (e :: es).length) (ha : SG G O E X (e :: es) ms) (hlen : ∀ ρ as ρ', ms ρ = .ok as ρ' → as.length = (e :: es).length)
    (hdb : (x == ("__debug__" : Str)) = false := by decide) (he : starEach (e :: es) X.env = (false, eval e X.env) :: starEach es X.env := by rfl) (hpl : (backTo pos (starEach es X.env)).any (·.1) = false := by rfl) : SE G O E X (.Call (.Name x p) (e :: es) [] pos) (mCall fm ms) :=
  SE.call_of (pe_call (dvs := []) F hr hg hm hk hb .nil hx ha hdb he hpl) hn hlen
theorem SE.call0_of {fm : FM} {x : Str} {p pos : Pos} (hpe : PE X (.Call (.Name x p) [] [] pos) (tCall (spD G 0 fm) [] E tNil)) (tn : ∀ σ H Q, tE G O E (mCall fm aNil) σ H Q → tCall (spD G 0 fm) [] E tNil σ H Q) : SE G O E X (.Call (.Name x p) [] [] pos) (mCall fm aNil) :=
  PE.imp hpe tn
theorem call0_read {fm : FM} {σ : L2.St} {H : Hp} {Q : VK} (h : tE G O E (mCall fm aNil) σ H Q) : tCall (spD G 0 fm) [] E tNil σ H Q := by
  obtain ⟨ρ, T, F0, st, w⟩ := h
  have w1 := w.bnd
  have w1 : Wp G O E σ T (match fm [] with
        | .ok fl d back => match giveBack [] back ρ with
          | some ρ' => .ok (.v fl d) ρ'
          | none => .bad
        | .exc c p => .exc c p ρ
        | .bad => .bad) fun r ρ' => ∀ v H' F', RV σ r v → St G O ρ' σ (temp r v ++ T) H' F' → Q v H' := w1
  refine ⟨[], live σ ρ ++ T, F0, rfl, rfl, fun a h => (nomatch h), st.gd, ?_⟩
  cases z : fm [] with
  | bad => rw [z] at w1; exact w1
  | exc c p =>
    rw [z] at w1
    exact fun H' F' da ex g => w1 H' F' da ex ⟨st.sl, g⟩
  | ok fl d back =>
    rw [z] at w1
    dsimp only at w1 ⊢
    intro v H' F' g
    cases back with
    | nil => exact w1 v H' F' trivial (St.push st.sl g)
    | cons b bs => exact w1.elim
theorem SE.call0 {f : Addr} {fd : FuncData} {fm : FM} {x : Str} {p pos : Pos} (F : FnOk X.prog X.w X.K X.mg X.base (L2.CX X.prog X.w) k f fd [] (spD G 0 fm)) (hr : Room k X.A) (hg : Gl X x) (hm : X.mg x = some (.ref f))
    (hk : PySem.W.keepIn X.K (.ref f) = true) (hb : Binds X.K fd [] []) (hx : Passes (L2.CX X.prog X.w) X E) (hdb : (x == ("__debug__" : Str)) = false := by decide) : SE G O E X (.Call (.Name x p) [] [] pos) (mCall fm aNil) := SE.call0_of (pe_call0 (dvs := []) F hr hg hm hk hb .nil hx hdb) fun _ _ _ => call0_read

/-! ### statements -/
theorem Ps.bnd {α : Type} {m : M α} {f : α → M Flow} {ρ : Env} {σ : L2.St} {T : List Cell} {Dn : Ends} (h : Ps G O E Dn T (bnd m f ρ)) : Wp G O E σ T (m ρ) fun a ρ1 => Ps G O E Dn T (f a ρ1) := by
  unfold PP.bnd at h
  cases q : m ρ with
  | ok a ρ1 => rw [q] at h; exact h
  | exc c p ρ1 => rw [q] at h; exact fun H F da x s => h σ H F da x s
  | bad => rw [q] at h; exact h
/-- an expression's reading within a statement -/
theorem tE_s {m : M R} {f : R → M Flow} {ρ : Env} {σ : L2.St} {T : List Cell} {H : Hp} {F : Fz} {Dn : Ends} {Q : VK} (s : St G O ρ σ T H F) (h : Ps G O E Dn T (bnd m f ρ))
    (q : ∀ r ρ1 v H1 F1, RV σ r v → St G O ρ1 σ (temp r v ++ T) H1 F1 → Ps G O E Dn T (f r ρ1) → Q v H1) : tE G O E m σ H Q :=
  ⟨ρ, T, F, s, h.bnd.imp fun r ρ1 w v H1 F1 rv s1 => q r ρ1 v H1 F1 rv s1 w⟩
theorem tT_s {m : M Bool} {f : Bool → M Flow} {ρ : Env} {σ : L2.St} {T : List Cell} {H : Hp} {F : Fz} {Dn : Ends} {Q : Bool → Hp → Prop} (s : St G O ρ σ T H F) (h : Ps G O E Dn T (bnd m f ρ))
    (q : ∀ b ρ1 H1 F1, St G O ρ1 σ T H1 F1 → Ps G O E Dn T (f b ρ1) → Q b H1) : tT G O E m σ H Q :=
  ⟨ρ, T, F, s, h.bnd.imp fun r ρ1 w H1 F1 s1 => q r ρ1 H1 F1 s1 w⟩
theorem St.setS {ρ : Env} {σ : L2.St} {T : List Cell} {H : Hp} {F : Fz} {i : Nat} {v : V} {fl : Fl} {d : D} (st : St G O ρ σ ((v, fl, d) :: T) H F) (hi : i < ρ.length) (hp : fl.par = false) : St G O (ρ.set i (some (fl, d))) (σ.set i (some v)) T H F := by
  refine ⟨st.sl.set (fun x e => by cases e; exact hp) hi v, ?_⟩
  have g := st.good
  have g2 : Good G H F ((v, fl, d) :: (live σ (ρ.set i none) ++ T)) := g.sub ((List.Sublist.append_right live_sub _).cons_cons _)
  exact g2.perm ((live_put (s := (fl, d)) (by have := st.sl.len; omega) hi).symm.append_right T)
theorem SS.set {i : Nat} {x : Str} {e : Expr} {m : M R} {pos pos' : Pos} (nd : X.N.Nodup) (he : SE G O E X e m) (hi : X.N[i]? = some x := by rfl) (hx : Loc X.env.scope x := by first | exact Or.inl rfl | exact Or.inr rfl)
    (hs : swapsWith e (some (.Name x pos')) pos.line X.env = pure false := by rfl) (hf : X.fn x = true ∨ X.env.scope.names.lookup x = some .local := by first | exact .inl rfl | exact .inr rfl) : SS G O E X (.Assign [.Name x pos'] e pos) (sSet i m) := by
  refine PS.imp (ps_set nd hi hx he hs hf) fun Dn σ H ⟨ρ, T, F, st, w⟩ => ?_
  refine tE_s st w fun r ρ1 v H1 F1 rv st1 w1 => ?_
  cases r with
  | s i => exact w1.elim
  | v fl d =>
    dsimp only at w1
    split at w1
    · rename_i hh
      exact w1 _ _ _ (St.setS (T := T) (by exact st1) hh.1 hh.2)
    · exact w1.elim
theorem SS.expr {e : Expr} {m : M R} {pos : Pos} (he : SE G O E X e m) (hs : swapsWith e none pos.line X.env = pure false := by rfl) : SS G O E X (.Expr e pos) (sExp m) := by
  refine PS.imp (ps_expr he hs) fun Dn σ H ⟨ρ, T, F, st, w⟩ => ?_
  exact tE_s st w fun r ρ1 v H1 F1 rv st1 w1 => w1 _ _ _ st1.drop
theorem SS.ret {e : Expr} {m : M R} {pos : Pos} (he : SE G O E X e m) : SS G O E X (.Return (some e) pos) (sRet m) := by
  refine PS.imp (ps_ret he) fun Dn σ H ⟨ρ, T, F, st, w⟩ => ?_
  refine tE_s st w fun r ρ1 v H1 F1 rv st1 w1 => ?_
  cases r with
  | s i => exact w1.elim
  | v fl d => exact w1 v σ H1 F1 st1
theorem SS.retN {pos : Pos} : SS G O E X (.Return none pos) sRetN :=
  PS.imp ps_retN fun Dn σ H ⟨ρ, T, F, st, w⟩ => w .non σ H F (St.push st.sl (st.gd.rep (x := (.non, .sh, .non)) rfl .non))
theorem SS.retV {i : Nat} {x : Str} {pos pos' : Pos} (hN : X.N[i]? = some x := by rfl) (hv : Vis X.env.scope x := by first | exact Or.inl rfl | exact Or.inr (Or.inl rfl) | exact Or.inr (Or.inr rfl)) (hd : (x == ("__debug__" : Str)) = false := by decide)
    (hcd : (x == ("__classdict__" : Str)) = false := by decide) : SS G O E X (.Return (some (.Name x pos')) pos) (sRetV i) := by
  refine PS.imp (ps_ret (pe_var hN hv hd hcd)) fun Dn σ H ⟨ρ, T, F, st, w⟩ => ?_
  unfold sRetV at w
  split at w
  · rename_i d e
    obtain ⟨v, h1, h2, g⟩ := st.front e
    exact ⟨v, h1, w v σ H F (St.push st.sl.none g)⟩
  · rename_i d e
    obtain ⟨v, h1, h2, g⟩ := st.front e
    obtain ⟨F', le, g', rp⟩ := g.freeze
    refine ⟨v, h1, w v σ H F' (St.push (st.sl.upd e fun _ => rfl) ?_)⟩
    have g2 := (g'.rep (x := (v, .sh, d)) rfl rp).perm (List.Perm.swap _ _ _)
    refine g2.perm ((List.Perm.swap _ _ _).trans (List.Perm.cons _ ?_))
    exact ((live_put' (s := (.ps, d)) h1 (lt_of_get e)).symm.append_right T)
  · rename_i fl d n1 n2 e
    obtain ⟨v, h1, h2, g⟩ := st.front e
    refine ⟨v, h1, w v σ H F (St.push st.sl ?_)⟩
    refine st.gd.rep (x := (v, .sh, d)) rfl (g.repH (x := (v, fl, d)) ?_)
    cases fl with
    | sh => rfl
    | ps => rfl
    | ow => exact (n1 rfl).elim
    | pa => exact (n2 rfl).elim
  · exact w.elim
theorem SS.ite {c : Expr} {a b : List Stmt} {mc : M Bool} {ma mb : M Flow} {pos : Pos} (hc : ST G O E X c mc) (ha : SSs G O E X a ma) (hb : SSs G O E X b mb) : SS G O E X (.If c a b pos) (sIf mc ma mb) := by
  refine PS.imp (ps_if hc ha hb) fun Dn σ H ⟨ρ, T, F, st, w⟩ => ?_
  refine tT_s st w fun b ρ1 H1 F1 st1 w1 => ?_
  cases b with
  | true => rw [if_pos rfl] at w1 ⊢; exact ⟨ρ1, T, F1, st1, w1⟩
  | false => rw [if_neg Bool.false_ne_true] at w1 ⊢; exact ⟨ρ1, T, F1, st1, w1⟩
theorem SSs.nil : SSs G O E X [] sNil := PSs.imp pss_nil fun Dn σ H ⟨ρ, T, F, st, w⟩ => w σ H F st
theorem SS.pass {pos : Pos} : SS G O E X (.Pass pos) sNil := PS.imp ps_pass fun Dn σ H ⟨ρ, T, F, st, w⟩ => w σ H F st
theorem SS.brk {pos : Pos} : SS G O E X (.Break pos) sBrk := PS.imp ps_break fun Dn σ H ⟨ρ, T, F, st, w⟩ => w σ H F st
theorem SS.cont {pos : Pos} : SS G O E X (.Continue pos) sCont := PS.imp ps_continue fun Dn σ H ⟨ρ, T, F, st, w⟩ => w σ H F st
theorem SSs.one {s : Stmt} {m : M Flow} (h : SS G O E X s m) : SSs G O E X [s] m := pss_one h
theorem SSs.cons {s : Stmt} {r : List Stmt} {m n : M Flow} (h : SS G O E X s m) (h' : SSs G O E X r n) : SSs G O E X (s :: r) (sSeq m n) := by
  refine PSs.imp (pss_cons h h') fun Dn σ H ⟨ρ, T, F, st, w⟩ => ?_
  refine ⟨ρ, T, F, st, ?_⟩
  unfold sSeq bnd at w
  cases q : m ρ with
  | bad => rw [q] at w; exact w
  | exc c p ρ' => rw [q] at w; exact w
  | ok f ρ' =>
    rw [q] at w
    cases f with
    | nx => exact fun σ' H' F' st' => ⟨ρ', T, F', st', w⟩
    | bk => exact w
    | ct => exact w
    | rt fl d => exact w
/-- raise X() -/
theorem pmk_own0 {x : Str} {C : Addr} {bmB : List Value} {B newId initId : String} {p pos : Pos} (F : ExcBaseFacts B newId initId bmB) (q : PySem.W.excIn X.K C bmB newId = true) (gC : X.mg x = some (.ref C)) (kC : PySem.W.keepIn X.K (.ref C) = true) (r : Raises X (.ref C)) (hg : Gl X x)
    (hdb : (x == ("__debug__" : Str)) = false := by decide) : PMk X (.Call (.Name x p) [] [] pos) (fun _ H Q => Q (.ref C) none H) := by
  intro pins s σ H Q I h
  refine wpAny_Call_Name_kw (ld_glob I hg gC ?_ hdb)
  refine PySem.W.callWith_K0 I.kIn kC ?_
  obtain ⟨bm, N, nm, qn, bs, hdct, sn, sub, ab, col, dd, k0, k1, k2, k3, k5, mN, hC, hN, hni, T⟩ := exc_obj I.kIn q
  refine wpAny_call_exc_subT F T hC hN hni (fun h' e hm => ?_) (Nat.zero_le _)
  exact mk_of I hm r h (I.hok.gone hm.new)
theorem SS.raise0 {x : Str} {c : Nat} {bmB : List Value} {B newId initId : String} {p p2 pos : Pos} (hc : X.calm = true) (tk : Takes X (fun cls d _ H => E cls d H)) (F : ExcBaseFacts B newId initId bmB) (q : PySem.W.excIn X.K (G.ca c) bmB newId = true)
    (gC : X.mg x = some (.ref (G.ca c))) (kC : PySem.W.keepIn X.K (.ref (G.ca c)) = true) (r : Raises X (.ref (G.ca c))) (hg : Gl X x) (hdb : (x == ("__debug__" : Str)) = false := by decide) : SS G O E X (.Raise (some (.Call (.Name x p) [] [] p2)) none pos) (sRaise c mNil) :=
  PS.imp (ps_raise hc tk (pmk_own0 F q gC kC r hg hdb)) fun Dn σ H ⟨ρ, T, F, st, w⟩ => w σ H F none ⟨rfl, rfl⟩ st
/-! ### loops -/
theorem SS.while {c : Expr} {body : List Stmt} {mc : M Bool} {mb : M Flow} {pos : Pos} (n : Nat) (hp : PassesOwn (model X.prog X.w) X.A X.env X.xe) (hc : ST G O E X c mc) (hb : SSs G O E X body mb) : SS G O E X (.While c body [] pos) (sWhile n mc mb) := by
  refine PS.imp (ps_while hp hc hb) fun Dn σ H ⟨ρ, T, F, st, w⟩ => ?_
  refine ⟨fun m σ H => ∃ ρ F, St G O ρ σ T H F ∧ Ps G O E Dn T (sWhile m mc mb ρ), ⟨n, ρ, F, st, w⟩, fun m σ H ⟨ρ, F, st, w⟩ => ?_⟩
  cases m with
  | zero => exact w.elim
  | succ m =>
    refine tT_s st w fun b ρ1 H1 F1 st1 w1 => ?_
    cases b with
    | false => rw [if_neg Bool.false_ne_true] at w1 ⊢; exact w1 σ H1 F1 st1
    | true =>
      rw [if_pos rfl] at w1 ⊢
      refine ⟨fun σ' H' => ∃ ρ F, St G O ρ σ' T H' F ∧ Ps G O E Dn T (sWhile m mc mb ρ), fun σ' H' h => ⟨m, Nat.lt_succ_self m, h⟩, ρ1, T, F1, st1, ?_⟩
      unfold bnd at w1
      cases q : mb ρ1 with
      | bad => rw [q] at w1; exact w1
      | exc c p ρ' => rw [q] at w1; exact w1
      | ok f ρ' =>
        rw [q] at w1
        cases f with
        | nx => exact fun σ' H' F' s' => ⟨ρ', F', s', w1⟩
        | ct => exact fun σ' H' F' s' => ⟨ρ', F', s', w1⟩
        | bk => exact w1
        | rt fl d => exact w1
theorem SS.for {tg iter : Expr} {body : List Stmt} {mi : M (List D)} {g : Tg} {mb : M Flow} {pos : Pos} (hp : PassesOwn (model X.prog X.w) X.A X.env X.xe) (hc : X.calm = true) (hi : SI G O E X tg iter mi) {ws : List Nat} (hg : SP' G O X tg ws g) (hb : SSs G O E X body mb)
    (hs : ∀ x, foldedSetIterable iter X.env x = pure x := by intro _; rfl) : SS G O E X (.For tg iter body [] pos) (sFor mi g mb) := by
  refine PS.imp (ps_for hp hc hi hg hb hs) fun Dn σ H ⟨ρ, T, F, st, w⟩ => ?_
  refine ⟨ρ, T, F, st, w.bnd.imp fun ds ρ1 w1 J C H1 F1 hJ st1 => ?_⟩
  refine ⟨fun i m σ H => m = ds.length - i ∧ i ≤ ds.length ∧ ∃ ρ F, St G O ρ σ (C ++ T) H F ∧ Ps G O E Dn T (loopF g mb (ds.drop i) ρ), ⟨ds.length, rfl, Nat.zero_le _, ρ1, F1, st1, by simpa using w1⟩, ?_⟩
  rintro i m σ H ⟨rfl, hi, ρ, F, st, w⟩
  obtain ⟨j1, j2, j3⟩ := hJ i H F (live σ ρ ++ T) (Good.swap st.gd)
  by_cases hlt : i < ds.length
  · refine .inr ⟨j1 hlt, fun σ' H' => ∃ ρ F, St G O ρ σ' (C ++ T) H' F ∧ Ps G O E Dn T (loopF g mb (ds.drop (i + 1)) ρ), fun σ' H' h => ⟨ds.length - (i + 1), by omega, rfl, hlt, h⟩, fun x H' hy => ?_⟩
    obtain ⟨F', g'⟩ := j3 x H' ds[i] (List.getElem?_eq_getElem hlt) hy
    have st' : St G O ρ σ ((x, .sh, ds[i]) :: (C ++ T)) H' F' := St.push st.sl (g'.perm (List.Perm.cons _ (by rw [← List.append_assoc, ← List.append_assoc]; exact List.Perm.append_right _ List.perm_append_comm)))
    rw [List.drop_eq_getElem_cons hlt] at w
    refine ⟨ds[i], ρ, C ++ T, F', st', ?_⟩
    simp only [loopF] at w
    cases q : g ds[i] ρ with
    | bad => rw [q] at w; exact w
    | exc c p ρ' => rw [q] at w; exact w
    | ok u ρ2 =>
      rw [q] at w
      intro σ2 H2 F2 _ st2
      refine ⟨ρ2, C ++ T, F2, st2, ?_⟩
      simp only [bnd] at w
      cases q2 : mb ρ2 with
      | bad => rw [q2] at w; exact w
      | exc c p ρ' => rw [q2] at w; exact fun σ' H' F' da ex s' => w σ' H' F' da ex s'.drop
      | ok f ρ' =>
        rw [q2] at w
        cases f with
        | nx => exact fun σ' H' F' s' => ⟨ρ', F', s', w⟩
        | ct => exact fun σ' H' F' s' => ⟨ρ', F', s', w⟩
        | bk => exact fun σ' H' F' s' => w σ' H' F' s'.drop
        | rt fl d => exact fun v σ' H' F' s' => w v σ' H' F' ⟨s'.sl, s'.gd.sub (List.Sublist.append_left ((List.sublist_append_right _ _).cons_cons _) _)⟩
  · have e : i = ds.length := by omega
    subst e
    refine .inl ⟨j2 (Nat.le_refl _), ?_⟩
    rw [List.drop_length] at w
    exact w σ H F st.drop
/-! ### targets -/
theorem SP'.name {i : Nat} {x : Str} {pos : Pos} (nd : X.N.Nodup) (hi : X.N[i]? = some x := by rfl) (hx : Loc X.env.scope x := by first | exact Or.inl rfl | exact Or.inr rfl) (hf : X.fn x = true ∨ X.env.scope.names.lookup x = some .local := by first | exact .inl rfl | exact .inr rfl) : SP' G O X (.Name x pos) [i] (gV i) := by
  refine ⟨fun pins s σ H v u Q I r ⟨d, ρ, T, F, st, w⟩ => (pg_name nd hi hx hf).run pins s σ H v u Q I r ?_⟩
  unfold gV at w
  by_cases hlt : i < ρ.length
  · rw [if_pos hlt] at w
    exact w _ _ _ ⟨by simp, fun j hj => List.getElem?_set_ne (by simpa using fun e => hj (by simp [e]))⟩ (St.setS st hlt rfl)
  · rw [if_neg hlt] at w
    exact w.elim
theorem Keep.rfl' {ws : List Nat} {σ : L2.St} : Keep ws σ σ := ⟨rfl, fun _ _ => rfl⟩
theorem SPs.nil : SPs G O X [] [] [] := by
  refine ⟨fun pins s σ H vs us Q I r ⟨ds, ρ, T, F, hl, st, w⟩ => pgs_nil.run pins s σ H vs us Q I r ?_⟩
  cases ds with
  | nil =>
    cases vs with
    | nil => exact ⟨rfl, w σ H F Keep.rfl' st⟩
    | cons _ _ => cases hl
  | cons _ _ => exact w.elim
theorem SPs.cons {e : Expr} {es : List Expr} {g : Tg} {gs : List Tg} {ws us : List Nat} (h1 : SP' G O X e ws g) (h2 : SPs G O X es us gs) (hs : (assignEach (e :: es) X.env).map (·.2) = assign e X.env :: (assignEach es X.env).map (·.2) := by rfl) : SPs G O X (e :: es) (ws ++ us) (g :: gs) := by
  refine ⟨fun pins s σ H vs us Q I r ⟨ds, ρ, T, F, hl, st, w⟩ => (pgs_cons h1 h2 hs).run pins s σ H vs us Q I r ?_⟩
  cases ds with
  | nil => exact w.elim
  | cons d ds =>
    cases vs with
    | nil => cases hl
    | cons v vs =>
      refine ⟨v, vs, rfl, d, ρ, shs vs ds ++ T, F, st, ?_⟩
      simp only [gTs, bnd] at w
      cases q : g d ρ with
      | bad => rw [q] at w; exact w
      | exc c p ρ' => rw [q] at w; exact w
      | ok u ρ1 =>
        rw [q] at w
        intro σ' H' F' kp s'
        refine ⟨ds, ρ1, T, F', by simpa using hl, s', ?_⟩
        dsimp only at w
        cases q2 : gTs gs ds ρ1 with
        | bad => rw [q2] at w; exact w
        | exc c p ρ' => rw [q2] at w; exact w
        | ok u ρ2 =>
          rw [q2] at w
          exact fun σ2 H2 F2 kp2 s2 => w σ2 H2 F2 ⟨kp2.1.trans kp.1, fun i hi => (kp2.2 i fun z => hi (List.mem_append_right _ z)).trans (kp.2 i fun z => hi (List.mem_append_left _ z))⟩ s2
theorem reps_shs : ∀ {vs : List V} {ds : List D} {H : Hp} {F : Fz} {L : List Cell}, Reps G F vs ds → Good G H F L → Good G H F (shs vs ds ++ L)
  | [], [], _, _, _, _, g => g
  | v :: vs, d :: ds, H, F, L, .cons r t, g => (reps_shs t g).rep (x := (v, .sh, d)) rfl r
theorem SP'.tup {es : List Expr} {k : Nat} {gs : List Tg} {pos : Pos} {n : Nat} (hK : X.K = G.K) (hc : X.calm = true) {ws : List Nat} (h : SPs G O X es ws gs) (hgl : gs.length = n) (hn : (assignEach es X.env).length = n := by rfl) (hst : (assignEach es X.env).findIdx? (·.1) = none := by rfl) : SP' G O X (.Tuple es k pos) ws (gT gs) := by
  refine ⟨fun pins s σ H v u Q I r ⟨d, ρ, T, F, st, w⟩ => (pg_tup hc h hn hst).run pins s σ H v u Q I r ?_⟩
  unfold gT at w
  cases d with
  | tup ds =>
    have vw := (St.good st).view (List.mem_cons_self)
    obtain ⟨a, vs, e, hs, rp⟩ := View.tup vw
    have hlen : ∀ (gs : List Tg) (ds : List D) (ρ : Env), (match gTs gs ds ρ with | .ok _ ρ' => ∀ σ' H' F', Keep ws σ σ' → St G O ρ' σ' T H' F' → Q σ' H' | _ => False) → gs.length = ds.length := by
      intro gs
      induction gs with
      | nil => intro ds ρ h; cases ds with
        | nil => rfl
        | cons _ _ => exact h.elim
      | cons g gs ih =>
        intro ds ρ h
        cases ds with
        | nil => exact h.elim
        | cons d ds =>
          simp only [gTs, bnd] at h
          cases q : g d ρ with
          | bad => rw [q] at h; exact h.elim
          | exc c p ρ' => rw [q] at h; exact h.elim
          | ok u ρ1 =>
            rw [q] at h
            simp [ih ds ρ1 h]
    have hl := hlen gs ds ρ w
    refine ⟨a, vs, e, by rw [hK]; exact hs, by rw [rp.length, ← hl, hgl], ds, ρ, T, F, rp.length, ⟨st.sl, ?_⟩, w⟩
    have g := st.good.tail
    exact Good.swap (A := shs vs ds) (reps_shs rp g)
  | non => exact w.elim
  | bl _ => exact w.elim
  | int _ => exact w.elim
  | str _ => exact w.elim
  | lst _ => exact w.elim
  | dK _ => exact w.elim
  | dT _ => exact w.elim
  | fn _ => exact w.elim
  | exo => exact w.elim
  | scr _ => exact w.elim
theorem SS.asg {tg e : Expr} {g : Tg} {m : M R} {pos : Pos} {ws : List Nat} (he : SE G O E X e m) (hg : SP' G O X tg ws g) (hs : swapsWithSole [tg] e pos.line X.env = pure false := by rfl) (hw : swappedStores [tg] e X.env = pure none := by rfl)
    (h1 : (assignEach [tg] X.env).map (·.2) = [assign tg X.env] := by rfl) : SS G O E X (.Assign [tg] e pos) (sAsg m g) := by
  refine PS.imp (ps_asg he hg hs hw h1) fun Dn σ H ⟨ρ, T, F, st, w⟩ => ?_
  refine tE_s st w fun r ρ1 v H1 F1 rv st1 w1 => ?_
  cases r with
  | s i => exact w1.elim
  | v fl d =>
    obtain ⟨F2, st2⟩ := freeze_top (T := T) (by exact st1)
    refine ⟨d, ρ1, T, F2, st2, ?_⟩
    dsimp only at w1
    cases q : g d ρ1 with
    | bad => rw [q] at w1; exact w1
    | exc c p ρ' => rw [q] at w1; exact w1
    | ok u ρ2 => rw [q] at w1; exact fun σ' H' F' _ s' => w1 σ' H' F' s'
end
end PP

set_option Elab.async false
set_option linter.all false
set_option maxRecDepth 100000
/-! Pure python, 6: defs; what is walked. -/
namespace PP
open PySem PySem.Spec PyProof.Rows L2

/-! ### a def's body gives its promise -/
theorem entry_live : ∀ {vs : List V} {as : List (Fl × D)} {n : Nat}, vs.length = as.length → as.length ≤ n →
    live (vs.map some ++ List.replicate (n - vs.length) none) (entry n as) = argC vs (as.map fun a => (if a.1 = .ow then Fl.pa else .sh, a.2)) := by
  intro vs as n h1 h2
  have tail : ∀ (m : Nat) (σ : List (Option V)), live σ (List.replicate m none) = [] := by
    intro m
    induction m with
    | zero => intro σ; cases σ with
      | nil => rfl
      | cons a σ => cases a <;> rfl
    | succ m ih => intro σ; cases σ with
      | nil => rfl
      | cons a σ => cases a <;> exact ih σ
  have gen : ∀ (vs : List V) (as : List (Fl × D)) (m : Nat), vs.length = as.length →
      live (vs.map some ++ List.replicate m none) ((as.map fun a => some (if a.1 = .ow then Fl.pa else .sh, a.2)) ++ List.replicate m none) = argC vs (as.map fun a => (if a.1 = .ow then Fl.pa else .sh, a.2)) := by
    intro vs
    induction vs with
    | nil =>
      intro as m h
      cases as with
      | nil => exact tail m _
      | cons _ _ => cases h
    | cons v vs ih =>
      intro as m h
      cases as with
      | nil => cases h
      | cons a as =>
        exact congrArg (List.cons _) (ih as m (by simpa using h))
  unfold entry
  rw [show n - vs.length = n - as.length by omega]
  exact gen vs as _ h1
theorem entry_good {G : Gx} {H : Hp} {F : Fz} {L : List Cell} : ∀ {vs : List V} {as : List (Fl × D)}, (∀ a ∈ as, a.1 = .ow ∨ a.1 = .sh) → Good G H F (argC vs as ++ L) → Good G H F (argC vs (as.map fun a => (if a.1 = .ow then Fl.pa else .sh, a.2)) ++ L)
  | [], _, _, g => g
  | _ :: _, [], _, g => g
  | v :: vs, a :: as, hf, g => by
    have g1 : Good G H F ((v, a.1, a.2) :: (argC vs as ++ L)) := g
    have e : (if a.1 = .ow then Fl.pa else Fl.sh).own = a.1.own := by
      rcases hf a List.mem_cons_self with z | z <;> rw [z] <;> rfl
    have g2 := (g1.flag e).perm (List.perm_middle (l₁ := argC vs as)).symm
    have g3 := entry_good (L := (v, (if a.1 = .ow then Fl.pa else Fl.sh), a.2) :: L) (vs := vs) (as := as) (fun b hb => hf b (List.mem_cons_of_mem _ hb)) g2
    exact g3.perm List.perm_middle
theorem entry_slots {vs : List V} {as : List (Fl × D)} {n : Nat} (h1 : vs.length = as.length) (h2 : as.length ≤ n) : Slots vs (vs.map some ++ List.replicate (n - vs.length) none) (entry n as) := by
  refine ⟨by simp [entry]; omega, fun i s e => ?_⟩
  unfold entry at e
  by_cases hi : i < as.length
  · have hv : i < vs.length := by omega
    refine ⟨vs[i], ?_, fun _ => List.getElem?_eq_getElem hv⟩
    rw [List.getElem?_append_left (by simpa using hv), List.getElem?_map, List.getElem?_eq_getElem hv]
    rfl
  · rw [List.getElem?_append_right (by simpa using hi), List.getElem?_replicate] at e
    split at e <;> cases e
theorem backs_good {G : Gx} {H : Hp} {F : Fz} : ∀ {vs : List V} {as b : List (Fl × D)} {σ : L2.St} {ρ : Env} {L : List Cell}, vs.length = as.length → (∀ a ∈ as, a.1 = .ow ∨ a.1 = .sh) → backs as ρ = some b → σ.length = ρ.length →
    (∀ (i : Nat) (s : Fl × D), ρ[i]? = some (some s) → ∃ v, σ[i]? = some (some v) ∧ (s.1.par = true → vs[i]? = some v)) → Good G H F (live σ ρ ++ L) → Good G H F (backC vs as b ++ L)
  | [], [], b, σ, ρ, L, _, _, e, hl, hs, g => by
    show Good G H F L
    exact g.right
  | v :: vs, (fl, d) :: as, b, σ, [], L, _, _, e, _, _, _ => by
    cases fl <;> simp [backs] at e
  | v :: vs, (fl, d) :: as, b, [], s :: ρ, L, _, _, e, hl, _, _ => by cases hl
  | v :: vs, (fl, d) :: as, b, x :: σ, s :: ρ, L, h, hf, e, hl, hs, g => by
    have h' : vs.length = as.length := by simpa using h
    have hf' : ∀ a ∈ as, a.1 = .ow ∨ a.1 = .sh := fun a ha => hf a (List.mem_cons_of_mem _ ha)
    have hl' : σ.length = ρ.length := by simpa using hl
    have hs' : ∀ (i : Nat) (s : Fl × D), ρ[i]? = some (some s) → ∃ v, σ[i]? = some (some v) ∧ (s.1.par = true → vs[i]? = some v) := fun i s q => hs (i + 1) s (by simpa using q)
    have tailG : Good G H F (live σ ρ ++ L) := by
      cases x with
      | none => cases s <;> exact g
      | some x =>
        cases s with
        | none => exact g
        | some s => exact g.tail
    have own : ∀ (t : Fl × D) (fl' : Fl), s = some t → t.1.par = true → fl'.own = t.1.own → Good G H F ((v, fl', t.2) :: (live σ ρ ++ L)) := fun t fl' es ep eo => by
      subst es
      obtain ⟨v', e1, e2⟩ := hs 0 t rfl
      have e2 : v = v' := by simpa using e2 ep
      have e1 : x = some v' := by simpa using e1
      subst e2 e1
      have g1 : Good G H F ((v, t.1, t.2) :: (live σ ρ ++ L)) := g
      exact g1.flag eo
    rcases hf (fl, d) List.mem_cons_self with z | z
    · have z : fl = .ow := z
      subst z
      cases s with
      | none => simp [backs] at e
      | some t =>
        obtain ⟨f', d'⟩ := t
        cases q : backs as ρ with
        | none => cases f' <;> simp [backs, q] at e
        | some b' =>
          cases f' with
          | sh => simp [backs] at e
          | ow => simp [backs] at e
          | pa =>
            have e : (Fl.ow, d') :: b' = b := by simpa [backs, q] using e
            subst e
            have g1 := (own (.pa, d') .ow rfl rfl rfl).perm (List.perm_middle (l₁ := live σ ρ)).symm
            exact (backs_good (L := (v, Fl.ow, d') :: L) h' hf' q hl' hs' g1).perm List.perm_middle
          | ps =>
            have e : (Fl.sh, d') :: b' = b := by simpa [backs, q] using e
            subst e
            have g1 := (own (.ps, d') .sh rfl rfl rfl).perm (List.perm_middle (l₁ := live σ ρ)).symm
            exact (backs_good (L := (v, Fl.sh, d') :: L) h' hf' q hl' hs' g1).perm List.perm_middle
    · have z : fl = .sh := z
      subst z
      exact backs_good (vs := vs) (as := as) (L := L) h' hf' (by simpa [backs] using e) hl' hs' tailG
  | [], _ :: _, _, _, _, _, h, _, _, _, _, _ => by cases h
  | _ :: _, [], _, _, _, _, h, _, _, _, _, _ => by cases h

/-- THE RULE for a def -/
theorem okDef {P : Program} {w : World} {mg : Str → Option Value} {base : Heap} {G : Gx} {x qual : Str} {st : Stmt} {f : Addr} {fd : FuncData} {N ps : List Str} {k : Nat} {body : M Flow} (F : Fun G.K x qual st f fd) (S : FnScope N ps (defScope st))
    (h : ∀ (cdv : Value) (A : Around) (outer : List PySem.Env) (s : Shared) (H : Hp) (E : XK) (O : List V), CxOk false G E k (cxOf (L2.CX P w) P w G.K mg base N qual (defScope st) f cdv A outer s H E) → SSs G O E (cxOf (L2.CX P w) P w G.K mg base N qual (defScope st) f cdv A outer s H E) (defBody st) body) :
    FnOk P w G.K mg base (L2.CX P w) (k + 1) f fd ps (spD G ps.length (runF ps.length N.length body)) := by
  have hpl : ps.length ≤ N.length := by have := congrArg List.length S.pre; rw [List.length_take] at this; omega
  refine F.okX S (fun vs H Q E ⟨as, L, F, h1, _⟩ => h1) (fun cdv A outer s H vs Q E hr hsp => ?_)
  obtain ⟨as, L, F0, h1, h2, h3, g, q⟩ := hsp
  refine ⟨_, h cdv A outer s H E vs ⟨rfl, S.nd, hr, takes_of rfl rfl rfl rfl, rfl, passes_of rfl, fun z => by cases z⟩, ?_⟩
  refine ⟨entry N.length as, L, F0, ⟨entry_slots (by omega) (by omega), ?_⟩, ?_⟩
  · rw [show start N vs = vs.map some ++ List.replicate (N.length - vs.length) none from rfl, entry_live (by omega) (by omega)]
    exact entry_good h3 g
  · unfold runF at q
    rw [if_pos h2] at q
    cases e : body (entry N.length as) with
    | bad => rw [e] at q; exact q
    | exc c p ρ' =>
      rw [e] at q
      exact fun σ' H' F' da ex s' => q H' F' da ex s'.gd.right
    | ok fl ρ' =>
      rw [e] at q
      dsimp only at q
      cases eb : backs as ρ' with
      | none => rw [eb] at q; exact q.elim
      | some b =>
        rw [eb] at q
        have back : ∀ {σ' : L2.St} {H' : Hp} {F' : Fz} {M : List Cell}, St G vs ρ' σ' M H' F' → Good G H' F' (backC vs as b ++ M) := fun s' => backs_good (by omega) h3 eb s'.sl.len s'.sl.has s'.gd
        cases fl with
        | nx =>
          intro σ' H' F' s'
          exact q .non H' F' ((back s').rep (x := (.non, .sh, .non)) rfl .non)
        | rt fl d =>
          intro v σ' H' F' s'
          exact q v H' F' ((back s').perm List.perm_middle)
        | bk => exact q.elim
        | ct => exact q.elim
theorem CxOk.passes {G : Gx} {E : XK} {k : Nat} {X : Cx} (c : CxOk gu G E k X) : Passes (L2.CX X.prog X.w) X E := passes_call c.tk fun _ _ _ _ h => h
theorem FnOk.le {P : Program} {w : World} {K : PySem.W.Frag} {mg : Str → Option Value} {base : Heap} {CX : CXT} {k : Nat} {f : Addr} {fd : FuncData} {ps : List Str} {G : Gx} {n : Nat} {fm fm' : FM} (F : FnOk P w K mg base CX k f fd ps (spD G n fm)) (h : ∀ as, as.length = n → fm' as = .bad ∨ fm' as = fm as) :
    FnOk P w K mg base CX k f fd ps (spD G n fm') := F.imp fun vs H Q E ⟨as, L, F, h1, h2, h3, g, q⟩ => ⟨as, L, F, h1, h2, h3, g, by
      rcases h as h2 with e | e
      · rw [e] at q; exact q.elim
      · rw [e] at q; exact q⟩

/-! ### what is walked -/
section
variable {G : Gx} {O : List V} {E : XK} {k : Nat} {X : Cx} {tg : Expr}
def iSeqT (K : PySem.W.Frag) (tl : TE) : TI := fun σ H R => tl σ H fun x H1 => (∃ a, x = .ref a ∧ (∃ xs, SqL K H1 a xs) ∧ R (Itl K a) H1) ∨ (∃ a, x = .ref a ∧ (∃ xs, SqT K H1 a xs) ∧ R (Itt K a) H1) ∨ ∃ z, x = .str z ∧ R (Its z) H1
theorem pi_seq {l : Expr} {tl : TE} (hl : PE X l tl) : PI X tg l (iSeqT X.K tl) := by
  refine ⟨fun pins s σ H R I h => ?_⟩
  refine thn (hl.run pins s σ H _ I h) fun v s1 ⟨x, H1, I1, r1, q1⟩ => ?_
  rcases q1 with ⟨a, e, ⟨xs, hq⟩, q⟩ | ⟨a, e, ⟨xs, hq⟩, q⟩ | ⟨z, e, q⟩
  · subst e
    cases (show v = Value.ref a from r1)
    obtain ⟨its, rv, p, hz⟩ := I1.list hq
    refine wpAny_pyIter_list p.isList ?_
    exact pi_one (tk := s1.toks) I1 _ (turn_list a _) ⟨_, Heap.get?_push_size _ rfl, rfl, rfl⟩ q
  · subst e
    cases (show v = Value.ref a from r1)
    obtain ⟨its, rv, p, hz⟩ := I1.tuple hq
    refine wpAny_pyIter_tuple (show s1.heap.IsTuple a its.toArray from p) ?_
    exact pi_one (tk := s1.toks) I1 _ (turn_tuple a _) ⟨_, Heap.get?_push_size _ rfl, rfl, rfl⟩ q
  · subst e
    obtain ⟨t, rfl⟩ := (show ∃ t, v = Value.str z t from r1)
    cases ha : z.cps.all (· < 128)
    · exact wpAny_pyIter_wide ha (pi_one (tk := s1.toks) I1 _ (turn_str _ z t "str_iterator" (.inr rfl)) ⟨_, Heap.get?_push_size _ rfl, rfl, rfl⟩ q)
    · exact wpAny_pyIter_ascii ha (pi_one (tk := s1.toks) I1 _ (turn_str _ z t "str_ascii_iterator" (.inl rfl)) ⟨_, Heap.get?_push_size _ rfl, rfl, rfl⟩ q)
theorem Reps.get {F : Fz} : ∀ {vs : List V} {ds : List D} {i : Nat} {d : D}, Reps G F vs ds → ds[i]? = some d → ∃ v, vs[i]? = some v ∧ Rep G F v d
  | _, _, _, _, .nil, h => by simp at h
  | _, _, 0, _, .cons r t, h => by simp at h; subst h; exact ⟨_, rfl, r⟩
  | _, _, i + 1, _, .cons r t, h => by
    obtain ⟨v, h1, h2⟩ := Reps.get (i := i) t (by simpa using h)
    exact ⟨v, by simpa using h1, h2⟩
theorem jok_list {a : Addr} {ds : List D} : JOk G (Itl G.K a) ds [(.ref a, .sh, .lst ds)] := by
  intro i H F L g
  obtain ⟨a', vs, e, hs, rp⟩ := g.view (x := (.ref a, .sh, .lst ds)) List.mem_cons_self
  cases e
  have hs : SqL G.K H a vs := SqL.of hs
  have hl := rp.length
  refine ⟨fun h => ?_, fun h => ⟨vs, hs, by omega⟩, fun x H' d hd ⟨e, y⟩ => ?_⟩
  · obtain ⟨v, h1, _⟩ := rp.get (List.getElem?_eq_getElem h)
    exact ⟨vs, v, hs, h1⟩
  · subst e
    obtain ⟨v, h1, h2⟩ := rp.get hd
    have e2 := y vs hs
    rw [h1] at e2
    have ev : v = x := Option.some.inj e2
    rw [ev] at h2
    exact ⟨F, g.rep (x := (x, .sh, d)) rfl h2⟩
theorem jok_tup {a : Addr} {ds : List D} : JOk G (Itt G.K a) ds [(.ref a, .sh, .tup ds)] := by
  intro i H F L g
  obtain ⟨a', vs, e, hs, rp⟩ := View.tup (g.view (x := (.ref a, .sh, .tup ds)) List.mem_cons_self)
  cases e
  have hl := rp.length
  refine ⟨fun h => ?_, fun h => ⟨vs, hs, by omega⟩, fun x H' d hd ⟨e, y⟩ => ?_⟩
  · obtain ⟨v, h1, _⟩ := rp.get (List.getElem?_eq_getElem h)
    exact ⟨vs, v, hs, h1⟩
  · subst e
    obtain ⟨v, h1, h2⟩ := rp.get hd
    have e2 := y vs hs
    rw [h1] at e2
    have ev : v = x := Option.some.inj e2
    rw [ev] at h2
    exact ⟨F, g.rep (x := (x, .sh, d)) rfl h2⟩
theorem jok_str {z : Str} {C : List Cell} : JOk G (Its z) (signs z) C := by
  intro i H F L g
  have hl : (signs z).length = z.cps.size := by simp [signs]
  refine ⟨fun h => ?_, fun h => ?_, fun x H' d hd y => ?_⟩
  · rw [hl] at h
    exact h
  · rw [hl] at h
    exact h
  · obtain ⟨e, c, hc, ex⟩ := y
    subst e ex
    unfold signs at hd
    rw [List.getElem?_map] at hd
    have : z.cps.toList[i]? = some c := by simpa using hc
    rw [this] at hd
    cases hd
    exact ⟨F, g.rep (x := (.str ⟨#[c]⟩, .sh, .str ⟨#[c]⟩)) rfl (.str _)⟩
theorem SI.seq {e : Expr} {m : M R} (hK : X.K = G.K) (he : SE G O E X e m) : SI G O E X tg e (iSeq m) := by
  have h := pi_seq (tg := tg) he
  rw [hK] at h
  refine ⟨fun pins s σ H R I ⟨ρ, T, F, st, w⟩ => h.run pins s σ H R I ?_⟩
  unfold iSeq at w
  refine tE_bnd st w fun r ρ1 v H1 F1 rv st1 w1 => ?_
  cases r with
  | s i => exact w1.elim
  | v fl d =>
    obtain ⟨F2, st2⟩ := freeze_top (T := T) (by exact st1)
    have vw := st2.good.view (x := (v, .sh, d)) List.mem_cons_self
    cases d with
    | lst ds =>
      obtain ⟨a, vs, e, hs, rp⟩ := vw
      dsimp only at e
      subst e
      exact .inl ⟨a, rfl, ⟨vs, SqL.of hs⟩, w1 _ _ H1 F2 jok_list st2⟩
    | tup ds =>
      obtain ⟨a, vs, e, hs, rp⟩ := View.tup vw
      dsimp only at e
      subst e
      exact .inr (.inl ⟨a, rfl, ⟨vs, hs⟩, w1 _ _ H1 F2 jok_tup st2⟩)
    | str z => exact .inr (.inr ⟨z, vw, w1 _ [(v, .sh, .str z)] H1 F2 jok_str st2⟩)
    | _ => exact w1.elim
theorem jok_rng {lo : Int} {n : Nat} {C : List Cell} : JOk G (Itr lo n) (rngD lo n 1) C := by
  intro i H F L g
  have hl : (rngD lo n 1).length = n := by simp [rngD]
  refine ⟨fun h => by rw [hl] at h; exact h, fun h => by rw [hl] at h; exact h, fun x H' d hd ⟨e, y⟩ => ?_⟩
  subst e y
  unfold rngD at hd
  rw [List.getElem?_map] at hd
  cases q : (List.range n)[i]? with
  | none => rw [q] at hd; cases hd
  | some j =>
    rw [q] at hd
    have : j = i := by
      have := List.getElem?_eq_some_iff.mp q
      obtain ⟨h1, h2⟩ := this
      simpa using h2.symm
    subst this
    cases hd
    refine ⟨F, g.rep (x := (.int (lo + (j : Nat)), .sh, .int (lo + (j : Nat) * 1))) rfl ?_⟩
    rw [Int.mul_one]
    exact .int _
theorem jok_rngC {lo c : Int} {n : Nat} {C : List Cell} : JOk G (Itc lo c n) (rngD lo n c) C := by
  intro i H F L g
  have hl : (rngD lo n c).length = n := by simp [rngD]
  refine ⟨fun h => by rw [hl] at h; exact h, fun h => by rw [hl] at h; exact h, fun x H' d hd ⟨e, y⟩ => ?_⟩
  subst e y
  unfold rngD at hd
  rw [List.getElem?_map] at hd
  cases q : (List.range n)[i]? with
  | none => rw [q] at hd; cases hd
  | some j =>
    rw [q] at hd
    have : j = i := by
      have := List.getElem?_eq_some_iff.mp q
      obtain ⟨h1, h2⟩ := this
      simpa using h2.symm
    subst this
    cases hd
    exact ⟨F, g.rep (x := (.int (lo + (j : Nat) * c), .sh, .int (lo + (j : Nat) * c))) rfl (.int _)⟩
theorem intOf_view {H : Hp} {F : Fz} {v : V} {o : Option D} {j : Int} (h : o.bind intOf = some j) (w : ∀ d, o = some d → View G H F v d) : v = .int j := by
  cases o with
  | none => cases h
  | some d =>
    cases d with
    | int i => cases h; exact w _ rfl
    | _ => cases h
theorem small62_of {i : Int} (h : small62 i = true) : -(2 ^ 62) ≤ i ∧ i < 2 ^ 62 := by
  unfold small62 at h
  rw [Bool.and_eq_true] at h
  exact ⟨of_decide_eq_true h.1, of_decide_eq_true h.2⟩
theorem SI.rg1 {a : Expr} {p pos : Pos} {m : M R} (hg : Gl X "range") (hm : X.mg "range" = none) (ha : SE G O E X a m) (hs : starEach [a] X.env = [(false, eval a X.env)] := by rfl) : SI G O E X tg (.Call (.Name "range" p) [a] [] pos) (iRg1 m) := by
  have h := pi_range1 (tg := tg) (p := p) (pos := pos) hg hm (pa_cons ha pa_nil hs) hs
  refine ⟨fun pins s σ H R I ⟨ρ, T, F, st, w⟩ => h.run pins s σ H R I ?_⟩
  unfold iRg1 at w
  refine tE_bnd st w fun r ρ1 v H1 F1 rv st1 w1 => ?_
  split at w1
  · rename_i j e
    split at w1
    · rename_i hj
      obtain ⟨h1, h2⟩ := small62_of hj
      refine ⟨j, by rw [intOf_view e fun d hd => st1.view rv mem_temp hd], h1, h2, w1 _ (temp r v) H1 F1 jok_rng st1⟩
    · exact w1.elim
  · exact w1.elim
theorem SI.rg2 {a b : Expr} {p pos : Pos} {m n : M R} (hg : Gl X "range") (hm : X.mg "range" = none) (ha : SE G O E X a m) (hb : SE G O E X b n) (hs : starEach [a, b] X.env = [(false, eval a X.env), (false, eval b X.env)] := by rfl) (hs2 : starEach [b] X.env = [(false, eval b X.env)] := by rfl)
    (hs3 : starEach [a, b] X.env = (false, eval a X.env) :: starEach [b] X.env := by rfl) : SI G O E X tg (.Call (.Name "range" p) [a, b] [] pos) (iRg2 m n) := by
  have h := pi_range2 (tg := tg) (p := p) (pos := pos) hg hm (pa_cons ha (pa_cons hb pa_nil hs2) hs3) hs hs2
  refine ⟨fun pins s σ H R I ⟨ρ, T, F, st, w⟩ => h.run pins s σ H R I ?_⟩
  unfold iRg2 at w
  refine tE_bnd st w fun r ρ1 v H1 F1 rv st1 w1 => ?_
  refine tE_bnd (T := temp r v ++ T) st1 (w1.ext fun _ _ x => x) fun r2 ρ2 u H2 F2 ru st2 w2 => ?_
  split at w2
  · rename_i i j e1 e2
    split at w2
    · rename_i hj
      rw [Bool.and_eq_true] at hj
      obtain ⟨h1, h2⟩ := small62_of hj.1
      obtain ⟨h3, h4⟩ := small62_of hj.2
      have q1 := intOf_view e1 fun d hd => st2.view rv (fun z hz => List.mem_append_right _ (mem_temp z hz)) hd
      have q2 := intOf_view e2 fun d hd => st2.view ru mem_temp hd
      exact ⟨i, j, by rw [q1, q2], ⟨h1, h2, h3, h4⟩, w2 _ (temp r2 u ++ temp r v) H2 F2 jok_rng (by rw [List.append_assoc]; exact st2)⟩
    · exact w2.elim
  · exact w2.elim
theorem SI.rg3 {a b c : Expr} {p pos : Pos} {m n l : M R} (hg : Gl X "range") (hm : X.mg "range" = none) (ha : SE G O E X a m) (hb : SE G O E X b n) (hc : SE G O E X c l)
    (hs : starEach [a, b, c] X.env = (false, eval a X.env) :: starEach [b, c] X.env := by rfl) (hs2 : starEach [b, c] X.env = (false, eval b X.env) :: starEach [c] X.env := by rfl) (hs3 : starEach [c] X.env = (false, eval c X.env) :: starEach [] X.env := by rfl) (hpl : (backTo pos (starEach [b, c] X.env)).any (·.1) = false := by rfl) :
    SI G O E X tg (.Call (.Name "range" p) [a, b, c] [] pos) (iRg3 m n l) := by
  have h := pi_range3 (tg := tg) (p := p) (pos := pos) hg hm (pa_cons ha (pa_cons hb (pa_cons hc pa_nil hs3) hs2) hs) hs hpl
  refine ⟨fun pins s σ H R I ⟨ρ, T, F, st, w⟩ => h.run pins s σ H R I ?_⟩
  unfold iRg3 at w
  refine tE_bnd st w fun r ρ1 v H1 F1 rv st1 w1 => ?_
  refine tE_bnd (T := temp r v ++ T) st1 (w1.ext fun _ _ x => x) fun r2 ρ2 u H2 F2 ru st2 w2 => ?_
  refine tE_bnd (T := temp r2 u ++ (temp r v ++ T)) st2 (w2.ext fun _ _ x => x) fun r3 ρ3 t H3 F3 rt st3 w3 => ?_
  split at w3
  · rename_i i j k e1 e2 e3
    split at w3
    · rename_i hj
      simp only [Bool.and_eq_true, decide_eq_true_eq] at hj
      have q1 := intOf_view e1 fun d hd => st3.view rv (fun z hz => List.mem_append_right _ (List.mem_append_right _ (mem_temp z hz))) hd
      have q2 := intOf_view e2 fun d hd => st3.view ru (fun z hz => List.mem_append_right _ (mem_temp z hz)) hd
      have q3 := intOf_view e3 fun d hd => st3.view rt mem_temp hd
      exact ⟨i, j, k, rgN i j k, by rw [q1, q2, q3], ⟨hj.1.1.1, hj.1.1.2, hj.1.2, (Int.toNat_of_nonneg hj.2).symm⟩, w3 _ [] H3 F3 jok_rngC ((st3.drop).drop.drop)⟩
    · exact w3.elim
  · exact w3.elim
theorem jok_zip {a b : Addr} {xs ys : List D} : JOk G (Itz G.K a b) (zipD xs ys) [(.ref b, .sh, .lst ys), (.ref a, .sh, .lst xs)] := by
  intro i H F L g
  obtain ⟨a', vs, e, hs, rp⟩ := g.view (x := (.ref a, .sh, .lst xs)) (List.mem_cons_of_mem _ List.mem_cons_self)
  cases e
  obtain ⟨b', us, e, hs2, rp2⟩ := g.view (x := (.ref b, .sh, .lst ys)) List.mem_cons_self
  cases e
  have hs : SqL G.K H a vs := SqL.of hs
  have hs2 : SqL G.K H b us := SqL.of hs2
  have hl := rp.length
  have hl2 := rp2.length
  have hz : (zipD xs ys).length = min xs.length ys.length := by simp [zipD]
  refine ⟨fun h => ?_, fun h => ⟨vs, us, hs, hs2, by omega⟩, fun x H' d hd y => ?_⟩
  · obtain ⟨v, h1, _⟩ := rp.get (List.getElem?_eq_getElem (show i < xs.length by omega))
    obtain ⟨u, h2, _⟩ := rp2.get (List.getElem?_eq_getElem (show i < ys.length by omega))
    exact ⟨vs, us, v, u, hs, hs2, h1, h2⟩
  · obtain ⟨T, x1, y1, ex, nT, eH, f1, f2⟩ := y
    subst ex eH
    have hi : i < (zipD xs ys).length := lt_of_get hd
    obtain ⟨v, h1, r1⟩ := rp.get (List.getElem?_eq_getElem (show i < xs.length by omega))
    obtain ⟨u, h2, r2⟩ := rp2.get (List.getElem?_eq_getElem (show i < ys.length by omega))
    have e1 := f1 vs hs
    have e2 := f2 us hs2
    rw [h1] at e1
    rw [h2] at e2
    have z1 : v = x1 := Option.some.inj e1
    have z2 : u = y1 := Option.some.inj e2
    rw [z1] at r1
    rw [z2] at r2
    have ed : d = .tup [xs[i]'(by omega), ys[i]'(by omega)] := by
      unfold zipD at hd
      rw [List.getElem?_zipWith, List.getElem?_eq_getElem (show i < xs.length by omega), List.getElem?_eq_getElem (show i < ys.length by omega)] at hd
      exact (Option.some.inj hd).symm
    rw [ed]
    obtain ⟨F', le, g'⟩ := g.newT (vs := [x1, y1]) (ds := [xs[i]'(by omega), ys[i]'(by omega)]) nT (.cons r1 (.cons r2 .nil))
    exact ⟨F', g'⟩
theorem jok_zipT {a b : Addr} {xs ys : List D} : JOk G (RZ.ItzT G.K a b) (zipD xs ys) [(.ref b, .sh, .tup ys), (.ref a, .sh, .tup xs)] := by
  intro i H F L g
  obtain ⟨a', vs, e, hs, rp⟩ := View.tup (g.view (x := (.ref a, .sh, .tup xs)) (List.mem_cons_of_mem _ List.mem_cons_self))
  cases e
  obtain ⟨b', us, e, hs2, rp2⟩ := View.tup (g.view (x := (.ref b, .sh, .tup ys)) List.mem_cons_self)
  cases e
  have hl := rp.length
  have hl2 := rp2.length
  have hz : (zipD xs ys).length = min xs.length ys.length := by simp [zipD]
  refine ⟨fun h => ?_, fun h => ⟨vs, us, hs, hs2, by omega⟩, fun x H' d hd y => ?_⟩
  · obtain ⟨v, h1, _⟩ := rp.get (List.getElem?_eq_getElem (show i < xs.length by omega))
    obtain ⟨u, h2, _⟩ := rp2.get (List.getElem?_eq_getElem (show i < ys.length by omega))
    exact ⟨vs, us, v, u, hs, hs2, h1, h2⟩
  · obtain ⟨T, x1, y1, ex, nT, eH, f1, f2⟩ := y
    subst ex eH
    have hi : i < (zipD xs ys).length := lt_of_get hd
    obtain ⟨v, h1, r1⟩ := rp.get (List.getElem?_eq_getElem (show i < xs.length by omega))
    obtain ⟨u, h2, r2⟩ := rp2.get (List.getElem?_eq_getElem (show i < ys.length by omega))
    have e1 := f1 vs hs
    have e2 := f2 us hs2
    rw [h1] at e1
    rw [h2] at e2
    have z1 : v = x1 := Option.some.inj e1
    have z2 : u = y1 := Option.some.inj e2
    rw [z1] at r1
    rw [z2] at r2
    have ed : d = .tup [xs[i]'(by omega), ys[i]'(by omega)] := by
      unfold zipD at hd
      rw [List.getElem?_zipWith, List.getElem?_eq_getElem (show i < xs.length by omega), List.getElem?_eq_getElem (show i < ys.length by omega)] at hd
      exact (Option.some.inj hd).symm
    rw [ed]
    obtain ⟨F', le, g'⟩ := g.newT (vs := [x1, y1]) (ds := [xs[i]'(by omega), ys[i]'(by omega)]) nT (.cons r1 (.cons r2 .nil))
    exact ⟨F', g'⟩
theorem SI.zip {a b : Expr} {p pos tpos : Pos} {elts : List Expr} {kk : Nat} {m n : M R} (hK : X.K = G.K) (hg : Gl X "zip") (hm : X.mg "zip" = none) (ha : SE G O E X a m) (hb : SE G O E X b n)
    (hs : starEach [a, b] X.env = (false, eval a X.env) :: starEach [b] X.env := by rfl) (hs2 : starEach [b] X.env = (false, eval b X.env) :: starEach [] X.env := by rfl) (hpl : (backTo pos (starEach [b] X.env)).any (·.1) = false := by rfl) :
    SI G O E X (.Tuple elts kk tpos) (.Call (.Name "zip" p) [a, b] [] pos) (iZip m n) := by
  have h := RZ.pi_zipA (elts := elts) (kk := kk) (tpos := tpos) (p := p) (pos := pos) hg hm (pa_cons ha (pa_cons hb pa_nil hs2) hs) hs hpl
  rw [hK] at h
  refine ⟨fun pins s σ H R I ⟨ρ, T, F, st, w⟩ => h.run pins s σ H R I ?_⟩
  unfold iZip at w
  refine tE_bnd st w fun r ρ1 v H1 F1 rv st1 w1 => ?_
  cases r with
  | s i => exact w1.elim
  | v fl x =>
    obtain ⟨F2, st2⟩ := freeze_top (T := T) (by exact st1)
    refine tE_bnd (T := (v, .sh, x) :: T) st2 (w1.ext (T' := [(v, .sh, x)]) fun _ _ x => x) fun r2 ρ2 u H3 F3 ru st3 w3 => ?_
    cases r2 with
    | s i => exact w3.elim
    | v fl2 y =>
      obtain ⟨F4, st4⟩ := freeze_top (T := (v, .sh, x) :: T) (by exact st3)
      have vx := st4.gd.view (x := (v, .sh, x)) (List.mem_append_right _ (List.mem_cons_of_mem _ List.mem_cons_self))
      have vy := st4.gd.view (x := (u, .sh, y)) (List.mem_append_right _ List.mem_cons_self)
      dsimp only at w3
      split at w3
      · rename_i xs ys
        obtain ⟨a, vs, e, hs, rp⟩ := vx
        obtain ⟨b, us, e2, hs2, rp2⟩ := vy
        dsimp only at e e2
        subst e e2
        exact ⟨a, b, vs, us, rfl, .inl ⟨SqL.of hs, SqL.of hs2, w3 _ _ H3 F4 jok_zip st4⟩⟩
      · rename_i xs ys
        obtain ⟨a, vs, e, hs, rp⟩ := View.tup vx
        obtain ⟨b, us, e2, hs2, rp2⟩ := View.tup vy
        dsimp only at e e2
        subst e e2
        exact ⟨a, b, vs, us, rfl, .inr ⟨hs, hs2, w3 _ _ H3 F4 jok_zipT st4⟩⟩
      · exact w3.elim
theorem jok_enum {a : Addr} {xs : List D} : JOk G (Ite G.K a) (enumD xs) [(.ref a, .sh, .lst xs)] := by
  intro i H F L g
  obtain ⟨a', vs, e, hs, rp⟩ := g.view (x := (.ref a, .sh, .lst xs)) List.mem_cons_self
  cases e
  have hs : SqL G.K H a vs := SqL.of hs
  have hl := rp.length
  have hz : (enumD xs).length = xs.length := by simp [enumD]
  refine ⟨fun h => ?_, fun h => ⟨vs, hs, by omega⟩, fun x H' d hd y => ?_⟩
  · obtain ⟨v, h1, _⟩ := rp.get (List.getElem?_eq_getElem (show i < xs.length by omega))
    exact ⟨vs, v, hs, h1⟩
  · obtain ⟨T, x1, ex, nT, eH, f1⟩ := y
    subst ex eH
    have hi : i < (enumD xs).length := lt_of_get hd
    obtain ⟨v, h1, r1⟩ := rp.get (List.getElem?_eq_getElem (show i < xs.length by omega))
    have e1 := f1 vs hs
    rw [h1] at e1
    have z1 : v = x1 := Option.some.inj e1
    rw [z1] at r1
    have ed : d = .tup [.int (i : Nat), xs[i]'(by omega)] := by
      unfold enumD at hd
      rw [List.getElem?_zipWith, List.getElem?_eq_getElem (show i < xs.length by omega), List.getElem?_range (by omega)] at hd
      exact (Option.some.inj hd).symm
    rw [ed]
    obtain ⟨F', le, g'⟩ := g.newT (vs := [.int (i : Nat), x1]) (ds := [.int (i : Nat), xs[i]'(by omega)]) nT (.cons (.int _) (.cons r1 .nil))
    exact ⟨F', g'⟩
theorem SI.enum {a : Expr} {p pos tpos : Pos} {elts : List Expr} {kk : Nat} {m : M R} (hK : X.K = G.K) (hg : Gl X "enumerate") (hm : X.mg "enumerate" = none) (ha : SE G O E X a m) (hs : starEach [a] X.env = [(false, eval a X.env)] := by rfl) :
    SI G O E X (.Tuple elts kk tpos) (.Call (.Name "enumerate" p) [a] [] pos) (iEnum m) := by
  have h := pi_enum (elts := elts) (kk := kk) (tpos := tpos) (p := p) (pos := pos) hg hm (pa_cons ha pa_nil hs) hs
  rw [hK] at h
  refine ⟨fun pins s σ H R I ⟨ρ, T, F, st, w⟩ => h.run pins s σ H R I ?_⟩
  unfold iEnum at w
  refine tE_bnd st w fun r ρ1 v H1 F1 rv st1 w1 => ?_
  cases r with
  | s i => exact w1.elim
  | v fl x =>
    obtain ⟨F2, st2⟩ := freeze_top (T := T) (by exact st1)
    have vx := st2.good.view (x := (v, .sh, x)) List.mem_cons_self
    cases x with
    | lst xs =>
      obtain ⟨a, vs, e, hs, rp⟩ := vx
      dsimp only at e
      subst e
      exact ⟨a, vs, rfl, SqL.of hs, w1 _ _ H1 F2 jok_enum st2⟩
    | _ => exact w1.elim
end
end PP

set_option Elab.async false
set_option linter.all false
set_option maxRecDepth 100000
/-! Pure python, 7: comprehensions; what is changed; pairs stored at once. -/
namespace PP
open PySem PySem.Spec PyProof.Rows L2

section
variable {G : Gx} {O : List V} {E : XK} {k : Nat} {X : Cx}
/-! ### slots put away and brought back -/
def cellAt (σ : L2.St) (ρ : Env) (i : Nat) : List Cell := match σ[i]?, ρ[i]? with
  | some (some v), some (some s) => [(v, s.1, s.2)]
  | _, _ => []
def saved (σ : L2.St) (ρ : Env) (vs : List Nat) : List Cell := vs.flatMap (cellAt σ ρ)
theorem live_cell {σ : L2.St} {ρ : Env} {i : Nat} : (live σ ρ).Perm (cellAt σ ρ i ++ live σ (ρ.set i none)) := by
  unfold cellAt
  split
  · rename_i v s h1 h2
    exact live_take h1 h2
  · rename_i h
    show (live σ ρ).Perm (live σ (ρ.set i none))
    have gen : ∀ (σ : L2.St) (ρ : Env) (i : Nat), (∀ v s, σ[i]? = some (some v) → ρ[i]? = some (some s) → False) → live σ ρ = live σ (ρ.set i none) := by
      intro σ
      induction σ with
      | nil => intro ρ i h; cases ρ <;> rfl
      | cons a σ ih =>
        intro ρ i h
        cases ρ with
        | nil => rfl
        | cons b ρ =>
          cases i with
          | zero =>
            cases a with
            | none => cases b <;> rfl
            | some a =>
              cases b with
              | none => rfl
              | some b => exact (h a b rfl rfl).elim
          | succ i =>
            have q := ih ρ i fun v s h1 h2 => h v s (by simpa using h1) (by simpa using h2)
            show live (a :: σ) (b :: ρ) = live (a :: σ) (b :: ρ.set i none)
            cases a <;> cases b <;> simp only [live, q]
    rw [gen σ ρ i fun v s h1 h2 => h v s h1 h2]
theorem wipeE_length : ∀ {vs : List Nat} {ρ : Env}, (wipeE ρ vs).length = ρ.length
  | [], _ => rfl
  | v :: vs, ρ => by
    show (wipeE (ρ.set v none) vs).length = _
    rw [wipeE_length, List.length_set]
theorem wipeE_get : ∀ {vs : List Nat} {ρ : Env} {i : Nat}, i ∉ vs → (wipeE ρ vs)[i]? = ρ[i]?
  | [], _, _, _ => rfl
  | v :: vs, ρ, i, h => by
    show (wipeE (ρ.set v none) vs)[i]? = _
    rw [wipeE_get (fun z => h (List.mem_cons_of_mem _ z)), List.getElem?_set_ne (fun e => h (by simp [e]))]
theorem wipeE_in : ∀ {vs : List Nat} {ρ : Env} {i : Nat} {s : Fl × D}, i ∈ vs → (wipeE ρ vs)[i]? ≠ some (some s)
  | v :: vs, ρ, i, s, h => by
    show (wipeE (ρ.set v none) vs)[i]? ≠ _
    by_cases hv : i ∈ vs
    · exact wipeE_in hv
    · have e : i = v := by rcases List.mem_cons.mp h with e | e
                           · exact e
                           · exact (hv e).elim
      subst e
      rw [wipeE_get hv]
      intro z
      have hl := lt_of_get z
      rw [List.getElem?_set_self (by simpa using hl)] at z
      cases z
theorem wipeE_slots : ∀ {vs : List Nat} {ρ : Env} {σ : L2.St}, Slots O σ ρ → Slots O σ (wipeE ρ vs)
  | [], _, _, h => h
  | v :: vs, ρ, σ, h => wipeE_slots (vs := vs) h.none
theorem wipeE_good : ∀ {vs : List Nat} {ρ ρ0 : Env} {σ : L2.St} {H : Hp} {F : Fz} {L : List Cell}, vs.Nodup → (∀ i ∈ vs, ρ[i]? = ρ0[i]?) → Good G H F (live σ ρ ++ L) → Good G H F (live σ (wipeE ρ vs) ++ (saved σ ρ0 vs ++ L))
  | [], _, _, _, _, _, _, _, _, g => g
  | v :: vs, ρ, ρ0, σ, H, F, L, nd, he, g => by
    have g1 := g.perm ((live_cell (σ := σ) (ρ := ρ) (i := v)).append_right L)
    have e0 : cellAt σ ρ v = cellAt σ ρ0 v := by unfold cellAt; rw [he v List.mem_cons_self]
    rw [e0, List.append_assoc] at g1
    have g2 := Good.swap g1
    have nd' := List.nodup_cons.mp nd
    have g3 := wipeE_good (vs := vs) (ρ0 := ρ0) nd'.2 (fun i hi => by
      rw [List.getElem?_set_ne (fun e => nd'.1 (by rw [e]; exact hi))]
      exact he i (List.mem_cons_of_mem _ hi)) g2
    refine g3.perm (List.Perm.append_left _ ?_)
    show (saved σ ρ0 vs ++ (cellAt σ ρ0 v ++ L)).Perm ((cellAt σ ρ0 v ++ saved σ ρ0 vs) ++ L)
    rw [← List.append_assoc]
    exact List.Perm.append_right _ List.perm_append_comm
theorem wipe_sub : ∀ {vs : List Nat} {ρ : Env} {σ : L2.St}, (live σ (wipeE ρ vs)).Sublist (live σ ρ)
  | [], _, _ => List.Sublist.refl _
  | v :: vs, ρ, σ => (wipe_sub (vs := vs)).trans live_sub
/-- live things don't see slots that are wiped in ρ -/
theorem live_wipe : ∀ {vs : List Nat} {ρ : Env} {σ : L2.St}, (∀ i ∈ vs, ∀ s, ρ[i]? ≠ some (some s)) → live (wipe σ vs) ρ = live σ ρ
  | [], _, _, _ => rfl
  | v :: vs, ρ, σ, h => by
    show live ((wipe σ vs).set v none) ρ = live σ ρ
    have e : ρ.set v none = ρ := by
      apply List.ext_getElem?
      intro j
      by_cases z : v = j
      · subst z
        by_cases hl : v < ρ.length
        · rw [List.getElem?_set_self hl]
          cases q : ρ[v]? with
          | none => rw [List.getElem?_eq_none_iff] at q; omega
          | some s =>
            cases s with
            | none => rfl
            | some s => exact (h v List.mem_cons_self s q).elim
        · rw [List.getElem?_eq_none (by simpa using hl), List.getElem?_eq_none (by omega)]
      · rw [List.getElem?_set_ne z]
    have q := live_none (σ := wipe σ vs) (ρ := ρ) (i := v) none
    rw [e] at q
    rw [q]
    exact live_wipe fun i hi => h i (List.mem_cons_of_mem _ hi)
theorem restore_good {ρ0 : Env} : ∀ {vs : List Nat} {ρ : Env} {σ : L2.St} {H : Hp} {F : Fz} {L : List Cell}, Slots O σ ρ0 → Slots O σ ρ → Good G H F (live σ ρ ++ (saved σ ρ0 vs ++ L)) → St G O (restore ρ0 vs ρ) σ L H F
  | [], ρ, σ, H, F, L, s0, s, g => ⟨s, g⟩
  | v :: vs, ρ, σ, H, F, L, s0, s, g => by
    show St G O (restore ρ0 vs (ρ.set v ((ρ0[v]?).getD none))) σ L H F
    have g0 : Good G H F (live σ ρ ++ (cellAt σ ρ0 v ++ (saved σ ρ0 vs ++ L))) := by rw [← List.append_assoc (cellAt σ ρ0 v)]; exact g
    cases q : ρ0[v]? with
    | none =>
      rw [Option.getD_none]
      have e : cellAt σ ρ0 v = [] := by unfold cellAt; rw [q]; cases σ[v]? with
        | none => rfl
        | some x => cases x <;> rfl
      rw [e] at g0
      exact restore_good s0 s.none (g0.sub (List.Sublist.append_right live_sub _))
    | some x =>
      rw [Option.getD_some]
      cases x with
      | none =>
        have e : cellAt σ ρ0 v = [] := by unfold cellAt; rw [q]; cases σ[v]? with
          | none => rfl
          | some x => cases x <;> rfl
        rw [e] at g0
        exact restore_good s0 s.none (g0.sub (List.Sublist.append_right live_sub _))
      | some t =>
        obtain ⟨w, h1, h2⟩ := s0.has v t q
        have e : cellAt σ ρ0 v = [(w, t.1, t.2)] := by unfold cellAt; rw [q, h1]
        rw [e] at g0
        have hl : v < ρ.length := by have := lt_of_get h1; have := s.len; omega
        refine restore_good s0 ⟨by simpa using s.len, fun j u z => ?_⟩ ?_
        · by_cases ej : v = j
          · subst ej
            rw [List.getElem?_set_self hl] at z
            cases z
            exact ⟨w, h1, h2⟩
          · rw [List.getElem?_set_ne ej] at z
            exact s.has j u z
        · have g1 := (Good.swap g0).sub (L' := (w, t.1, t.2) :: (live σ (ρ.set v none) ++ (saved σ ρ0 vs ++ L))) ((List.Sublist.append_right live_sub _).cons_cons _)
          exact g1.perm ((live_put' h1 hl).symm.append_right _)
theorem wipe_slots {σ : L2.St} {ρ : Env} {vs : List Nat} (s : Slots O σ ρ) (h : ∀ i ∈ vs, ∀ t, ρ[i]? ≠ some (some t)) : Slots O (wipe σ vs) ρ := by
  refine ⟨by rw [wipe_length]; exact s.len, fun i t e => ?_⟩
  obtain ⟨v, h1, h2⟩ := s.has i t e
  refine ⟨v, ?_, h2⟩
  have hi : i ∉ vs := fun z => h i z t e
  have : ∀ vs : List Nat, i ∉ vs → (wipe σ vs)[i]? = σ[i]? := by
    intro vs
    induction vs with
    | nil => intro _; rfl
    | cons a vs ih =>
      intro hn
      show ((wipe σ vs).set a none)[i]? = _
      rw [List.getElem?_set_ne (fun e => hn (by simp [e]))]
      exact ih fun z => hn (List.mem_cons_of_mem _ z)
  rw [this vs hi]
  exact h1
theorem unwipe_slots {σ : L2.St} {ρ : Env} {vs : List Nat} (s : Slots O (wipe σ vs) ρ) : Slots O σ ρ := by
  refine ⟨by have := s.len; rw [wipe_length] at this; exact this, fun i t e => ?_⟩
  obtain ⟨v, h1, h2⟩ := s.has i t e
  exact ⟨v, (wipe_some h1).1, h2⟩
theorem wipe_keep {σ σ' : L2.St} {vs ws : List Nat} (h : Keep ws σ σ') (hw : ∀ i ∈ ws, i ∈ vs) : wipe σ' vs = wipe σ vs := by
  have none_in : ∀ (σ : L2.St) (vs : List Nat) (i : Nat), i ∈ vs → i < σ.length → (wipe σ vs)[i]? = some none := by
    intro σ vs
    induction vs with
    | nil => intro i h; cases h
    | cons a vs ih =>
      intro i hi hl
      show ((wipe σ vs).set a none)[i]? = _
      by_cases e : a = i
      · subst e
        rw [List.getElem?_set_self (by rw [wipe_length]; exact hl)]
      · rw [List.getElem?_set_ne e]
        rcases List.mem_cons.mp hi with z | z
        · exact (e z.symm).elim
        · exact ih i z hl
  have out : ∀ (σ : L2.St) (vs : List Nat) (i : Nat), i ∉ vs → (wipe σ vs)[i]? = σ[i]? := by
    intro σ vs
    induction vs with
    | nil => intro i _; rfl
    | cons a vs ih =>
      intro i hn
      show ((wipe σ vs).set a none)[i]? = _
      rw [List.getElem?_set_ne (fun e => hn (by simp [e]))]
      exact ih i fun z => hn (List.mem_cons_of_mem _ z)
  apply List.ext_getElem?
  intro i
  by_cases hi : i ∈ vs
  · by_cases hl : i < σ.length
    · rw [none_in σ vs i hi hl, none_in σ' vs i hi (by rw [h.1]; exact hl)]
    · rw [List.getElem?_eq_none (by rw [wipe_length, h.1]; omega), List.getElem?_eq_none (by rw [wipe_length]; omega)]
  · rw [out σ vs i hi, out σ' vs i hi]
    exact h.2 i fun z => hi (hw i z)

/-! ### comprehensions -/
theorem CxOk.blk (c : CxOk gu G E k X) (s : Shared) (H : Hp) (scope : Scope) (cenv : PySem.Env) (fp : List Addr) : CxOk gu G L2.E0 k (X.blk s H scope cenv fp) :=
  ⟨c.K, c.nd, c.room, L2.takes0, c.calm, PassesOwn.never, c.gd⟩
def STs (G : Gx) (O : List V) (E : XK) (X : Cx) (es : List Expr) (m : M Bool) : Prop := PTs X es (tT G O E m)
theorem STs.nil : STs G O E X [] cYes := ⟨fun pins s σ H Q I ⟨ρ, T, F, st, w⟩ => pts_nil.run pins s σ H Q I (w H F st)⟩
theorem STs.one {c : Expr} {m : M Bool} (h : ST G O E X c m) : STs G O E X [c] m := pts_one h
theorem comp_read {vs ws : List Nat} {mi : M (List D)} {g : Tg} {mc : M Bool} {me : M R} {σ : L2.St} {H : Hp} {Q : VK} (nd : vs.Nodup) (hw : ∀ i ∈ ws, i ∈ vs) (h : tE G O E (mComp vs mi g mc me) σ H Q) :
    tLc (tI G O E mi) (tTg G O ws g) (tT G O L2.E0 mc) (tE G O L2.E0 me) vs σ H Q := by
  obtain ⟨ρ, T, F, st, w⟩ := h
  unfold mComp at w
  refine ⟨ρ, T, F, st, w.bnd.imp fun ds ρ1 w1 J C H1 F1 hJ st1 => fun A hA => ?_⟩
  have hfin : ∃ acc ρ9, loopC vs g mc me ds [] (wipeE ρ1 vs) = .ok acc ρ9 ∧ ∀ v H' F', St G O (restore ρ1 vs ρ9) σ ((v, .ow, .lst acc) :: T) H' F' → Q v H' := by
    cases q : loopC vs g mc me ds [] (wipeE ρ1 vs) with
    | ok acc ρ9 =>
      rw [q] at w1
      exact ⟨acc, ρ9, rfl, fun v H' F' s' => w1 v H' F' trivial s'⟩
    | exc c p ρ9 => rw [q] at w1; exact w1.elim
    | bad => rw [q] at w1; exact w1.elim
  obtain ⟨acc9, ρ9, hloop, fin⟩ := hfin
  have wiped : ∀ (ρ : Env), ∀ i ∈ vs, ∀ t, (wipeE ρ vs)[i]? ≠ some (some t) := fun ρ i hi t => wipeE_in hi
  refine ⟨fun i m H => m = ds.length - i ∧ i ≤ ds.length ∧ ∃ acc ρ F, St G O ρ (wipe σ vs) ((.ref A, .ow, .lst acc) :: (C ++ (saved σ ρ1 vs ++ T))) H F ∧ (∀ j ∈ vs, ∀ t, ρ[j]? ≠ some (some t)) ∧ loopC vs g mc me (ds.drop i) acc ρ = .ok acc9 ρ9, ?_, ?_⟩
  · refine ⟨ds.length, rfl, Nat.zero_le _, [], wipeE ρ1 vs, F1, ⟨wipe_slots (wipeE_slots st1.sl) (wiped ρ1), ?_⟩, wiped ρ1, by simpa using hloop⟩
    rw [live_wipe (wiped ρ1)]
    have g1 := wipeE_good (ρ0 := ρ1) nd (fun i hi => rfl) st1.gd
    have g2 := g1.new (fl := .ow) hA (show Own G (upd H1 A (.lst [])) F1 A (.lst []) from ⟨[], upd_same, .nil⟩) rfl
    refine (g2.perm (List.perm_middle (l₁ := live σ (wipeE ρ1 vs))).symm).perm (List.Perm.append_left _ (List.Perm.cons _ ?_))
    rw [← List.append_assoc, ← List.append_assoc]
    exact List.Perm.append_right _ List.perm_append_comm
  · rintro i m H ⟨rfl, hi, acc, ρ, F, st, hw0, hl⟩
    have gJ : Good G H F (C ++ (live (wipe σ vs) ρ ++ ((.ref A, .ow, .lst acc) :: (saved σ ρ1 vs ++ T)))) := by
      have g1 := st.gd
      refine g1.perm ?_
      have p1 : ((V.ref A, Fl.ow, D.lst acc) :: (C ++ (saved σ ρ1 vs ++ T))).Perm (C ++ ((V.ref A, Fl.ow, D.lst acc) :: (saved σ ρ1 vs ++ T))) := List.perm_middle.symm
      refine (List.Perm.append_left _ p1).trans ?_
      rw [← List.append_assoc, ← List.append_assoc]
      exact List.Perm.append_right _ List.perm_append_comm
    obtain ⟨j1, j2, j3⟩ := hJ i H F _ gJ
    by_cases hlt : i < ds.length
    · refine .inr ⟨j1 hlt, fun H' => ∃ acc ρ F, St G O ρ (wipe σ vs) ((.ref A, .ow, .lst acc) :: (C ++ (saved σ ρ1 vs ++ T))) H' F ∧ (∀ j ∈ vs, ∀ t, ρ[j]? ≠ some (some t)) ∧ loopC vs g mc me (ds.drop (i + 1)) acc ρ = .ok acc9 ρ9, fun H' h => ⟨ds.length - (i + 1), by omega, rfl, hlt, h⟩, fun x H' hy => ?_⟩
      obtain ⟨F', g'⟩ := j3 x H' ds[i] (List.getElem?_eq_getElem hlt) hy
      have st' : St G O ρ (wipe σ vs) ((x, .sh, ds[i]) :: ((.ref A, .ow, .lst acc) :: (C ++ (saved σ ρ1 vs ++ T)))) H' F' := by
        refine St.push st.sl (g'.perm (List.Perm.cons _ ?_))
        have p1 : (C ++ ((V.ref A, Fl.ow, D.lst acc) :: (saved σ ρ1 vs ++ T))).Perm ((V.ref A, Fl.ow, D.lst acc) :: (C ++ (saved σ ρ1 vs ++ T))) := List.perm_middle
        have p0 : (C ++ (live (wipe σ vs) ρ ++ ((V.ref A, Fl.ow, D.lst acc) :: (saved σ ρ1 vs ++ T)))).Perm (live (wipe σ vs) ρ ++ (C ++ ((V.ref A, Fl.ow, D.lst acc) :: (saved σ ρ1 vs ++ T)))) := by
          rw [← List.append_assoc, ← List.append_assoc]
          exact List.Perm.append_right _ List.perm_append_comm
        exact p0.trans (List.Perm.append_left _ p1)
      rw [List.drop_eq_getElem_cons hlt] at hl
      simp only [loopC] at hl
      refine ⟨ds[i], ρ, _, F', st', ?_⟩
      cases q : g ds[i] ρ with
      | bad => rw [q] at hl; cases hl
      | exc c p ρ' => rw [q] at hl; cases hl
      | ok u ρ2 =>
        rw [q] at hl
        intro σ2 H2 F2 kp st2
        have hwk := wipe_keep kp hw
        have hww : wipe (wipe σ vs) vs = wipe σ vs := wipe_keep (ws := vs) ⟨wipe_length _ _, fun i hi => by
          have : ∀ vs : List Nat, i ∉ vs → (wipe σ vs)[i]? = σ[i]? := by
            intro vs
            induction vs with
            | nil => intro _; rfl
            | cons a vs ih =>
              intro hn
              show ((wipe σ vs).set a none)[i]? = _
              rw [List.getElem?_set_ne (fun e => hn (by simp [e]))]
              exact ih fun z => hn (List.mem_cons_of_mem _ z)
          exact this vs hi⟩ fun i hi => hi
        rw [hww] at hwk
        refine ⟨hwk, ?_⟩
        have again : ∀ {ρ3 : Env} {H3 : Hp} {F3 : Fz} {acc : List D}, St G O ρ3 σ2 ((.ref A, .ow, .lst acc) :: (C ++ (saved σ ρ1 vs ++ T))) H3 F3 → St G O (wipeE ρ3 vs) (wipe σ vs) ((.ref A, .ow, .lst acc) :: (C ++ (saved σ ρ1 vs ++ T))) H3 F3 := fun {ρ3 H3 F3 acc} s3 => by
          rw [← hwk]
          refine ⟨wipe_slots (wipeE_slots s3.sl) (wiped ρ3), ?_⟩
          rw [live_wipe (wiped ρ3)]
          exact s3.gd.sub (List.Sublist.append_right wipe_sub _)
        refine ⟨ρ2, _, F2, st2, ?_⟩
        dsimp only at hl
        cases q2 : mc ρ2 with
        | bad => rw [q2] at hl; cases hl
        | exc c p ρ' => rw [q2] at hl; cases hl
        | ok b ρ3 =>
          rw [q2] at hl
          intro H3 F3 st3
          cases b with
          | false =>
            rw [if_neg Bool.false_ne_true]
            exact ⟨acc, _, F3, again st3, wiped ρ3, hl⟩
          | true =>
            rw [if_pos rfl]
            refine ⟨ρ3, _, F3, st3, ?_⟩
            dsimp only at hl
            cases q3 : me ρ3 with
            | bad => rw [q3] at hl; cases hl
            | exc c p ρ' => rw [q3] at hl; cases hl
            | ok r ρ4 =>
              rw [q3] at hl
              cases r with
              | s i => cases hl
              | v fl y =>
                dsimp only at hl
                split at hl
                · rename_i hz
                  intro u H4 F4 _ st4
                  have g4 := (show St G O ρ4 σ2 ((u, fl, y) :: ((.ref A, .ow, .lst acc) :: (C ++ (saved σ ρ1 vs ++ T)))) H4 F4 from st4).good
                  obtain ⟨F5, le, g5, rp⟩ := g4.freeze
                  have g6 := g5.tail.perm (List.perm_middle (l₁ := live σ2 ρ4))
                  obtain ⟨a', ea, hn, ow⟩ := g6.ownH (x := (.ref A, .ow, .lst acc)) rfl
                  cases ea
                  obtain ⟨ws, hH, rps⟩ := ow
                  refine ⟨ws, hH, by rw [rps.length]; exact hz, acc ++ [y], wipeE ρ4 vs, F5, ?_, wiped ρ4, hl⟩
                  refine again ⟨st4.sl, ?_⟩
                  have g7 := g6.write (o := .lst (ws ++ [u])) (d' := .lst (acc ++ [y])) rfl ⟨ws ++ [u], upd_same, PySem.Paired.snoc rps rp⟩
                  exact g7.perm (List.perm_middle (l₁ := live σ2 ρ4)).symm
                · cases hl
    · have e : i = ds.length := by omega
      subst e
      refine .inl ⟨j2 (Nat.le_refl _), ?_⟩
      rw [List.drop_length] at hl
      have hl : Res.ok acc ρ = Res.ok acc9 ρ9 := hl
      cases hl
      refine fin _ H F (St.push ?_ ?_)
      · exact (restore_good (L := []) (F := F) (H := H) st1.sl (unwipe_slots st.sl) (by
          have g1 := st.gd
          rw [live_wipe hw0] at g1
          refine g1.sub ?_
          rw [List.append_nil]
          exact List.Sublist.append_left (((List.sublist_append_left _ _).trans (List.sublist_append_right _ _)).trans (List.sublist_cons_self _ _)) _)).sl
      · have g1 := st.gd
        rw [live_wipe hw0] at g1
        have g2 : Good G H F (live σ ρ9 ++ (saved σ ρ1 vs ++ ((.ref A, .ow, .lst acc9) :: T))) := by
          refine (g1.sub (L' := live σ ρ9 ++ ((.ref A, .ow, .lst acc9) :: (saved σ ρ1 vs ++ T))) (List.Sublist.append_left ((List.sublist_append_right _ _).cons_cons _) _)).perm (List.Perm.append_left _ ?_)
          exact List.perm_middle.symm
        exact (restore_good st1.sl (unwipe_slots st.sl) g2).gd.perm List.perm_middle
theorem SE.comp {elt tg iter : Expr} {ifs : List Expr} {scope : Scope} {own : List (Str × Nat)} {vs ws : List Nat} {pos : Pos} {mi : M (List D)} {g : Tg} {mc : M Bool} {me : M R} (cx : CxOk gu G E k X) (ok : BlkOk X.N X.env.scope scope own) (hvs : own.map (·.2) = vs) (nd : vs.Nodup) (hw : ∀ i ∈ ws, i ∈ vs)
    (hi : SI G O E X tg iter mi)
    (hg : ∀ (s : Shared) (H : Hp) (C : Addr) (cl : List (Str × Addr)) (fp : List Addr), CxOk gu G L2.E0 k (X.blk s H scope (compEnvC scope cl C X.env) fp) → SP' G O (X.blk s H scope (compEnvC scope cl C X.env) fp) tg ws g)
    (hc : ∀ (s : Shared) (H : Hp) (C : Addr) (cl : List (Str × Addr)) (fp : List Addr), CxOk gu G L2.E0 k (X.blk s H scope (compEnvC scope cl C X.env) fp) → STs G O L2.E0 (X.blk s H scope (compEnvC scope cl C X.env) fp) ifs mc)
    (he : ∀ (s : Shared) (H : Hp) (C : Addr) (cl : List (Str × Addr)) (fp : List Addr), CxOk gu G L2.E0 k (X.blk s H scope (compEnvC scope cl C X.env) fp) → SE G O L2.E0 (X.blk s H scope (compEnvC scope cl C X.env) fp) elt me)
    (hs : ∀ x, foldedSetIterable iter X.env x = pure x := by intro _; rfl) : SE G O E X (.ListComp elt [⟨tg, iter, ifs, 0⟩] scope pos) (mComp vs mi g mc me) := by
  refine PE.imp (pe_lc cx.calm cx.nd hi ok (fun s H C cl fp => hg s H C cl fp (cx.blk s H scope _ fp)) (fun s H C cl fp => hc s H C cl fp (cx.blk s H scope _ fp)) (fun s H C cl fp => he s H C cl fp (cx.blk s H scope _ fp)) hs) fun σ H Q h => ?_
  rw [hvs]
  exact comp_read nd hw h
theorem sset_end {i : Nat} {r : R} {ρ1 : Env} {v : V} {σ : L2.St} {T : List Cell} {H1 : Hp} {F1 : Fz} {Dn : Ends} (w1 : Ps G O E Dn T (match r with | .v fl d => if i < ρ1.length ∧ fl.par = false then .ok .nx (ρ1.set i (some (fl, d))) else .bad | .s _ => .bad)) (st1 : St G O ρ1 σ (temp r v ++ T) H1 F1) : gName i v σ H1 Dn.nx := by
  cases r with
  | s i => exact w1.elim
  | v fl d =>
    dsimp only at w1
    split at w1
    · rename_i hh
      exact w1 _ _ _ (St.setS (T := T) (by exact st1) hh.1 hh.2)
    · exact w1.elim
theorem SS.setC {iy : Nat} {y : Str} {py spos : Pos} {elt tg iter : Expr} {ifs : List Expr} {scope : Scope} {own : List (Str × Nat)} {vs ws : List Nat} {pos : Pos} {mi : M (List D)} {g : Tg} {mc : M Bool} {me : M R} (cx : CxOk gu G E k X) (ok : BlkOk X.N X.env.scope scope own) (hvs : own.map (·.2) = vs) (nd : vs.Nodup) (hw : ∀ i ∈ ws, i ∈ vs)
    (hy : X.N[iy]? = some y) (hyl : X.env.scope.names.lookup y = some .local) (hln : (py.line == pos.line) = true) (hsc : (scope.names.any fun (n, k) => n == y && (k == .local || k == .cell)) = false) (hkd : X.env.scope.kind = .function)
    (hi : SI G O E X tg iter mi)
    (hg : ∀ (s : Shared) (H : Hp) (C : Addr) (cl : List (Str × Addr)) (fp : List Addr), CxOk gu G L2.E0 k (X.blk s H scope (compEnvC scope cl C X.env) fp) → SP' G O (X.blk s H scope (compEnvC scope cl C X.env) fp) tg ws g)
    (hc : ∀ (s : Shared) (H : Hp) (C : Addr) (cl : List (Str × Addr)) (fp : List Addr), CxOk gu G L2.E0 k (X.blk s H scope (compEnvC scope cl C X.env) fp) → STs G O L2.E0 (X.blk s H scope (compEnvC scope cl C X.env) fp) ifs mc)
    (he : ∀ (s : Shared) (H : Hp) (C : Addr) (cl : List (Str × Addr)) (fp : List Addr), CxOk gu G L2.E0 k (X.blk s H scope (compEnvC scope cl C X.env) fp) → SE G O L2.E0 (X.blk s H scope (compEnvC scope cl C X.env) fp) elt me)
    (hs : ∀ x, foldedSetIterable iter X.env x = pure x := by intro _; rfl) : SS G O E X (.Assign [.Name y py] (.ListComp elt [⟨tg, iter, ifs, 0⟩] scope pos) spos) (sSet iy (mComp vs mi g mc me)) := by
  refine PS.imp (ps_setLc cx.calm cx.nd hy hyl (sw_true hkd hyl hln hsc) hi ok (fun s H C cl fp => hg s H C cl fp (cx.blk s H scope _ fp)) (fun s H C cl fp => hc s H C cl fp (cx.blk s H scope _ fp)) (fun s H C cl fp => he s H C cl fp (cx.blk s H scope _ fp)) hs) fun Dn σ H ⟨ρ, T, F, st, w⟩ => ?_
  rw [hvs]
  refine comp_read (Q := fun x H1 => gName iy x σ H1 Dn.nx) nd hw (tE_s st w fun r ρ1 v H1 F1 rv st1 w1 => ?_)
  exact sset_end w1 st1
end
end PP

set_option Elab.async false
set_option linter.all false
set_option maxRecDepth 100000
/-! Pure python, 8: operations on things keep their rules. -/
namespace PP
open PySem PySem.Spec PyProof.Rows L2

section
variable {G : Gx} {O : List V} {E : XK} {k : Nat} {X : Cx} {H : Hp} {F : Fz} {L : List Cell} {Q : VK}
/-! ### ends -/
theorem made_int {i : Int} (g : Good G H F L) (m : Made G L (shI i) Q) : Q (.int i) H := m (.int i) H F (g.rep (x := (.int i, .sh, .int i)) rfl (.int i))
theorem made_bl {i : Bool} (g : Good G H F L) (m : Made G L (shB i) Q) : Q (.bl i) H := m (.bl i) H F (g.rep (x := (.bl i, .sh, .bl i)) rfl (.bl i))
theorem made_str {i : Str} (g : Good G H F L) (m : Made G L (sh (.str i)) Q) : Q (.str i) H := m (.str i) H F (g.rep (x := (.str i, .sh, .str i)) rfl (.str i))
theorem made_rep {v : V} {d : D} (g : Good G H F L) (r : Rep G F v d) (m : Made G L (sh d) Q) : Q v H := m v H F (g.rep (x := (v, .sh, d)) rfl r)
theorem made_lst {vs : List V} {ds : List D} {p : Addr} (g : Good G H F L) (r : Reps G F vs ds) (hp : H p = none) (m : Made G L (some (.ow, .lst ds)) Q) : Q (.ref p) (upd H p (.lst vs)) :=
  m (.ref p) _ F (g.new hp ⟨vs, upd_same, r⟩ rfl)
theorem made_tup {vs : List V} {ds : List D} {p : Addr} (g : Good G H F L) (r : Reps G F vs ds) (hp : H p = none) (m : Made G L (sh (.tup ds)) Q) : Q (.ref p) (upd H p (.tup vs)) := by
  obtain ⟨F', _, g'⟩ := g.newT hp r
  exact m (.ref p) _ F' g'
theorem Reps.app {vs us : List V} {ds es : List D} (h : Reps G F vs ds) (h' : Reps G F us es) : Reps G F (vs ++ us) (ds ++ es) := by
  induction h with
  | nil => exact h'
  | cons r t ih => exact .cons r ih
theorem Reps.drop {vs : List V} {ds : List D} (n : Nat) (h : Reps G F vs ds) : Reps G F (vs.drop n) (ds.drop n) := by
  induction n generalizing vs ds with
  | zero => exact h
  | succ n ih =>
    cases h with
    | nil => exact .nil
    | cons r t => exact ih t
theorem Reps.take {vs : List V} {ds : List D} (n : Nat) (h : Reps G F vs ds) : Reps G F (vs.take n) (ds.take n) := by
  induction n generalizing vs ds with
  | zero => exact .nil
  | succ n ih =>
    cases h with
    | nil => exact .nil
    | cons r t => exact .cons r (ih t)
theorem Reps.set {vs : List V} {ds : List D} {v : V} {d : D} (i : Nat) (h : Reps G F vs ds) (r : Rep G F v d) : Reps G F (vs.set i v) (ds.set i d) := by
  induction i generalizing vs ds with
  | zero =>
    cases h with
    | nil => exact .nil
    | cons _ t => exact .cons r t
  | succ n ih =>
    cases h with
    | nil => exact .nil
    | cons r' t => exact .cons r' (ih t)
theorem Reps.cut {vs : List V} {ds : List D} (lo hi : Option Int) (h : Reps G F vs ds) : Reps G F (cutV vs lo hi) (cutD ds lo hi) := by
  unfold cutV cutD
  rw [h.length]
  exact (h.drop _).take _
theorem Reps.at {vs : List V} {ds : List D} {i : Int} {d : D} (h : Reps G F vs ds) (e : atD ds i = some d) : ∃ v, atI vs i = some v ∧ Rep G F v d := by
  unfold atD atI at e
  cases q : ixN ds.length i with
  | none => rw [q] at e; cases e
  | some j =>
    rw [q] at e
    obtain ⟨v, h1, h2⟩ := h.get (i := j) e
    refine ⟨v, ?_, h2⟩
    unfold atI
    rw [h.length, q]
    exact h1

/-! ### numbers -/
theorem ok_iD2 {C : Int → Int → Prop} {c : Int → Int → Bool} {g : Int → Int → Int} (hc : ∀ i j, c i j = true → C i j) : Ok2 G (rI C fun i j => .int (g i j)) (iD2 c g) := by
  intro H F L v u x y Q gd hv hu m
  unfold iD2 at m
  split at m
  · rename_i i j
    split at m
    · rename_i h
      exact ⟨i, j, gd.vw hv, gd.vw hu, hc i j h, made_int gd m⟩
    · exact m.elim
  · exact m.elim
theorem ok_iD0 {g : Int → Int → Int} : Ok2 G (rI0 fun i j => .int (g i j)) (iD2 (fun _ _ => true) g) := by
  intro H F L v u x y Q gd hv hu m
  unfold iD2 at m
  split at m
  · rename_i i j
    rw [if_pos rfl] at m
    exact ⟨i, j, gd.vw hv, gd.vw hu, made_int gd m⟩
  · exact m.elim
theorem ok_bD2 {g : Int → Int → Bool} : Ok2 G (rI0 fun i j => .bl (g i j)) (bD2 g) := by
  intro H F L v u x y Q gd hv hu m
  unfold bD2 at m
  split at m
  · exact ⟨_, _, gd.vw hv, gd.vw hu, made_bl gd m⟩
  · exact m.elim
variable {a b : Expr} {pos : Pos} {ma mb : M R}
theorem SE.sub (ha : SE G O E X a ma) (hb : SE G O E X b mb) : SE G O E X (.BinOp a .Sub b pos) (mOp2 subI ma mb) := SE.op op_sub ok_iD0 ha hb
theorem SE.mul (ha : SE G O E X a ma) (hb : SE G O E X b mb) : SE G O E X (.BinOp a .Mult b pos) (mOp2 mulI ma mb) := SE.op op_mulW (ok_iD2 fun _ _ h => (of_decide_eq_true h : _ < _)) ha hb
theorem SE.fdiv (ha : SE G O E X a ma) (hb : SE G O E X b mb) : SE G O E X (.BinOp a .FloorDiv b pos) (mOp2 fdivI ma mb) := SE.op op_fdivW (ok_iD2 fun _ _ h => by
  simp only [Bool.and_eq_true, decide_eq_true_eq] at h; exact h) ha hb
theorem SE.mod (ha : SE G O E X a ma) (hb : SE G O E X b mb) : SE G O E X (.BinOp a .Mod b pos) (mOp2 modI ma mb) := SE.op op_mod (ok_iD2 fun _ _ h => (of_decide_eq_true h : _ < _)) ha hb
theorem SE.pow (ha : SE G O E X a ma) (hb : SE G O E X b mb) : SE G O E X (.BinOp a .Pow b pos) (mOp2 powI ma mb) := SE.op op_pow (ok_iD2 fun _ _ h => by
  simp only [Bool.and_eq_true, decide_eq_true_eq] at h; exact ⟨h.1.1, h.1.2, h.2⟩) ha hb
theorem SE.neg (ha : SE G O E X a ma) : SE G O E X (.UnaryOp .USub a pos) (mOp1 negI ma) := SE.un un_neg (fun H F L v x Q gd hv m => by
  unfold negI at m
  split at m
  · exact ⟨_, gd.vw hv, made_int gd m⟩
  · exact m.elim) ha
/-! ### + -/
def addD (x y : D) : Option (Fl × D) := orE (addI x y) (orE (addS x y) (orE (addL x y) (addT x y)))
theorem ok_addS : Ok2 G (fun x y H Q => ∃ i j, x = .str i ∧ y = .str j ∧ i.length + j.length ≤ sizeLine ∧ Q (.str (i ++ j)) H) addS := by
  intro H F L v u x y Q gd hv hu m
  unfold addS at m
  split at m
  · split at m
    · rename_i h
      exact ⟨_, _, gd.vw hv, gd.vw hu, h, made_str gd m⟩
    · exact m.elim
  · exact m.elim
theorem ok_addL : Ok2 G rCat addL := by
  intro H F L v u x y Q gd hv hu m
  unfold addL at m
  split at m
  · split at m
    · rename_i h
      obtain ⟨a, vs, e, hs, rp⟩ := gd.vw hv
      obtain ⟨b, us, e2, hs2, rp2⟩ := gd.vw hu
      exact ⟨a, b, vs, us, e, e2, hs, hs2, by rw [rp.length, rp2.length]; exact h, fun p hp => made_lst gd (rp.app rp2) hp m⟩
    · exact m.elim
  · exact m.elim
theorem reps_nil {vs : List V} {ds : List D} (r : Reps G F vs ds) : vs = [] ↔ ds = [] := by
  cases r with
  | nil => exact ⟨fun _ => rfl, fun _ => rfl⟩
  | cons _ _ => exact ⟨fun h => (nomatch h), fun h => (nomatch h)⟩
theorem ok_addT : Ok2 G (rCatA G.K) addT := by
  intro H F L v u x y Q gd hv hu m
  unfold addT at m
  split at m
  · rename_i xs ys
    split at m
    · rename_i h
      obtain ⟨a, vs, e, hs, rp⟩ := View.tup (gd.vw hv)
      obtain ⟨b, us, e2, hs2, rp2⟩ := View.tup (gd.vw hu)
      refine ⟨a, b, vs, us, e, e2, hs, hs2, by rw [rp.length, rp2.length]; exact h, fun z => ?_, fun _ z => ?_, fun _ _ p hp => made_tup gd (rp.app rp2) hp m⟩
      · have : xs = [] := (reps_nil rp).mp z
        subst this
        rw [← e2]
        exact made_rep gd (gd.rpT hu) m
      · have : ys = [] := (reps_nil rp2).mp z
        subst this
        rw [← e]
        rw [List.append_nil] at m
        exact made_rep gd (gd.rpT hv) m
    · exact m.elim
  · exact m.elim
theorem SE.add (hK : X.K = G.K) (ha : SE G O E X a ma) (hb : SE G O E X b mb) : SE G O E X (.BinOp a .Add b pos) (mOp2 addD ma mb) :=
  SE.op (op_add.or (op_add_str.or (op_cat.or (by have := op_catA (X := X); rw [hK] at this; exact this)))) (ok_iD0.or (ok_addS.or (ok_addL.or ok_addT))) ha hb

/-! ### comparisons -/
theorem SE.lt (ha : SE G O E X a ma) (hb : SE G O E X b mb) : SE G O E X (.Compare a [.Lt] [b] pos) (mOp2 ltI ma mb) := SE.cmp op_lt ok_bD2 ha hb (nomark _)
theorem SE.le (ha : SE G O E X a ma) (hb : SE G O E X b mb) : SE G O E X (.Compare a [.LtE] [b] pos) (mOp2 leI ma mb) := SE.cmp op_le ok_bD2 ha hb (nomark _)
theorem SE.gt (ha : SE G O E X a ma) (hb : SE G O E X b mb) : SE G O E X (.Compare a [.Gt] [b] pos) (mOp2 gtI ma mb) := SE.cmp op_gt ok_bD2 ha hb (nomark _)
theorem SE.ge (ha : SE G O E X a ma) (hb : SE G O E X b mb) : SE G O E X (.Compare a [.GtE] [b] pos) (mOp2 geI ma mb) := SE.cmp op_ge ok_bD2 ha hb (nomark _)
theorem ST.lt (ha : SE G O E X a ma) (hb : SE G O E X b mb) : ST G O E X (.Compare a [.Lt] [b] pos) (mTst (mOp2 ltI ma mb)) := ST.cmp op_lt ok_bD2 ha hb (nomark _)
theorem ST.le (ha : SE G O E X a ma) (hb : SE G O E X b mb) : ST G O E X (.Compare a [.LtE] [b] pos) (mTst (mOp2 leI ma mb)) := ST.cmp op_le ok_bD2 ha hb (nomark _)
theorem ST.gt (ha : SE G O E X a ma) (hb : SE G O E X b mb) : ST G O E X (.Compare a [.Gt] [b] pos) (mTst (mOp2 gtI ma mb)) := ST.cmp op_gt ok_bD2 ha hb (nomark _)
theorem ST.ge (ha : SE G O E X a ma) (hb : SE G O E X b mb) : ST G O E X (.Compare a [.GtE] [b] pos) (mTst (mOp2 geI ma mb)) := ST.cmp op_ge ok_bD2 ha hb (nomark _)
mutual
theorem dp_of {H : Hp} {F : Fz} {L : List Cell} (g : Good G H F L) : ∀ (d : D) (v : V) (p : PyData), View G H F v d → toP d = some p → Dp G.K H v p
  | .non, v, p, h, e => by
    simp only [toP] at e
    cases e
    rw [show v = .non from h]
    exact .non
  | .bl b, v, p, h, e => by
    simp only [toP] at e
    cases e
    rw [show v = .bl b from h]
    exact .bl b
  | .int b, v, p, h, e => by
    simp only [toP] at e
    cases e
    rw [show v = .int b from h]
    exact .int b
  | .str b, v, p, h, e => by
    simp only [toP] at e
    cases e
    rw [show v = .str b from h]
    exact .str b
  | .tup ds, v, p, h, e => by
    simp only [toP] at e
    cases q : toPs ds with
    | none => rw [q] at e; cases e
    | some ps =>
      rw [q] at e
      cases e
      obtain ⟨a, vs, ev, hs, rp⟩ := View.tup h
      rw [ev]
      exact .tup hs (dps_of g ds vs ps rp q)
  | .lst ds, v, p, h, e => by
    simp only [toP] at e
    cases q : toPs ds with
    | none => rw [q] at e; cases e
    | some ps =>
      rw [q] at e
      cases e
      obtain ⟨a, vs, ev, hs, rp⟩ := h
      rw [ev]
      exact .lst (SqL.of hs) (dps_of g ds vs ps rp q)
  | .dK _, v, p, h, e => by simp only [toP] at e; cases e
  | .dT _, v, p, h, e => by simp only [toP] at e; cases e
  | .fn _, v, p, h, e => by simp only [toP] at e; cases e
  | .scr _, v, p, h, e => by simp only [toP] at e; cases e
theorem dps_of {H : Hp} {F : Fz} {L : List Cell} (g : Good G H F L) : ∀ (ds : List D) (vs : List V) (ps : List PyData), Reps G F vs ds → toPs ds = some ps → DpAll G.K H vs ps
  | [], _, ps, r, e => by
    cases r
    simp only [toPs] at e
    cases e
    exact .nil
  | d :: ds, _, ps, r, e => by
    simp only [toPs] at e
    cases q : toP d with
    | none => rw [q] at e; cases e
    | some p =>
      cases q2 : toPs ds with
      | none => rw [q, q2] at e; cases e
      | some qs =>
        rw [q, q2] at e
        cases e
        cases r with
        | cons r t => exact .cons (dp_of g d _ p (g.viewR r) q) (dps_of g ds _ qs t q2)
end
theorem ok_eqD : Ok2 G (rEqD G.K) eqD := by
  intro H F L v u x y Q gd hv hu m
  unfold eqD eqD' at m
  cases q1 : toP x with
  | none => rw [q1] at m; exact m.elim
  | some p =>
    cases q2 : toP y with
    | none => rw [q1, q2] at m; exact m.elim
    | some q =>
      rw [q1, q2] at m
      dsimp only at m
      split at m
      · rename_i h
        rw [Bool.and_eq_true] at h
        exact ⟨p, q, dp_of gd x v p (gd.vw hv) q1, dp_of gd y u q (gd.vw hu) q2, h.1, h.2, made_bl gd m⟩
      · exact m.elim
theorem ok_neD : Ok2 G (rNeD G.K) neD := by
  intro H F L v u x y Q gd hv hu m
  unfold neD eqD' at m
  cases q1 : toP x with
  | none => rw [q1] at m; exact m.elim
  | some p =>
    cases q2 : toP y with
    | none => rw [q1, q2] at m; exact m.elim
    | some q =>
      rw [q1, q2] at m
      dsimp only at m
      split at m
      · rename_i h
        rw [Bool.and_eq_true] at h
        exact ⟨p, q, dp_of gd x v p (gd.vw hv) q1, dp_of gd y u q (gd.vw hu) q2, h.1, h.2, made_bl gd m⟩
      · exact m.elim
theorem opr_eqD (c : CxOk gu G E k X) : OpR X (compareOp .Eq) (rEqD G.K) := by have := op_eqD c.room.units; rw [c.K] at this; exact this
theorem opr_neD (c : CxOk gu G E k X) : OpR X (compareOp .NotEq) (rNeD G.K) := by have := op_neD c.room.units; rw [c.K] at this; exact this
theorem SE.eq (c : CxOk gu G E k X) (ha : SE G O E X a ma) (hb : SE G O E X b mb) : SE G O E X (.Compare a [.Eq] [b] pos) (mOp2 eqD ma mb) := SE.cmp (opr_eqD c) ok_eqD ha hb (nomark _)
theorem SE.ne (c : CxOk gu G E k X) (ha : SE G O E X a ma) (hb : SE G O E X b mb) : SE G O E X (.Compare a [.NotEq] [b] pos) (mOp2 neD ma mb) := SE.cmp (opr_neD c) ok_neD ha hb (nomark _)
theorem ST.eq (c : CxOk gu G E k X) (ha : SE G O E X a ma) (hb : SE G O E X b mb) : ST G O E X (.Compare a [.Eq] [b] pos) (mTst (mOp2 eqD ma mb)) := ST.cmp (opr_eqD c) ok_eqD ha hb (nomark _)
theorem ST.ne (c : CxOk gu G E k X) (ha : SE G O E X a ma) (hb : SE G O E X b mb) : ST G O E X (.Compare a [.NotEq] [b] pos) (mTst (mOp2 neD ma mb)) := ST.cmp (opr_neD c) ok_neD ha hb (nomark _)
theorem view_non {v : V} {x : D} (h : View G H F v x) : decide (v = .non) = isNonD x := by
  cases x with
  | non => rw [show v = .non from h]; rfl
  | bl b => rw [show v = .bl b from h]; rfl
  | int b => rw [show v = .int b from h]; rfl
  | str b => rw [show v = .str b from h]; rfl
  | tup ds => obtain ⟨a, vs, e, _⟩ := h; rw [e]; rfl
  | lst ds => obtain ⟨a, vs, e, _⟩ := h; rw [e]; rfl
  | dK ds => obtain ⟨a, vs, e, _⟩ := h; rw [e]; rfl
  | dT ds => obtain ⟨a, vs, e, _⟩ := h; rw [e]; rfl
  | fn f => obtain ⟨a, e, _⟩ := h; rw [e]; rfl
  | exo => obtain ⟨a, e⟩ := h; rw [e]; rfl
  | scr f => obtain ⟨a, e, _⟩ := h; rw [e]; rfl
theorem ok_isD : Ok2 G (fun x y H Q => (y = .non ∧ Q (.bl (decide (x = .non))) H) ∨ rIsB x y H Q) isD := by
  intro H F L v u x y Q gd hv hu m
  unfold isD at m
  split at m
  · refine .inl ⟨gd.vw hu, ?_⟩
    rw [view_non (gd.vw hv)]
    exact made_bl gd m
  · split at m
    · exact .inr ⟨_, _, gd.vw hv, gd.vw hu, made_bl gd m⟩
    · exact m.elim
  · exact m.elim
theorem ok_notD : Ok2 G (fun x y H Q => (y = .non ∧ Q (.bl (!decide (x = .non))) H) ∨ rNotB x y H Q) notD := by
  intro H F L v u x y Q gd hv hu m
  unfold notD at m
  split at m
  · refine .inl ⟨gd.vw hu, ?_⟩
    rw [view_non (gd.vw hv)]
    exact made_bl gd m
  · split at m
    · exact .inr ⟨_, _, gd.vw hv, gd.vw hu, made_bl gd m⟩
    · exact m.elim
  · exact m.elim
theorem SE.is (ha : SE G O E X a ma) (hb : SE G O E X b mb) : SE G O E X (.Compare a [.Is] [b] pos) (mOp2 isD ma mb) := SE.cmp (op_isN.or op_isBl) ok_isD ha hb (nomark _)
theorem SE.isn (ha : SE G O E X a ma) (hb : SE G O E X b mb) : SE G O E X (.Compare a [.IsNot] [b] pos) (mOp2 notD ma mb) := SE.cmp (op_notN.or op_notBl) ok_notD ha hb (nomark _)
theorem ST.is (ha : SE G O E X a ma) (hb : SE G O E X b mb) : ST G O E X (.Compare a [.Is] [b] pos) (mTst (mOp2 isD ma mb)) := ST.cmp (op_isN.or op_isBl) ok_isD ha hb (nomark _)
theorem ST.isn (ha : SE G O E X a ma) (hb : SE G O E X b mb) : ST G O E X (.Compare a [.IsNot] [b] pos) (mTst (mOp2 notD ma mb)) := ST.cmp (op_notN.or op_notBl) ok_notD ha hb (nomark _)
end
end PP

set_option Elab.async false
set_option linter.all false
set_option maxRecDepth 100000
/-! Pure python, 9: chains, in, places, parts, built-ins. -/
namespace PP
open PySem PySem.Spec PyProof.Rows L2

section
variable {G : Gx} {O : List V} {E : XK} {k : Nat} {X : Cx} {H : Hp} {F : Fz} {L : List Cell} {Q : VK} {a b c : Expr} {pos : Pos} {ma mb mc : M R}
theorem CxOk.u1 (c : CxOk gu G E k X) : X.A.units + 1 < cLine := hu_of c.room
theorem CxOk.u65 (c : CxOk gu G E k X) : X.A.units + 65 < cLine := by have := c.room.un; omega
/-! ### a op b op' c -/
def OkB (G : Gx) (r : R2) (f : D → D → Option Bool) : Prop := ∀ H F L v u x y Q k, Good G H F L → Among L v x → Among L u y → f x y = some k → Q (.bl k) H → r v u H Q
theorem chain_read {r r' : R2} {f g : D → D → Option Bool} (hr : OkB G r f) (hr' : OkB G r' g) {σ : L2.St} {H : Hp} {Q : VK} (h : tE G O E (mChain f g ma mb mc) σ H Q) : tChain r r' (tE G O E ma) (tE G O E mb) (tE G O E mc) σ H Q := by
  obtain ⟨ρ, T, F, st, w⟩ := h
  unfold mChain at w
  refine tE_bnd st w fun ra ρ1 v H1 F1 rv st1 w1 => ?_
  refine tE_bnd (T := temp ra v ++ T) st1 (w1.ext fun _ _ x => x) fun rb ρ2 u H2 F2 ru st2 w2 => ?_
  have w2 : Wp G O E σ (temp ra v ++ T) (match deref ρ2 ra, deref ρ2 rb with
    | some x, some y => match f x y with
      | some true => (bnd mc fun rc ρ' => match deref ρ' rb, deref ρ' rc with
        | some y, some z => match g y z with
          | some k => .ok (.v .sh (.bl k)) ρ'
          | none => .bad
        | _, _ => .bad) ρ2
      | some false => .ok (.v .sh (.bl false)) ρ2
      | none => .bad
    | _, _ => .bad) fun r ρ' => ∀ v H' F', RV σ r v → St G O ρ' σ (temp r v ++ T) H' F' → Q v H' := w2
  cases ex : deref ρ2 ra with
  | none => rw [ex] at w2; exact w2.elim
  | some x =>
    cases ey : deref ρ2 rb with
    | none => rw [ex, ey] at w2; exact w2.elim
    | some y =>
      rw [ex, ey] at w2
      dsimp only at w2
      have mx := st2.mem rv (fun z hz => List.mem_append_right _ (mem_temp z hz)) ex
      have my := st2.mem ru mem_temp ey
      cases ef : f x y with
      | none => rw [ef] at w2; exact w2.elim
      | some k =>
        rw [ef] at w2
        refine hr H2 F2 _ v u x y _ k st2.gd mx my ef ⟨k, rfl, ?_⟩
        cases k with
        | false =>
          rw [if_neg Bool.false_ne_true]
          refine w2 (.bl false) H2 F2 trivial (St.push st2.sl ?_)
          exact (st2.gd.rep (x := (.bl false, .sh, .bl false)) rfl (.bl false)).sub ((List.Sublist.append_left ((List.sublist_append_right _ _).trans (List.sublist_append_right _ _)) _).cons_cons _)
        | true =>
          rw [if_pos rfl]
          refine tE_bnd (T := temp rb u ++ (temp ra v ++ T)) st2 (w2.ext fun _ _ x => x) fun rc ρ3 t H3 F3 rt st3 w3 => ?_
          have w3 : Wp G O E σ (temp rb u ++ (temp ra v ++ T)) (match deref ρ3 rb, deref ρ3 rc with
            | some y, some z => match g y z with
              | some k => .ok (.v .sh (.bl k)) ρ3
              | none => .bad
            | _, _ => .bad) fun r ρ' => ∀ v H' F', RV σ r v → St G O ρ' σ (temp r v ++ T) H' F' → Q v H' := w3
          cases ey : deref ρ3 rb with
          | none => rw [ey] at w3; exact w3.elim
          | some y =>
            cases ez : deref ρ3 rc with
            | none => rw [ey, ez] at w3; exact w3.elim
            | some z =>
              rw [ey, ez] at w3
              dsimp only at w3
              cases eg : g y z with
              | none => rw [eg] at w3; exact w3.elim
              | some k =>
                rw [eg] at w3
                refine hr' H3 F3 _ u t y z _ k st3.gd (st3.mem ru (fun z hz => List.mem_append_right _ (mem_temp z hz)) ey) (st3.mem rt mem_temp ez) eg ?_
                refine w3 (.bl k) H3 F3 trivial (St.push st3.sl ?_)
                exact (st3.gd.rep (x := (.bl k, .sh, .bl k)) rfl (.bl k)).sub ((List.Sublist.append_left (((List.sublist_append_right _ _).trans (List.sublist_append_right _ _)).trans (List.sublist_append_right _ _)) _).cons_cons _)
def cB (g : Int → Int → Bool) (x y : D) : Option Bool := match x, y with
  | .int i, .int j => some (g i j)
  | _, _ => none
theorem SE.chain {op op' : CmpOp} {r r' : R2} {f g : D → D → Option Bool} (ho : OpR X (compareOp op) r) (ho' : OpR X (compareOp op') r') (hr : OkB G r f) (hr' : OkB G r' g) (ha : SE G O E X a ma) (hb : SE G O E X b mb) (hc : SE G O E X c mc)
    (hm : lastMarks [op, op'] [b, c] = false := by with_unfolding_all rfl) : SE G O E X (.Compare a [op, op'] [b, c] pos) (mChain f g ma mb mc) := 
  PE.imp (pe_chain ho ho' ha hb hc hm) fun σ H Q h => chain_read hr hr' h
theorem ST.chain {op op' : CmpOp} {r r' : R2} {f g : D → D → Option Bool} (ho : OpR X (compareOp op) r) (ho' : OpR X (compareOp op') r') (hr : OkB G r f) (hr' : OkB G r' g) (ha : SE G O E X a ma) (hb : SE G O E X b mb) (hc : SE G O E X c mc)
    (hm : lastMarks [op, op'] [b, c] = false := by with_unfolding_all rfl) : ST G O E X (.Compare a [op, op'] [b, c] pos) (mTst (mChain f g ma mb mc)) :=  by
  refine PT.imp (pt_chain ho ho' ha hb hc hm) fun σ H Q ⟨ρ, T, F, st, w⟩ => ?_
  have h : tE G O E (mChain f g ma mb mc) σ H fun x H' => ∃ k, x = .bl k ∧ Q k H' := by
    unfold mTst at w
    refine tE_bnd st w fun r ρ1 v H1 F1 rv st1 w1 => ?_
    split at w1
    · rename_i b e1
      exact ⟨b, st1.view rv mem_temp e1, w1 H1 F1 st1.drop⟩
    · exact w1.elim
  exact chain_read hr hr' h
theorem okB_int {g : Int → Int → Bool} : OkB G (rI0 fun i j => .bl (g i j)) (cB g) := by
  intro H F L v u x y Q k gd hv hu hf q
  unfold cB at hf
  split at hf
  · cases hf; exact ⟨_, _, gd.vw hv, gd.vw hu, q⟩
  · cases hf
abbrev cLt := cB fun i j => decide (i < j)
abbrev cLe := cB fun i j => decide (i ≤ j)
abbrev cGt := cB fun i j => decide (j < i)
abbrev cGe := cB fun i j => decide (j ≤ i)
theorem SE.leLe (ha : SE G O E X a ma) (hb : SE G O E X b mb) (hc : SE G O E X c mc) (hm : lastMarks [.LtE, .LtE] [b, c] = false := by with_unfolding_all rfl) : SE G O E X (.Compare a [.LtE, .LtE] [b, c] pos) (mChain cLe cLe ma mb mc) := SE.chain op_le op_le okB_int okB_int ha hb hc hm
theorem ST.leLe (ha : SE G O E X a ma) (hb : SE G O E X b mb) (hc : SE G O E X c mc) (hm : lastMarks [.LtE, .LtE] [b, c] = false := by with_unfolding_all rfl) : ST G O E X (.Compare a [.LtE, .LtE] [b, c] pos) (mTst (mChain cLe cLe ma mb mc)) := ST.chain op_le op_le okB_int okB_int ha hb hc hm
theorem SE.leLt (ha : SE G O E X a ma) (hb : SE G O E X b mb) (hc : SE G O E X c mc) (hm : lastMarks [.LtE, .Lt] [b, c] = false := by with_unfolding_all rfl) : SE G O E X (.Compare a [.LtE, .Lt] [b, c] pos) (mChain cLe cLt ma mb mc) := SE.chain op_le op_lt okB_int okB_int ha hb hc hm
theorem ST.leLt (ha : SE G O E X a ma) (hb : SE G O E X b mb) (hc : SE G O E X c mc) (hm : lastMarks [.LtE, .Lt] [b, c] = false := by with_unfolding_all rfl) : ST G O E X (.Compare a [.LtE, .Lt] [b, c] pos) (mTst (mChain cLe cLt ma mb mc)) := ST.chain op_le op_lt okB_int okB_int ha hb hc hm
theorem SE.ltLe (ha : SE G O E X a ma) (hb : SE G O E X b mb) (hc : SE G O E X c mc) (hm : lastMarks [.Lt, .LtE] [b, c] = false := by with_unfolding_all rfl) : SE G O E X (.Compare a [.Lt, .LtE] [b, c] pos) (mChain cLt cLe ma mb mc) := SE.chain op_lt op_le okB_int okB_int ha hb hc hm
theorem ST.ltLe (ha : SE G O E X a ma) (hb : SE G O E X b mb) (hc : SE G O E X c mc) (hm : lastMarks [.Lt, .LtE] [b, c] = false := by with_unfolding_all rfl) : ST G O E X (.Compare a [.Lt, .LtE] [b, c] pos) (mTst (mChain cLt cLe ma mb mc)) := ST.chain op_lt op_le okB_int okB_int ha hb hc hm

/-! ### in, not in -/
theorem keyOf_view {v : V} {d : D} {q : Key} (h : View G H F v d) (e : keyOf d = some q) : v = kV q := by
  cases d with
  | int i => cases e; exact h
  | str i => cases e; exact h
  | _ => cases e
theorem keysOf_reps : ∀ {vs : List V} {ds : List D} {qs : List Key}, Reps G F vs ds → keysOf ds = some qs → (∀ v d, Rep G F v d → View G H F v d) → vs = qs.map kV
  | _, [], qs, r, e, _ => by
    cases r
    cases e
    rfl
  | _, d :: ds, qs, r, e, hv => by
    cases r with
    | cons r t =>
      simp only [keysOf] at e
      cases q1 : keyOf d with
      | none => rw [q1] at e; cases e
      | some q =>
        cases q2 : keysOf ds with
        | none => rw [q1, q2] at e; cases e
        | some qs' =>
          rw [q1, q2] at e
          cases e
          rw [keyOf_view (hv _ _ r) q1, keysOf_reps t q2 hv]
          rfl
theorem repK_val {κ : Type} [DecidableEq κ] : ∀ {vs : List (κ × V)} {ds : List (κ × D)} {q : κ}, RepK G F vs ds → (valD ds q = none ∧ valV vs q = none) ∨ ∃ d v, valD ds q = some d ∧ valV vs q = some v ∧ Rep G F v d
  | _, _, q, .nil => .inl ⟨rfl, rfl⟩
  | p :: vs, p' :: ds, q, .cons r t => by
    by_cases e : p.1 = q
    · refine .inr ⟨p'.2, p.2, ?_, valV_pos e, r.2⟩
      unfold valD
      rw [List.find?_cons_of_pos (by simpa using r.1.symm.trans e)]
      rfl
    · have e1 : valD (p' :: ds) q = valD ds q := by
        unfold valD
        rw [List.find?_cons_of_neg (by simpa using fun z => e (r.1.trans z))]
      rw [e1, valV_neg e]
      exact repK_val t
theorem dget_of {v u : V} {x y : D} {o : Option D} (gd : Good G H F L) (hv : View G H F v x) (hu : View G H F u y) (e : getD' x y = some o) :
    ∃ a w, v = .ref a ∧ DGet H a u w ∧ ((o = none ∧ w = none) ∨ ∃ d z, o = some d ∧ w = some z ∧ Rep G F z d) := by
  unfold getD' at e
  split at e
  · rename_i kvs
    cases q : keyOf y with
    | none => rw [q] at e; cases e
    | some q' =>
      rw [q] at e
      cases e
      obtain ⟨a, vs, ev, hs, rp⟩ := hv
      refine ⟨a, valV vs q', ev, ?_, ?_⟩
      · rw [keyOf_view hu q]; exact DGet.k hs
      · rcases repK_val (q := q') rp with ⟨z1, z2⟩ | ⟨d, z, z1, z2, z3⟩
        · exact .inl ⟨z1, z2⟩
        · exact .inr ⟨d, z, z1, z2, z3⟩
  · rename_i kvs ks
    cases q : keysOf ks with
    | none => rw [q] at e; cases e
    | some q' =>
      rw [q] at e
      cases e
      obtain ⟨a, vs, ev, hs, rp⟩ := hv
      obtain ⟨b, us, eu, hb, rq⟩ := hu
      refine ⟨a, valV vs q', ev, ?_, ?_⟩
      · rw [eu]
        exact DGet.t hs (by rw [hb, keysOf_reps rq q fun v d r => gd.viewR r])
      · rcases repK_val (q := q') rp with ⟨z1, z2⟩ | ⟨d, z, z1, z2, z3⟩
        · exact .inl ⟨z1, z2⟩
        · exact .inr ⟨d, z, z1, z2, z3⟩
  · cases e
def rDIn : R2 := fun y x H Q => ∃ a o, x = .ref a ∧ DGet H a y o ∧ Q (.bl o.isSome) H
def rDNin : R2 := fun y x H Q => ∃ a o, x = .ref a ∧ DGet H a y o ∧ Q (.bl (!o.isSome)) H
theorem op_dIn (hu : X.A.units + 1 < cLine) : OpR X (compareOp .In) rDIn := by
  intro pins s σ H y x u v Q I ry rx h
  obtain ⟨a, o, rfl, g, q⟩ := h
  cases (show v = Value.ref a from rx)
  exact d_in hu I g ry fun s3 I3 => ⟨.bl o.isSome, H, I3, rfl, q⟩
theorem op_dNin (hu : X.A.units + 1 < cLine) : OpR X (compareOp .NotIn) rDNin := by
  intro pins s σ H y x u v Q I ry rx h
  obtain ⟨a, o, rfl, g, q⟩ := h
  cases (show v = Value.ref a from rx)
  exact d_notIn hu I g ry fun s3 I3 => ⟨.bl (!o.isSome), H, I3, rfl, q⟩
def rInT (K : PySem.W.Frag) : R2 := fun x y H Q => ∃ d ds, Dp K H x d ∧ Dp K H y (.tuple ds) ∧ SeqAt.shaped d = true ∧ SeqAt.shaped (.tuple ds) = true ∧ Q (.bl (ds.any fun z => PyData.eqv z d)) H
def rNinT (K : PySem.W.Frag) : R2 := fun x y H Q => ∃ d ds, Dp K H x d ∧ Dp K H y (.tuple ds) ∧ SeqAt.shaped d = true ∧ SeqAt.shaped (.tuple ds) = true ∧ Q (.bl (!ds.any fun z => PyData.eqv z d)) H
theorem op_inT (hu : X.A.units + 65 < cLine) : OpR X (compareOp .In) (rInT X.K) := by
  intro pins s σ H x y v u Q I rx ry h
  obtain ⟨d, ds, hd, he, sd, se, q⟩ := h
  obtain ⟨as, r1⟩ := Dp.reads I d x v hd rx
  obtain ⟨bs, r2⟩ := Dp.reads I (.tuple ds) y u he ry
  exact SeqAt.in_tuple_reads r2 r1 (SeqAt.canLay_of_shaped se) (SeqAt.canLay_of_shaped sd) (room_in_shaped sd hu) ⟨.bl _, H, I, rfl, q⟩
theorem op_ninT (hu : X.A.units + 65 < cLine) : OpR X (compareOp .NotIn) (rNinT X.K) := by
  intro pins s σ H x y v u Q I rx ry h
  obtain ⟨d, ds, hd, he, sd, se, q⟩ := h
  obtain ⟨as, r1⟩ := Dp.reads I d x v hd rx
  obtain ⟨bs, r2⟩ := Dp.reads I (.tuple ds) y u he ry
  exact SeqAt.notIn_tuple_reads r2 r1 (SeqAt.canLay_of_shaped se) (SeqAt.canLay_of_shaped sd) (room_in_shaped sd hu) ⟨.bl _, H, I, rfl, q⟩
def rInAll (K : PySem.W.Frag) : R2 := fun x y H Q => rDIn x y H Q ∨ (∃ i j, x = .str i ∧ y = .str j ∧ Q (.bl (!(Builtin.Str.occurrences j i 0 j.length 1).isEmpty)) H) ∨ rInD K x y H Q ∨ rInT K x y H Q
def rNinAll (K : PySem.W.Frag) : R2 := fun x y H Q => rDNin x y H Q ∨ (∃ i j, x = .str i ∧ y = .str j ∧ Q (.bl (!(!(Builtin.Str.occurrences j i 0 j.length 1).isEmpty))) H) ∨ rNotInD K x y H Q ∨ rNinT K x y H Q
theorem opr_in (c : CxOk gu G E k X) : OpR X (compareOp .In) (rInAll G.K) := by
  have h := (op_dIn c.u1).or (op_in_str.or ((op_inD c.u65).or (op_inT c.u65)))
  rw [c.K] at h
  exact h
theorem opr_nin (c : CxOk gu G E k X) : OpR X (compareOp .NotIn) (rNinAll G.K) := by
  have h := (op_dNin c.u1).or (op_notin_str.or ((op_notInD c.u65).or (op_ninT c.u65)))
  rw [c.K] at h
  exact h
theorem inSeq_of {v u : V} {x y : D} {b : Bool} (gd : Good G H F L) (hv : View G H F v x) (hu : View G H F u y) (e : inSeq x y = some b) :
    (∃ p ps, Dp G.K H v p ∧ Dp G.K H u (.list ps) ∧ SeqAt.shaped p = true ∧ SeqAt.shaped (.list ps) = true ∧ b = ps.any fun z => PyData.eqv z p) ∨
    (∃ p ps, Dp G.K H v p ∧ Dp G.K H u (.tuple ps) ∧ SeqAt.shaped p = true ∧ SeqAt.shaped (.tuple ps) = true ∧ b = ps.any fun z => PyData.eqv z p) := by
  unfold inSeq at e
  cases y with
  | lst ds =>
    cases q1 : toP x with
    | none => rw [q1] at e; cases e
    | some p =>
      cases q2 : toPs ds with
      | none => rw [q1] at e; simp only [seqOf, Option.bind_some, q2] at e; cases e
      | some ps =>
        rw [q1] at e
        simp only [seqOf, Option.bind_some, q2] at e
        split at e
        · rename_i h
          rw [Bool.and_eq_true] at h
          cases e
          exact .inl ⟨p, ps, dp_of gd x v p hv q1, dp_of gd (.lst ds) u (.list ps) hu (by simp only [toP, q2]), h.1, h.2, rfl⟩
        · cases e
  | tup ds =>
    cases q1 : toP x with
    | none => rw [q1] at e; cases e
    | some p =>
      cases q2 : toPs ds with
      | none => rw [q1] at e; simp only [seqOf, Option.bind_some, q2] at e; cases e
      | some ps =>
        rw [q1] at e
        simp only [seqOf, Option.bind_some, q2] at e
        split at e
        · rename_i h
          rw [Bool.and_eq_true] at h
          cases e
          refine .inr ⟨p, ps, dp_of gd x v p hv q1, dp_of gd (.tup ds) u (.tuple ps) hu (by simp only [toP, q2]), h.1, ?_, rfl⟩
          exact h.2
        · cases e
  | _ => simp [seqOf] at e
theorem in_made {v u : V} {x y : D} {b : Bool} (gd : Good G H F L) (hv : Among L v x) (hu : Among L u y) (e : inD' x y = some b) : (∀ Q : VK, Q (.bl b) H → rInAll G.K v u H Q) ∧ ∀ Q : VK, Q (.bl (!b)) H → rNinAll G.K v u H Q := by
  have seq : inSeq x y = some b → (∀ Q : VK, Q (.bl b) H → rInAll G.K v u H Q) ∧ ∀ Q : VK, Q (.bl (!b)) H → rNinAll G.K v u H Q := fun e => by
    rcases inSeq_of gd (gd.vw hv) (gd.vw hu) e with ⟨p, ps, h1, h2, h3, h4, rfl⟩ | ⟨p, ps, h1, h2, h3, h4, rfl⟩
    · exact ⟨fun Q q => .inr (.inr (.inl ⟨p, ps, h1, h2, h3, h4, q⟩)), fun Q q => .inr (.inr (.inl ⟨p, ps, h1, h2, h3, h4, q⟩))⟩
    · exact ⟨fun Q q => .inr (.inr (.inr ⟨p, ps, h1, h2, h3, h4, q⟩)), fun Q q => .inr (.inr (.inr ⟨p, ps, h1, h2, h3, h4, q⟩))⟩
  have dct : inDict x y = some b → (∀ Q : VK, Q (.bl b) H → rInAll G.K v u H Q) ∧ ∀ Q : VK, Q (.bl (!b)) H → rNinAll G.K v u H Q := fun e => by
    unfold inDict at e
    cases q : getD' y x with
    | none => rw [q] at e; cases e
    | some o =>
      rw [q] at e
      cases e
      obtain ⟨a, w, ev, hd, hw⟩ := dget_of gd (gd.vw hu) (gd.vw hv) q
      have es : o.isSome = w.isSome := by
        rcases hw with ⟨z1, z2⟩ | ⟨d, z, z1, z2, _⟩
        · rw [z1, z2]; rfl
        · rw [z1, z2]; rfl
      exact ⟨fun Q q => .inl ⟨a, w, ev, hd, by rw [← es]; exact q⟩, fun Q q => .inl ⟨a, w, ev, hd, by rw [← es]; exact q⟩⟩
  cases y with
  | str z =>
    cases x with
    | str i =>
      have eb : (!(Builtin.Str.occurrences z i 0 z.length 1).isEmpty) = b := Option.some.inj e
      rw [← eb]
      exact ⟨fun Q q => .inr (.inl ⟨_, _, gd.vw hv, gd.vw hu, q⟩), fun Q q => .inr (.inl ⟨_, _, gd.vw hv, gd.vw hu, q⟩)⟩
    | non => cases e
    | bl _ => cases e
    | int _ => cases e
    | tup _ => cases e
    | lst _ => cases e
    | dK _ => cases e
    | dT _ => cases e
    | fn _ => cases e
    | exo => cases e
    | scr _ => cases e
  | dK _ => exact dct e
  | dT _ => exact dct e
  | non => exact seq e
  | bl _ => exact seq e
  | int _ => exact seq e
  | tup _ => exact seq e
  | lst _ => exact seq e
  | fn _ => exact seq e
  | exo => exact seq e
  | scr _ => exact seq e
theorem ok_in : Ok2 G (rInAll G.K) inD := by
  intro H F L v u x y Q gd hv hu m
  unfold inD at m
  cases e : inD' x y with
  | none => rw [e] at m; exact m.elim
  | some b => rw [e] at m; exact (in_made gd hv hu e).1 Q (made_bl gd m)
theorem ok_nin : Ok2 G (rNinAll G.K) ninD := by
  intro H F L v u x y Q gd hv hu m
  unfold ninD at m
  cases e : inD' x y with
  | none => rw [e] at m; exact m.elim
  | some b => rw [e] at m; exact (in_made gd hv hu e).2 Q (made_bl gd m)
theorem SE.in' (c : CxOk gu G E k X) (ha : SE G O E X a ma) (hb : SE G O E X b mb) (hm : behindInMarks .In b = false := by with_unfolding_all rfl) : SE G O E X (.Compare a [.In] [b] pos) (mOp2 inD ma mb) := SE.cmp (opr_in c) ok_in ha hb hm
theorem SE.nin (c : CxOk gu G E k X) (ha : SE G O E X a ma) (hb : SE G O E X b mb) (hm : behindInMarks .NotIn b = false := by with_unfolding_all rfl) : SE G O E X (.Compare a [.NotIn] [b] pos) (mOp2 ninD ma mb) := SE.cmp (opr_nin c) ok_nin ha hb hm
theorem ST.in' (c : CxOk gu G E k X) (ha : SE G O E X a ma) (hb : SE G O E X b mb) (hm : behindInMarks .In b = false := by with_unfolding_all rfl) : ST G O E X (.Compare a [.In] [b] pos) (mTst (mOp2 inD ma mb)) := ST.cmp (opr_in c) ok_in ha hb hm
theorem ST.nin (c : CxOk gu G E k X) (ha : SE G O E X a ma) (hb : SE G O E X b mb) (hm : behindInMarks .NotIn b = false := by with_unfolding_all rfl) : ST G O E X (.Compare a [.NotIn] [b] pos) (mTst (mOp2 ninD ma mb)) := ST.cmp (opr_nin c) ok_nin ha hb hm

/-! ### places -/
theorem ok_ix : Ok2 G (rIx G.K) ixD := by
  intro H F L v u x y Q gd hv hu m
  unfold ixD at m
  split at m
  · rename_i ds i
    cases e : atD ds i with
    | none => rw [e] at m; exact m.elim
    | some d =>
      rw [e] at m
      obtain ⟨a, vs, ev, hs, rp⟩ := gd.vw hv
      obtain ⟨z, h1, h2⟩ := rp.at e
      exact .inl ⟨a, vs, i, z, ev, gd.vw hu, SqL.of hs, h1, made_rep gd h2 m⟩
  · rename_i ds i
    cases e : atD ds i with
    | none => rw [e] at m; exact m.elim
    | some d =>
      rw [e] at m
      obtain ⟨a, vs, ev, hs, rp⟩ := gd.vw hv
      obtain ⟨z, h1, h2⟩ := rp.at e
      exact .inr (.inl ⟨a, vs, i, z, ev, gd.vw hu, SqT.of hs, h1, made_rep gd h2 m⟩)
  · rename_i z i
    split at m
    · rename_i hz
      cases e : atI z.cps.toList i with
      | none => rw [e] at m; exact m.elim
      | some c =>
        rw [e] at m
        exact .inr (.inr ⟨z, i, c, gd.vw hv, gd.vw hu, hz, e, made_str gd m⟩)
    · exact m.elim
  · exact m.elim
theorem SE.at (hK : X.K = G.K) (ha : SE G O E X a ma) (hb : SE G O E X b mb) (hs : PlainIx b := by exact fun _ _ => rfl) : SE G O E X (.Subscript a b pos) (mOp2 ixD ma mb) := by
  have h := ix_seq (X := X)
  rw [hK] at h
  exact SE.ix h ok_ix ha hb hs
/-- d[k] -/
theorem SE.dat (c : CxOk gu G E k X) (ha : SE G O E X a ma) (hb : SE G O E X b mb) (hs : NoSl b) : SE G O E X (.Subscript a b pos) (mOp2 dgetD ma mb) := by
  refine PE.imp (pe_dget c.u1 ha hb hs) fun σ H Q h => bin_read h fun H F L v u x y gd hv hu m => ?_
  unfold dgetD at m
  cases e : getD' x y with
  | none => rw [e] at m; exact m.elim
  | some o =>
    cases o with
    | none => rw [e] at m; exact m.elim
    | some d =>
      rw [e] at m
      obtain ⟨a, w, ev, hd, hw⟩ := dget_of gd (gd.vw hv) (gd.vw hu) e
      rcases hw with ⟨z1, _⟩ | ⟨d', z, z1, z2, z3⟩
      · cases z1
      · cases z1
        exact ⟨a, z, ev, by rw [← z2]; exact hd, made_rep gd z3 m⟩

/-! ### parts -/
theorem part_read {hi : Option (M R)} {e : Option Expr} (h : match hi, e with | none, none => True | some m, some e => SE G O E X e m | _, _ => False) : ∃ t, PO X e t ∧ ∀ {β : Type} {f : Option Int → M β} {ρ : Env} {σ : L2.St} {T : List Cell} {H : Hp} {F : Fz} {ok : β → Env → Prop} {Q : Option Int → Hp → Prop},
    St G O ρ σ T H F → Wp G O E σ T (bnd (mPart hi) f ρ) ok → (∀ o ρ1 H1 F1, St G O ρ1 σ T H1 F1 → Wp G O E σ T (f o ρ1) ok → Q o H1) → t σ H Q := by
  cases hi with
  | none =>
    cases e with
    | none => exact ⟨_, po_none, fun st w q => q none _ _ _ st w⟩
    | some e => exact h.elim
  | some m =>
    cases e with
    | none => exact h.elim
    | some e =>
      refine ⟨_, po_some h, fun {β f ρ σ T H F ok Q} st w q => ?_⟩
      have w' := w.bnd
      unfold mPart at w'
      refine tE_bnd st w' fun r ρ1 v H1 F1 rv st1 w1 => ?_
      split at w1
      · rename_i i e1
        exact ⟨i, intOf_view e1 fun d hd => st1.view rv mem_temp hd, q _ _ _ _ st1.drop w1⟩
      · exact w1.elim
def rSlAll (K : PySem.W.Frag) : V → Option Int → Option Int → Hp → VK → Prop := fun x lo hi H Q => rSlL K x lo hi H Q ∨ rSlA K x lo hi H Q ∨ C8.rSlX x lo hi H Q
theorem cut_map {f : Int → D} {ns : List Int} : True := trivial
theorem reps_ints : ∀ (ns : List Int), Reps G F (ns.map V.int) (ns.map D.int)
  | [] => .nil
  | n :: ns => .cons (.int n) (reps_ints ns)
theorem cutD_whole {ds : List D} {lo hi : Option Int} (h : HT.sIx ds.length 0 lo = 0 ∧ HT.sIx ds.length ds.length hi = ds.length) : cutD ds lo hi = ds := by
  unfold cutD
  rw [h.1, h.2, List.drop_zero, Nat.sub_zero, List.take_length]
theorem ok_slice {v : V} {x : D} {lo hi : Option Int} (gd : Good G H F L) (hv : Among L v x) (m : Made G L (sliceD x lo hi) Q) : rSlAll G.K v lo hi H Q := by
  cases x with
  | lst ds =>
    obtain ⟨a, vs, e, hs, rp⟩ := gd.vw hv
    exact .inl ⟨a, vs, e, SqL.of hs, fun p hp => made_lst gd (rp.cut lo hi) hp m⟩
  | scr ns =>
    obtain ⟨a, e, hs⟩ := gd.vw hv
    exact .inl ⟨a, _, e, hs, fun p hp => made_lst gd ((reps_ints ns).cut lo hi) hp m⟩
  | tup ds =>
    obtain ⟨a, vs, e, hs, rp⟩ := gd.vw hv
    refine .inr (.inl ⟨a, vs, e, SqT.of hs, fun z => ?_, fun _ p hp => made_tup gd (rp.cut lo hi) hp m⟩)
    rw [rp.length] at z
    rw [← e]
    have m : Made G L (sh (.tup (cutD ds lo hi))) Q := m
    rw [cutD_whole z] at m
    exact made_rep gd (gd.rpT hv) m
  | str z =>
    simp only [sliceD] at m
    split at m
    · rename_i hz
      exact .inr (.inr ⟨z, gd.vw hv, hz, made_str gd m⟩)
    · exact m.elim
  | non => exact m.elim
  | bl _ => exact m.elim
  | int _ => exact m.elim
  | dK _ => exact m.elim
  | dT _ => exact m.elim
  | fn _ => exact m.elim
  | exo => exact m.elim
theorem SE.cut {lo hi : Option Expr} {ml mh : Option (M R)} {p2 : Pos} (hK : X.K = G.K) (ha : SE G O E X a ma) (hl : match ml, lo with | none, none => True | some m, some e => SE G O E X e m | _, _ => False) (hh : match mh, hi with | none, none => True | some m, some e => SE G O E X e m | _, _ => False) :
    SE G O E X (.Subscript a (.Slice lo hi none p2) pos) (mSlice ma ml mh) := by
  obtain ⟨tl, h1, h2⟩ := part_read hl
  obtain ⟨th, h3, h4⟩ := part_read hh
  have hr : SlR X (rSlAll G.K) := by
    have h := (sl_list (X := X)).or ((sl_tupA (X := X)).or (C8.sl_txt (X := X)))
    rw [hK] at h
    exact h
  refine SE.slice hr ha h1 h3 fun σ H Q ⟨ρ, T, F, st, w⟩ => ?_
  unfold mSlice at w
  refine tE_bnd st w fun ra ρ1 v H1 F1 rv st1 w1 => ?_
  refine h2 st1 (w1.ext fun _ _ x => x) fun l ρ2 H2 F2 st2 w2 => ?_
  refine h4 st2 w2 fun h ρ3 H3 F3 st3 w3 => ?_
  cases e : deref ρ3 ra with
  | none => rw [e] at w3; exact w3.elim
  | some x =>
    rw [e] at w3
    refine ok_slice st3.gd (st3.mem rv mem_temp e) ?_
    exact Made.sub St.sub (made_of (T' := temp ra v ++ T) (T := T) st3.sl w3)
/-- xs[::-1] -/
theorem SE.rev {k' : Nat} {p1 p2 p3 : Pos} (hK : X.K = G.K) (ha : SE G O E X a ma) : SE G O E X (.Subscript a (.Slice none none (some (.UnaryOp .USub (.Constant (.int 1) k' p1) p2)) p3) pos) (mOp1 revD ma) := by
  refine PE.imp (pe_revL ha) fun σ H Q h => un_read h fun H F L v x gd hv m => ?_
  unfold revD at m
  split at m
  · obtain ⟨a, vs, e, hs, rp⟩ := gd.vw hv
    refine ⟨a, vs, e, by rw [hK]; exact SqL.of hs, fun p hp => made_lst gd ?_ hp m⟩
    clear m hs
    have : ∀ {vs : List V} {ds : List D}, Reps G F vs ds → Reps G F vs.reverse ds.reverse := by
      intro vs ds r
      induction r with
      | nil => exact .nil
      | cons r t ih => rw [List.reverse_cons, List.reverse_cons]; exact PySem.Paired.snoc ih r
    exact this rp
  · exact m.elim
end
end PP

set_option Elab.async false
set_option linter.all false
set_option maxRecDepth 100000
/-! Pure python, 10: built-ins. -/
namespace PP
open PySem PySem.Spec PyProof.Rows L2

theorem leastI_le : ∀ (l : List Int) (m : Int), leastI m l ≤ m ∧ ∀ x ∈ l, leastI m l ≤ x
  | [], m => ⟨Int.le_refl _, fun x h => (nomatch h)⟩
  | y :: l, m => by
    obtain ⟨h1, h2⟩ := leastI_le l (if y < m then y else m)
    have e : (if y < m then y else m) ≤ m ∧ (if y < m then y else m) ≤ y := by split <;> omega
    refine ⟨Int.le_trans h1 e.1, fun x hx => ?_⟩
    rcases List.mem_cons.mp hx with rfl | hx
    · exact Int.le_trans h1 e.2
    · exact h2 x hx
theorem leastI_mem : ∀ (l : List Int) (m : Int), leastI m l = m ∨ leastI m l ∈ l
  | [], m => .inl rfl
  | y :: l, m => by
    show leastI (if y < m then y else m) l = m ∨ leastI (if y < m then y else m) l ∈ y :: l
    rcases leastI_mem l (if y < m then y else m) with h | h
    · by_cases c : y < m
      · rw [if_pos c] at h ⊢; exact .inr (by rw [h]; exact List.mem_cons_self)
      · rw [if_neg c] at h ⊢; exact .inl h
    · exact .inr (List.mem_cons_of_mem _ h)
theorem mostI_le : ∀ (l : List Int) (m : Int), m ≤ mostI m l ∧ ∀ x ∈ l, x ≤ mostI m l
  | [], m => ⟨Int.le_refl _, fun x h => (nomatch h)⟩
  | y :: l, m => by
    obtain ⟨h1, h2⟩ := mostI_le l (if m < y then y else m)
    have e : m ≤ (if m < y then y else m) ∧ y ≤ (if m < y then y else m) := by split <;> omega
    refine ⟨Int.le_trans e.1 h1, fun x hx => ?_⟩
    rcases List.mem_cons.mp hx with rfl | hx
    · exact Int.le_trans e.2 h1
    · exact h2 x hx
theorem mostI_mem : ∀ (l : List Int) (m : Int), mostI m l = m ∨ mostI m l ∈ l
  | [], m => .inl rfl
  | y :: l, m => by
    show mostI (if m < y then y else m) l = m ∨ mostI (if m < y then y else m) l ∈ y :: l
    rcases mostI_mem l (if m < y then y else m) with h | h
    · by_cases c : m < y
      · rw [if_pos c] at h ⊢; exact .inr (by rw [h]; exact List.mem_cons_self)
      · rw [if_neg c] at h ⊢; exact .inl h
    · exact .inr (List.mem_cons_of_mem _ h)
theorem least_of {i : Int} {is : List Int} {m : Int} (h : m ∈ i :: is) (h' : ∀ y ∈ i :: is, m ≤ y) : m = leastI i is := by
  have h1 := leastI_le is i
  have h2 : leastI i is ∈ i :: is := by
    rcases leastI_mem is i with e | e
    · rw [e]; exact List.mem_cons_self
    · exact List.mem_cons_of_mem _ e
  have h3 := h' _ h2
  rcases List.mem_cons.mp h with e | e
  · have := h1.1; omega
  · have := h1.2 m e; omega
theorem most_of {i : Int} {is : List Int} {m : Int} (h : m ∈ i :: is) (h' : ∀ y ∈ i :: is, y ≤ m) : m = mostI i is := by
  have h1 := mostI_le is i
  have h2 : mostI i is ∈ i :: is := by
    rcases mostI_mem is i with e | e
    · rw [e]; exact List.mem_cons_self
    · exact List.mem_cons_of_mem _ e
  have h3 := h' _ h2
  rcases List.mem_cons.mp h with e | e
  · have := h1.1; omega
  · have := h1.2 m e; omega
theorem insI_perm (x : Int) : ∀ l : List Int, (insI x l).Perm (x :: l)
  | [] => List.Perm.refl _
  | y :: l => by
    unfold insI
    split
    · exact List.Perm.refl _
    · exact (List.Perm.cons _ (insI_perm x l)).trans (List.Perm.swap _ _ _)
theorem sortI_perm : ∀ l : List Int, (sortI l).Perm l
  | [] => List.Perm.refl _
  | x :: l => (insI_perm x (sortI l)).trans (List.Perm.cons _ (sortI_perm l))
theorem insI_sorted (x : Int) : ∀ l : List Int, l.Pairwise (· ≤ ·) → (insI x l).Pairwise (· ≤ ·)
  | [], _ => List.pairwise_singleton _ _
  | y :: l, h => by
    unfold insI
    have h' := List.pairwise_cons.mp h
    split
    · rename_i c
      refine List.pairwise_cons.mpr ⟨fun z hz => ?_, h⟩
      rcases List.mem_cons.mp hz with rfl | hz
      · exact c
      · exact Int.le_trans c (h'.1 z hz)
    · rename_i c
      refine List.pairwise_cons.mpr ⟨fun z hz => ?_, insI_sorted x l h'.2⟩
      rcases List.mem_cons.mp ((insI_perm x l).subset hz) with rfl | hz
      · omega
      · exact h'.1 z hz
theorem sortI_sorted : ∀ l : List Int, (sortI l).Pairwise (· ≤ ·)
  | [] => List.Pairwise.nil
  | x :: l => insI_sorted x _ (sortI_sorted l)
theorem sorted_uniq {a b : List Int} (p : a.Perm b) (ha : a.Pairwise (· ≤ ·)) (hb : b.Pairwise (· ≤ ·)) : a = b := PySem.W.lks_uniq p ha hb

section
variable {G : Gx} {O : List V} {E : XK} {k : Nat} {X : Cx} {H : Hp} {F : Fz} {L : List Cell} {Q : VK} {a b c : Expr} {pos : Pos} {ma mb mc : M R}
theorem ints_reps : ∀ {vs : List V} {ds : List D} {ns : List Int}, Reps G F vs ds → intsOf ds = some ns → (∀ v d, Rep G F v d → View G H F v d) → vs = ns.map V.int
  | _, [], ns, r, e, _ => by cases r; cases e; rfl
  | _, d :: ds, ns, r, e, hv => by
    cases r with
    | cons r t =>
      cases d with
      | int i =>
        simp only [intsOf] at e
        cases q : intsOf ds with
        | none => rw [q] at e; cases e
        | some is =>
          rw [q] at e
          cases e
          rw [show _ = V.int i from hv _ _ r, ints_reps t q hv]
          rfl
      | _ => simp [intsOf] at e
theorem bls_reps : ∀ {vs : List V} {ds : List D} {ns : List Bool}, Reps G F vs ds → blsOf ds = some ns → (∀ v d, Rep G F v d → View G H F v d) → vs = ns.map V.bl
  | _, [], ns, r, e, _ => by cases r; cases e; rfl
  | _, d :: ds, ns, r, e, hv => by
    cases r with
    | cons r t =>
      cases d with
      | bl i =>
        simp only [blsOf] at e
        cases q : blsOf ds with
        | none => rw [q] at e; cases e
        | some is =>
          rw [q] at e
          cases e
          rw [show _ = V.bl i from hv _ _ r, bls_reps t q hv]
          rfl
      | _ => simp [blsOf] at e
theorem strs_reps : ∀ {vs : List V} {ds : List D} {ns : List Str}, Reps G F vs ds → strsOf ds = some ns → (∀ v d, Rep G F v d → View G H F v d) → vs = ns.map V.str
  | _, [], ns, r, e, _ => by cases r; cases e; rfl
  | _, d :: ds, ns, r, e, hv => by
    cases r with
    | cons r t =>
      cases d with
      | str i =>
        simp only [strsOf] at e
        cases q : strsOf ds with
        | none => rw [q] at e; cases e
        | some is =>
          rw [q] at e
          cases e
          rw [show _ = V.str i from hv _ _ r, strs_reps t q hv]
          rfl
      | _ => simp [strsOf] at e
/-- built-ins by name -/
def Nat1 (X : Cx) (n : Str) : Prop := X.mg n = none
abbrev PosOk (a : Expr) (X : Cx) : Prop := starEach [a] X.env = (false, eval a X.env) :: starEach [] X.env
abbrev PosPl (pos : Pos) (X : Cx) : Prop := (backTo pos (starEach [] X.env)).any (·.1) = false
variable {p : Pos}
theorem SE.abs (hg : Gl X "abs") (hm : X.mg "abs" = none) (ha : SE G O E X a ma) (hs : PosOk a X := by rfl) (hpl : PosPl pos X := by rfl) : SE G O E X (.Call (.Name "abs" p) [a] [] pos) (mOp1 absI ma) :=
  SE.b1 call_abs (fun H F L v x Q gd hv m => by
    unfold absI at m
    split at m
    · exact ⟨_, by rw [show v = .int _ from gd.vw hv], made_int gd m⟩
    · exact m.elim) hg hm (by decide +kernel) ha hs hpl
def rLenAll (K : PySem.W.Frag) : List V → Hp → VK → Prop := fun xs H Q => (∃ x n, xs = [x] ∧ LenV K x H n ∧ Q (.int n) H) ∨ (∃ a kvs, xs = [V.ref a] ∧ H a = some (.dK kvs) ∧ Q (.int kvs.length) H) ∨ rLenT xs H Q
theorem SE.len (hK : X.K = G.K) (hg : Gl X "len") (hm : X.mg "len" = none) (ha : SE G O E X a ma) (hs : PosOk a X := by rfl) (hpl : PosPl pos X := by rfl) : SE G O E X (.Call (.Name "len" p) [a] [] pos) (mOp1 lenD ma) := by
  have h : CallR X (.builtin "len") (rLenAll G.K) := by
    have h := (call_len (X := X)).or ((call_lenD (X := X)).or (call_len_dT (X := X)))
    rw [hK] at h
    exact h
  refine SE.b1 h (fun H F L v x Q gd hv m => ?_) hg hm PySem.boot_len ha hs hpl
  cases x with
  | str z =>
    simp only [lenD] at m
    split at m
    · rename_i hz
      exact .inl ⟨v, z.length, rfl, by rw [show v = .str z from gd.vw hv]; exact ⟨hz, rfl⟩, made_int gd m⟩
    · exact m.elim
  | lst ds =>
    obtain ⟨a, vs, e, hs, rp⟩ := gd.vw hv
    have m : Made G L (shI ds.length) Q := m
    exact .inl ⟨v, vs.length, rfl, by rw [e]; exact .inl ⟨vs, SqL.of hs, rfl⟩, by rw [rp.length]; exact made_int gd m⟩
  | tup ds =>
    obtain ⟨a, vs, e, hs, rp⟩ := gd.vw hv
    have m : Made G L (shI ds.length) Q := m
    exact .inl ⟨v, vs.length, rfl, by rw [e]; exact .inr ⟨vs, SqT.of hs, rfl⟩, by rw [rp.length]; exact made_int gd m⟩
  | scr ns =>
    obtain ⟨a, e, hs⟩ := gd.vw hv
    have m : Made G L (shI ns.length) Q := m
    exact .inl ⟨v, _, rfl, by rw [e]; exact .inl ⟨_, hs, rfl⟩, by rw [List.length_map]; exact made_int gd m⟩
  | dK kvs =>
    obtain ⟨a, vs, e, hs, rp⟩ := gd.vw hv
    have m : Made G L (shI kvs.length) Q := m
    exact .inr (.inl ⟨a, vs, by rw [e], hs, by rw [rp.length]; exact made_int gd m⟩)
  | dT kvs =>
    obtain ⟨a, vs, e, hs, rp⟩ := gd.vw hv
    have m : Made G L (shI kvs.length) Q := m
    exact .inr (.inr ⟨a, vs, by rw [e], hs, by rw [rp.length]; exact made_int gd m⟩)
  | non => exact m.elim
  | bl _ => exact m.elim
  | int _ => exact m.elim
  | fn _ => exact m.elim
  | exo => exact m.elim
theorem SE.sum (c : CxOk gu G E k X) (hg : Gl X "sum") (hm : X.mg "sum" = none) (ha : SE G O E X a ma) (hs : PosOk a X := by rfl) (hpl : PosPl pos X := by rfl) : SE G O E X (.Call (.Name "sum" p) [a] [] pos) (mOp1 sumD ma) := by
  refine SE.b1 (cr_sum c.calm) (fun H F L v x Q gd hv m => ?_) hg hm (by decide +kernel) ha hs hpl
  unfold sumD at m
  split at m
  · rename_i ds
    cases e : intsOf ds with
    | none => rw [e] at m; exact m.elim
    | some ns =>
      rw [e] at m
      obtain ⟨a, vs, ev, hs, rp⟩ := gd.vw hv
      rw [ints_reps rp e fun v d r => gd.viewR r] at hs
      exact ⟨a, ns, by rw [ev], SqL.of hs, made_int gd m⟩
  · exact m.elim
theorem SE.all (c : CxOk gu G E k X) (hg : Gl X "all") (hm : X.mg "all" = none) (ha : SE G O E X a ma) (hs : PosOk a X := by rfl) (hpl : PosPl pos X := by rfl) : SE G O E X (.Call (.Name "all" p) [a] [] pos) (mOp1 allD ma) := by
  refine SE.b1 (cr_all c.calm) (fun H F L v x Q gd hv m => ?_) hg hm (by decide +kernel) ha hs hpl
  unfold allD at m
  split at m
  · rename_i ds
    cases e : blsOf ds with
    | none => rw [e] at m; exact m.elim
    | some ns =>
      rw [e] at m
      obtain ⟨a, vs, ev, hs, rp⟩ := gd.vw hv
      rw [bls_reps rp e fun v d r => gd.viewR r] at hs
      exact ⟨a, ns, by rw [ev], SqL.of hs, made_bl gd m⟩
  · exact m.elim
theorem SE.any (c : CxOk gu G E k X) (hg : Gl X "any") (hm : X.mg "any" = none) (ha : SE G O E X a ma) (hs : PosOk a X := by rfl) (hpl : PosPl pos X := by rfl) : SE G O E X (.Call (.Name "any" p) [a] [] pos) (mOp1 anyD ma) := by
  refine SE.b1 (cr_any c.calm) (fun H F L v x Q gd hv m => ?_) hg hm (by decide +kernel) ha hs hpl
  unfold anyD at m
  split at m
  · rename_i ds
    cases e : blsOf ds with
    | none => rw [e] at m; exact m.elim
    | some ns =>
      rw [e] at m
      obtain ⟨a, vs, ev, hs, rp⟩ := gd.vw hv
      rw [bls_reps rp e fun v d r => gd.viewR r] at hs
      exact ⟨a, ns, by rw [ev], SqL.of hs, made_bl gd m⟩
  · exact m.elim
theorem SE.min2 (c : CxOk gu G E k X) (hg : Gl X "min") (hm : X.mg "min" = none) (ha : SE G O E X a ma) (hb : SE G O E X b mb) (hs : starEach [a, b] X.env = (false, eval a X.env) :: starEach [b] X.env := by rfl) (hs2 : PosOk b X := by rfl) (hpl : (backTo pos (starEach [b] X.env)).any (·.1) = false := by rfl) :
    SE G O E X (.Call (.Name "min" p) [a, b] [] pos) (mOp2 min2I ma mb) := by
  refine SE.b2 (call_min2 c.calm) (fun H F L v u x y Q gd hv hu m => ?_) hg hm (by decide +kernel) ha hb hs hs2 hpl
  unfold min2I iD2 at m
  split at m
  · rw [if_pos rfl] at m
    exact ⟨_, _, by rw [show v = .int _ from gd.vw hv, show u = .int _ from gd.vw hu], made_int gd m⟩
  · exact m.elim
theorem SE.max2 (c : CxOk gu G E k X) (hg : Gl X "max") (hm : X.mg "max" = none) (ha : SE G O E X a ma) (hb : SE G O E X b mb) (hs : starEach [a, b] X.env = (false, eval a X.env) :: starEach [b] X.env := by rfl) (hs2 : PosOk b X := by rfl) (hpl : (backTo pos (starEach [b] X.env)).any (·.1) = false := by rfl) :
    SE G O E X (.Call (.Name "max" p) [a, b] [] pos) (mOp2 max2I ma mb) := by
  refine SE.b2 (call_max2 c.calm) (fun H F L v u x y Q gd hv hu m => ?_) hg hm (by decide +kernel) ha hb hs hs2 hpl
  unfold max2I iD2 at m
  split at m
  · rw [if_pos rfl] at m
    exact ⟨_, _, by rw [show v = .int _ from gd.vw hv, show u = .int _ from gd.vw hu], made_int gd m⟩
  · exact m.elim
/-! ### min, max of a tuple of ints -/
theorem dataLt_int (i j : Int) : PySem.W.dataLt (PyData.int i) (PyData.int j) = decide (i < j) := by
  unfold PySem.W.dataLt
  first
    | rfl
    | (simp [PySem.W.keyToks, PyProof.Rows.lexLt]; rfl)
theorem minD_int : ∀ (is : List Int) (i : Int), PySem.W.minD (PyData.int i) (is.map PyData.int) = PyData.int (leastI i is)
  | [], i => rfl
  | j :: is, i => by
    show PySem.W.minD (if PySem.W.dataLt (PyData.int j) (PyData.int i) = true then PyData.int j else PyData.int i) (is.map PyData.int) = _
    rw [dataLt_int, show (if decide (j < i) = true then PyData.int j else PyData.int i) = .int (if j < i then j else i) by by_cases h : j < i <;> simp [h]]
    exact minD_int is _
theorem maxD_int : ∀ (is : List Int) (i : Int), PySem.W.maxD (PyData.int i) (is.map PyData.int) = PyData.int (mostI i is)
  | [], i => rfl
  | j :: is, i => by
    show PySem.W.maxD (if PySem.W.dataLt (PyData.int i) (PyData.int j) = true then PyData.int j else PyData.int i) (is.map PyData.int) = _
    rw [dataLt_int, show (if decide (i < j) = true then PyData.int j else PyData.int i) = .int (if i < j then j else i) by by_cases h : i < j <;> simp [h]]
    exact maxD_int is _
theorem reads_ints {h : Heap} : ∀ {us : List Value} {ns : List Int}, IntsAre us ns → ∃ as, ReadsAll h us (ns.map PyData.int) as
  | _, _, .nil => ⟨_, ReadsAll.nil⟩
  | _, _, .cons i t r => by
    obtain ⟨as, q⟩ := reads_ints (h := h) r
    exact ⟨_, ReadsAll.cons (Reads.int _ _) q⟩
theorem alike_ints (ns : List Int) : PySem.W.AlikeAll (ns.map PyData.int) := by
  refine ⟨fun x hx y hy => ?_, fun x hx => ?_⟩
  · obtain ⟨i, _, rfl⟩ := List.mem_map.mp hx
    obtain ⟨j, _, rfl⟩ := List.mem_map.mp hy
    rfl
  · obtain ⟨i, _, rfl⟩ := List.mem_map.mp hx
    exact fun z => (nomatch z)
theorem depth_ints : ∀ ns : List Int, PyData.depthAll (ns.map PyData.int) = 0
  | [] => by simp [PyData.depthAll]
  | n :: ns => by simp [PyData.depthAll, PyData.depth, depth_ints ns]
def rMinT (K : PySem.W.Frag) : List V → Hp → VK → Prop := fun vs H Q => ∃ (a : Addr) (i : Int) (is : List Int), vs = [V.ref a] ∧ SqT K H a ((i :: is).map V.int) ∧ Q (.int (leastI i is)) H
def rMaxT (K : PySem.W.Frag) : List V → Hp → VK → Prop := fun vs H Q => ∃ (a : Addr) (i : Int) (is : List Int), vs = [V.ref a] ∧ SqT K H a ((i :: is).map V.int) ∧ Q (.int (mostI i is)) H
theorem cr_minT (hc : X.calm = true) (hu : X.A.units + 1 < cLine) : CallR X (.builtin "min") (rMinT X.K) := by
  intro pins s σ H vs us Q I r h
  obtain ⟨a, i, is, rfl, hs, q⟩ := h
  rw [Vals.ref1 r]
  obtain ⟨its, rv, p, hz⟩ := I.tuple hs
  obtain ⟨as, hr⟩ := reads_ints (h := s.heap) rv.ints
  refine PySem.W.min_tuple_data (vs := its.toArray) (x := .int i) (xs := is.map PyData.int) (I.ok.hd hc) (show s.heap.IsTuple a its.toArray from p) hr (alike_ints (i :: is)) (by
    have := depth_ints (i :: is)
    rw [List.map_cons] at this
    rw [this]; exact hu) fun j v h' tk bs hv hrd hk => ?_
  rw [minD_int] at hrd
  cases hrd with
  | int n t => exact ⟨.int (leastI i is), H, I.kept hk, ⟨_, rfl⟩, q⟩
theorem cr_maxT (hc : X.calm = true) (hu : X.A.units + 1 < cLine) : CallR X (.builtin "max") (rMaxT X.K) := by
  intro pins s σ H vs us Q I r h
  obtain ⟨a, i, is, rfl, hs, q⟩ := h
  rw [Vals.ref1 r]
  obtain ⟨its, rv, p, hz⟩ := I.tuple hs
  obtain ⟨as, hr⟩ := reads_ints (h := s.heap) rv.ints
  refine PySem.W.max_tuple_data (vs := its.toArray) (x := .int i) (xs := is.map PyData.int) (I.ok.hd hc) (show s.heap.IsTuple a its.toArray from p) hr (alike_ints (i :: is)) (by
    have := depth_ints (i :: is)
    rw [List.map_cons] at this
    rw [this]; exact hu) fun j v h' tk bs hv hrd hk => ?_
  rw [maxD_int] at hrd
  cases hrd with
  | int n t => exact ⟨.int (mostI i is), H, I.kept hk, ⟨_, rfl⟩, q⟩
theorem SE.min (c : CxOk gu G E k X) (hg : Gl X "min") (hm : X.mg "min" = none) (ha : SE G O E X a ma) (hs : PosOk a X := by rfl) (hpl : PosPl pos X := by rfl) : SE G O E X (.Call (.Name "min" p) [a] [] pos) (mOp1 minD ma) := by
  have hr := (cr_min c.calm).or (cr_minT c.calm c.u1)
  rw [c.K] at hr
  refine SE.b1 hr (fun H F L v x Q gd hv m => ?_) hg hm (by decide +kernel) ha hs hpl
  unfold minD at m
  split at m
  · rename_i i is e
    cases x with
    | lst ds =>
      obtain ⟨a, vs, ev, hs, rp⟩ := gd.vw hv
      rw [ints_reps rp e fun v d r => gd.viewR r] at hs
      exact .inl ⟨a, i :: is, by rw [ev], SqL.of hs, Nat.succ_pos _, fun z h1 h2 => by rw [least_of h1 h2]; exact made_int gd m⟩
    | tup ds =>
      obtain ⟨a, vs, ev, hs, rp⟩ := gd.vw hv
      rw [ints_reps rp e fun v d r => gd.viewR r] at hs
      exact .inr ⟨a, i, is, by rw [ev], SqT.of hs, made_int gd m⟩
    | _ => simp [seqOf] at e
  · exact m.elim
theorem SE.max (c : CxOk gu G E k X) (hg : Gl X "max") (hm : X.mg "max" = none) (ha : SE G O E X a ma) (hs : PosOk a X := by rfl) (hpl : PosPl pos X := by rfl) : SE G O E X (.Call (.Name "max" p) [a] [] pos) (mOp1 maxD ma) := by
  have hr := (cr_max c.calm).or (cr_maxT c.calm c.u1)
  rw [c.K] at hr
  refine SE.b1 hr (fun H F L v x Q gd hv m => ?_) hg hm (by decide +kernel) ha hs hpl
  unfold maxD at m
  split at m
  · rename_i i is e
    cases x with
    | lst ds =>
      obtain ⟨a, vs, ev, hs, rp⟩ := gd.vw hv
      rw [ints_reps rp e fun v d r => gd.viewR r] at hs
      exact .inl ⟨a, i :: is, by rw [ev], SqL.of hs, Nat.succ_pos _, fun z h1 h2 => by rw [most_of h1 h2]; exact made_int gd m⟩
    | tup ds =>
      obtain ⟨a, vs, ev, hs, rp⟩ := gd.vw hv
      rw [ints_reps rp e fun v d r => gd.viewR r] at hs
      exact .inr ⟨a, i, is, by rw [ev], SqT.of hs, made_int gd m⟩
    | _ => simp [seqOf] at e
  · exact m.elim
theorem cr_sortedT : True := trivial
theorem SE.sorted (hK : X.K = G.K) (hg : Gl X "sorted") (hm : X.mg "sorted" = none) (ha : SE G O E X a ma) (hs : PosOk a X := by rfl) (hpl : PosPl pos X := by rfl) : SE G O E X (.Call (.Name "sorted" p) [a] [] pos) (mOp1 sortedD ma) := by
  have hr := cr_sortedI (X := X)
  rw [hK] at hr
  refine SE.b1 hr (fun H F L v x Q gd hv m => ?_) hg hm (by decide +kernel) ha hs hpl
  unfold sortedD at m
  split at m
  · rename_i ds
    cases e : intsOf ds with
    | none => rw [e] at m; exact m.elim
    | some ns =>
      rw [e] at m
      obtain ⟨a, vs, ev, hs, rp⟩ := gd.vw hv
      rw [ints_reps rp e fun v d r => gd.viewR r] at hs
      refine ⟨a, ns, by rw [ev], SqL.of hs, fun ns' q hp hsrt hq => ?_⟩
      rw [sorted_uniq (hp.trans (sortI_perm ns).symm) hsrt (sortI_sorted ns)]
      exact made_lst gd (reps_ints _) hq m
  · exact m.elim
theorem SE.tupleC (hK : X.K = G.K) (hg : Gl X "tuple") (hm : X.mg "tuple" = none) (ha : SE G O E X a ma) (hs : PosOk a X := by rfl) (hpl : PosPl pos X := by rfl) : SE G O E X (.Call (.Name "tuple" p) [a] [] pos) (mOp1 tupleD ma) := by
  have hr := call_tuple_of (X := X)
  rw [hK] at hr
  refine SE.t1 hr (fun H F L v x Q gd hv m => ?_) hg hm (by decide +kernel) ha hs hpl
  cases x with
  | lst ds =>
    obtain ⟨a, vs, ev, hs, rp⟩ := gd.vw hv
    exact ⟨a, vs, by rw [ev], .inl ⟨SqL.of hs, fun l hl => made_tup gd rp hl m⟩⟩
  | tup ds =>
    obtain ⟨a, vs, ev, hs, rp⟩ := gd.vw hv
    refine ⟨a, vs, by rw [ev], .inr ⟨SqT.of hs, ?_⟩⟩
    rw [← ev]
    exact made_rep gd (gd.rpT hv) m
  | _ => exact m.elim
theorem SE.listC (hK : X.K = G.K) (hg : Gl X "list") (hm : X.mg "list" = none) (ha : SE G O E X a ma) (hs : PosOk a X := by rfl) (hpl : PosPl pos X := by rfl) : SE G O E X (.Call (.Name "list" p) [a] [] pos) (mOp1 listD ma) := by
  have hr := call_list_of (X := X)
  rw [hK] at hr
  refine SE.t1 hr (fun H F L v x Q gd hv m => ?_) hg hm (by decide +kernel) ha hs hpl
  cases x with
  | lst ds =>
    obtain ⟨a, vs, ev, hs, rp⟩ := gd.vw hv
    exact ⟨a, vs, by rw [ev], .inl (SqL.of hs), fun l hl => made_lst gd rp hl m⟩
  | tup ds =>
    obtain ⟨a, vs, ev, hs, rp⟩ := gd.vw hv
    exact ⟨a, vs, by rw [ev], .inr (SqT.of hs), fun l hl => made_lst gd rp hl m⟩
  | _ => exact m.elim
theorem SE.intC (hg : Gl X "int") (hm : X.mg "int" = none) (ha : SE G O E X a ma) (hs : PosOk a X := by rfl) (hpl : PosPl pos X := by rfl) : SE G O E X (.Call (.Name "int" p) [a] [] pos) (mOp1 intD ma) := by
  refine SE.t1 call_int1 (fun H F L v x Q gd hv m => ?_) hg hm (by decide +kernel) ha hs hpl
  unfold intD at m
  split at m
  · exact .inl ⟨_, by rw [show v = .int _ from gd.vw hv], made_int gd m⟩
  · exact .inr ⟨_, by rw [show v = .bl _ from gd.vw hv], made_int gd m⟩
  · exact m.elim
/-! ### isinstance -/
def Ty.name : Ty → String
  | .int => "int" | .bool => "bool" | .str => "str" | .tuple => "tuple" | .list => "list" | .dict => "dict"
theorem kit_non : ∀ t : Ty, kitB "NoneType" t.name = some false := by intro t; cases t <;> decide +kernel
theorem kit_bl : ∀ t : Ty, kitB "bool" t.name = some (match t with | .int => true | .bool => true | _ => false) := by intro t; cases t <;> decide +kernel
theorem kit_int : ∀ t : Ty, kitB "int" t.name = some (match t with | .int => true | _ => false) := by intro t; cases t <;> decide +kernel
theorem kit_str : ∀ t : Ty, kitB "str" t.name = some (match t with | .str => true | _ => false) := by intro t; cases t <;> decide +kernel
theorem kit_tup : ∀ t : Ty, kitB "tuple" t.name = some (match t with | .tuple => true | _ => false) := by intro t; cases t <;> decide +kernel
theorem kit_lst : ∀ t : Ty, kitB "list" t.name = some (match t with | .list => true | _ => false) := by intro t; cases t <;> decide +kernel
theorem kit_dct : ∀ t : Ty, kitB "dict" t.name = some (match t with | .dict => true | _ => false) := by intro t; cases t <;> decide +kernel
theorem SE.isi {n : Str} {pb : Pos} (t : Ty) (hK : X.K = G.K) (hg : Gl X "isinstance") (hm : X.mg "isinstance" = none) (hg2 : Gl X n) (hm2 : X.mg n = none) (hv2 : bootBuiltins n = some (.type t.name)) (ha : SE G O E X a ma)
    (hs : starEach [a, .Name n pb] X.env = (false, eval a X.env) :: starEach [.Name n pb] X.env := by rfl) (hs2 : PosOk (.Name n pb) X := by rfl) (hpl : (backTo pos (starEach [.Name n pb] X.env)).any (·.1) = false := by rfl) (hn : n ≠ "__name__" := by decide) (hd : (n == ("__debug__" : Str)) = false := by decide) :
    SE G O E X (.Call (.Name "isinstance" p) [a, .Name n pb] [] pos) (mOp1 (isiD t) ma) := by
  have hr := call_isi (X := X)
  rw [hK] at hr
  refine PE.imp (pe_callB hr hg hm (by decide +kernel) (pa_cons ha (pa_cons (pe_bltn (v := .ty t.name) hg2 hm2 hv2 rfl hn hd) pa_nil hs2) hs) (by decide) (by decide) hs hpl) fun σ H Q h => un_read h fun H F L v x gd hv m => ?_
  show rIsi G.K [v, .ty t.name] H Q
  cases x with
  | non => exact ⟨v, _, .type "NoneType", _, _, rfl, .ty _, by rw [show v = .non from gd.vw hv]; exact .base .non, kit_ty (kit_non t), made_bl gd m⟩
  | bl b => exact ⟨v, _, .type "bool", _, _, rfl, .ty _, by rw [show v = .bl _ from gd.vw hv]; exact .base (.bl _), kit_ty (kit_bl t), made_bl gd m⟩
  | int b => exact ⟨v, _, .type "int", _, _, rfl, .ty _, by rw [show v = .int _ from gd.vw hv]; exact .base (.int _), kit_ty (kit_int t), made_bl gd m⟩
  | str b => exact ⟨v, _, .type "str", _, _, rfl, .ty _, by rw [show v = .str _ from gd.vw hv]; exact .base (.str _), kit_ty (kit_str t), made_bl gd m⟩
  | tup ds =>
    obtain ⟨a, vs, ev, hs, rp⟩ := gd.vw hv
    exact ⟨v, _, .type "tuple", _, _, rfl, .ty _, by rw [ev]; exact .base (.tup hs), kit_ty (kit_tup t), made_bl gd m⟩
  | lst ds =>
    obtain ⟨a, vs, ev, hs, rp⟩ := gd.vw hv
    exact ⟨v, _, .type "list", _, _, rfl, .ty _, by rw [ev]; exact .base (.lst hs), kit_ty (kit_lst t), made_bl gd m⟩
  | dK ds =>
    obtain ⟨a, vs, ev, hs, rp⟩ := gd.vw hv
    exact ⟨v, _, .type "dict", _, _, rfl, .ty _, by rw [ev]; exact .base (.dK hs), kit_ty (kit_dct t), made_bl gd m⟩
  | dT ds =>
    obtain ⟨a, vs, ev, hs, rp⟩ := gd.vw hv
    exact ⟨v, _, .type "dict", _, _, rfl, .ty _, by rw [ev]; exact .base (.dT hs), kit_ty (kit_dct t), made_bl gd m⟩
  | fn _ => exact m.elim
  | exo => exact m.elim
  | scr _ => exact m.elim
end
end PP

set_option Elab.async false
set_option linter.all false
set_option maxRecDepth 100000
/-! Pure python, 11: what is changed; dicts; pairs stored at once. -/
namespace PP
open PySem PySem.Spec PyProof.Rows L2

section
variable {G : Gx} {O : List V} {E : XK} {k : Nat} {X : Cx} {a b c : Expr} {pos : Pos} {ma mb mc : M R}
/-! ### a method that changes what a slot owns -/
def OkM (G : Gx) (r : V → List V → Hp → VK → Prop) (f : D → List D → Option (D × D)) : Prop := ∀ H F L p (fl : Fl) x vs ds y z Q, fl.own = true → Good G H F ((V.ref p, fl, x) :: L) → Reps G F vs ds → f x ds = some (y, z) →
  (∀ w H', Good G H' F ((V.ref p, fl, y) :: L) → Rep G F w z → Q w H') → r (V.ref p) vs H Q
theorem shs_mem : ∀ {vs : List V} {ds : List D} {x : Cell}, x ∈ shs vs ds → ∃ v d, x = (v, .sh, d)
  | [], _, _, h => by cases h
  | _ :: _, [], _, h => by cases h
  | v :: vs, d :: ds, x, h => by
    rcases List.mem_cons.mp h with rfl | h
    · exact ⟨v, d, rfl⟩
    · exact shs_mem (vs := vs) (ds := ds) h
/-- the receiver's type, as it is looked at before the arguments -/
def TyAt (G : Gx) (T : String) (ty : D → Bool) : Prop := ∀ H F L p (fl : Fl) x, Good G H F ((V.ref p, fl, x) :: L) → ty x = true → tyV G.K T (V.ref p) H
theorem tyAt_lst : TyAt G "list" isLst := fun H F L p fl x g h => by
  cases x <;> simp [isLst] at h
  obtain ⟨a, vs, e, hs, _⟩ := g.view (x := (V.ref p, fl, .lst _)) List.mem_cons_self
  cases e
  exact .inl ⟨rfl, vs, SqL.of hs⟩
theorem tyAt_dct : TyAt G "dict" isDct := fun H F L p fl x g h => by
  cases x <;> simp [isDct] at h
  · obtain ⟨a, vs, e, hs, _⟩ := g.view (x := (V.ref p, fl, .dK _)) List.mem_cons_self
    cases e
    exact .inr (.inr (.inl ⟨rfl, .inl ⟨vs, hs⟩⟩))
  · obtain ⟨a, vs, e, hs, _⟩ := g.view (x := (V.ref p, fl, .dT _)) List.mem_cons_self
    cases e
    exact .inr (.inr (.inl ⟨rfl, .inr ⟨vs, hs⟩⟩))
theorem ref_of_ty {H : Hp} {F : Fz} {v : V} {x : D} (h : View G H F v x) (t : isLst x = true ∨ isDct x = true) : ∃ p, v = .ref p := by
  cases x with
  | lst _ => obtain ⟨a, _, e, _⟩ := h; exact ⟨a, e⟩
  | dK _ => obtain ⟨a, _, e, _⟩ := h; exact ⟨a, e⟩
  | dT _ => obtain ⟨a, _, e, _⟩ := h; exact ⟨a, e⟩
  | _ => rcases t with t | t <;> cases t
variable {i : Nat} {x : Str} {px apos : Pos} {name : Str} {T id : String} {r : V → List V → Hp → VK → Prop} {ty : D → Bool} {f : D → List D → Option (D × D)} {es : List Expr} {e : Expr} {ms : M (List D)}
theorem mut_read {σ : L2.St} {H : Hp} {Q : VK} (hT : TyAt G T ty) (hty : ∀ x, ty x = true → isLst x = true ∨ isDct x = true) (hr : OkM G r f) (h : tE G O E (mMut i ty ms f) σ H Q) :
    ∃ v, σ[i]? = some (some v) ∧ tyV G.K T v H ∧ tL G O E ms σ H fun vs H2 => r v vs H2 Q := by
  obtain ⟨ρ, T0, F, st, w⟩ := h
  unfold mMut at w
  split at w
  · rename_i fl0 x0 e0
    split at w
    · rename_i ht
      obtain ⟨v, h1, _, g⟩ := st.front e0
      have vw := g.view (x := (v, fl0, x0)) List.mem_cons_self
      obtain ⟨p, ep⟩ := ref_of_ty vw (hty _ ht)
      dsimp only at ep g
      subst ep
      refine ⟨_, h1, hT _ _ _ _ _ _ g ht, tL_bnd st w fun ds ρ1 vs H1 F1 hl st1 w1 => ?_⟩
      split at w1
      · rename_i fl x1 e1
        split at w1
        · rename_i ho
          cases ef : f x1 ds with
          | none => rw [ef] at w1; exact w1.elim
          | some yz =>
            obtain ⟨y, z⟩ := yz
            rw [ef] at w1
            obtain ⟨v', h1', _, g1⟩ := st1.front e1
            rw [h1] at h1'
            cases h1'
            refine hr H1 F1 _ p fl x1 vs ds y z Q ho g1 (shs_reps hl (Good.swap st1.gd)) ef fun w' H' g' rz => ?_
            have g2 : Good G H' F1 ((V.ref p, fl, y) :: (live σ (ρ1.set i none) ++ T0)) := g'.sub ((List.Sublist.append_left (List.sublist_append_right _ _) _).cons_cons _)
            refine w1 w' H' F1 trivial (St.push (st1.sl.upd e1 fun p => p) ?_)
            refine (g2.rep (x := (w', .sh, z)) rfl rz).perm (List.Perm.cons _ ?_)
            exact ((live_put' (s := (fl, y)) h1 (lt_of_get e1)).symm.append_right _)
        · exact w1.elim
      · exact w1.elim
    · exact w.elim
  · exact w.elim
theorem SE.mut (hK : X.K = G.K) (pa : PySem.PlainAttrs T) (slot : PySem.Slot T name id) (htd : typeOf (.builtin id) = pure (.type "method_descriptor")) (hm : MtR X id r) (hT : TyAt G T ty) (hty : ∀ x, ty x = true → isLst x = true ∨ isDct x = true) (hr : OkM G r f) (ha : SL G O E X (e :: es) ms)
    (hN : X.N[i]? = some x := by rfl) (hv : Vis X.env.scope x := by first | exact Or.inl rfl | exact Or.inr (Or.inl rfl) | exact Or.inr (Or.inr rfl)) (hd : (x == ("__debug__" : Str)) = false := by decide) (hcd : (x == ("__classdict__" : Str)) = false := by decide)
    (hbase : attributeBase (.Name x px) name X.env (eval (.Name x px) X.env) = eval (.Name x px) X.env := by rfl)
    (hfew : ((backTo pos (starEach (e :: es) X.env)).all (fun x => !x.1) && (backToKw pos (keywordEach [] X.env)).all (fun x => x.1.isSome) && decide ((e :: es).length + ([] : List Keyword).length + (if ([] : List Keyword).isEmpty then 0 else 1) < 30)) = true := by rfl)
    (hline : (apos.endLine == pos.line) = true := by rfl) (hs : starEach (e :: es) X.env = (false, eval e X.env) :: starEach es X.env := by rfl) (hplain : (backTo pos (starEach es X.env)).any (·.1) = false := by rfl) :
    SE G O E X (.Call (.Attribute (.Name x px) name apos) (e :: es) [] pos) (mMut i ty ms f) := by
  refine PE.imp (pe_bm pa slot htd hm (pe_var hN hv hd hcd) ha hbase hfew hline hs hplain) fun σ H Q h => ?_
  obtain ⟨v, h1, h2, h3⟩ := mut_read hT hty hr h
  exact ⟨v, h1, by rw [hK]; exact h2, h3⟩
theorem SE.mut0 (hK : X.K = G.K) (pa : PySem.PlainAttrs T) (slot : PySem.Slot T name id) (htd : typeOf (.builtin id) = pure (.type "method_descriptor")) (hm : MtR X id r) (hT : TyAt G T ty) (hty : ∀ x, ty x = true → isLst x = true ∨ isDct x = true) (hr : OkM G r f)
    (hN : X.N[i]? = some x := by rfl) (hv : Vis X.env.scope x := by first | exact Or.inl rfl | exact Or.inr (Or.inl rfl) | exact Or.inr (Or.inr rfl)) (hd : (x == ("__debug__" : Str)) = false := by decide) (hcd : (x == ("__classdict__" : Str)) = false := by decide)
    (hbase : attributeBase (.Name x px) name X.env (eval (.Name x px) X.env) = eval (.Name x px) X.env := by rfl) (hline : (apos.endLine == pos.line) = true := by rfl) :
    SE G O E X (.Call (.Attribute (.Name x px) name apos) [] [] pos) (mMut i ty mNil f) := by
  refine PE.imp (pe_bm0 pa slot htd hm (pe_var hN hv hd hcd) hbase hline) fun σ H Q h => ?_
  obtain ⟨v, h1, h2, ρ, T0, F, st, w⟩ := mut_read hT hty hr h
  exact ⟨v, h1, by rw [hK]; exact h2, w [] H F rfl st⟩
theorem okM_append : OkM G rAppend appendD := by
  intro H F L p fl x vs ds y z Q ho g rp e q
  unfold appendD at e
  split at e
  · rename_i xs d
    split at e
    · rename_i hz
      cases e
      obtain ⟨a, ea, _, us, hs, rq⟩ := g.ownH (x := (V.ref p, fl, .lst xs)) ho
      cases ea
      cases rp with
      | cons r t =>
        cases t
        rename_i v
        refine ⟨p, us, v, rfl, rfl, hs, by rw [rq.length]; exact hz, q .non _ ?_ .non⟩
        exact g.write ho ⟨us ++ [v], upd_same, PySem.Paired.snoc rq r⟩
    · cases e
  · cases e
theorem okM_extend : OkM G rExtend extendD := by
  intro H F L p fl x vs ds y z Q ho g rp e q
  unfold extendD at e
  split at e
  · rename_i xs ys
    split at e
    · rename_i hz
      cases e
      obtain ⟨a, ea, _, us, hs, rq⟩ := g.ownH (x := (V.ref p, fl, .lst xs)) ho
      cases ea
      cases rp with
      | cons r t =>
        cases t
        rename_i v
        obtain ⟨b, ws, ev, hb, rb⟩ := g.viewR r
        subst ev
        refine ⟨p, b, us, ws, rfl, rfl, hs, hb, by rw [rq.length, rb.length]; exact hz, q .non _ ?_ .non⟩
        exact g.write ho ⟨us ++ ws, upd_same, rq.app rb⟩
    · cases e
  · cases e
theorem Reps.dropLast {F : Fz} {vs : List V} {ds : List D} (h : Reps G F vs ds) : Reps G F vs.dropLast ds.dropLast := by
  rw [List.dropLast_eq_take, List.dropLast_eq_take, h.length]
  exact h.take _
theorem okM_pop : OkM G rPop popD := by
  intro H F L p fl x vs ds y z Q ho g rp e q
  unfold popD at e
  split at e
  · rename_i xs
    cases el : xs[xs.length - 1]? with
    | none => rw [el] at e; cases e
    | some d =>
      rw [el] at e
      cases e
      obtain ⟨a, ea, _, us, hs, rq⟩ := g.ownH (x := (V.ref p, fl, .lst xs)) ho
      cases ea
      cases rp
      obtain ⟨v, h1, h2⟩ := rq.get el
      refine ⟨p, us, v, rfl, rfl, hs, by rw [rq.length]; exact h1, q v _ ?_ h2⟩
      exact g.write ho ⟨us.dropLast, upd_same, rq.dropLast⟩
  · cases e
theorem repK_put {κ : Type} [DecidableEq κ] {F : Fz} {vs : List (κ × V)} {ds : List (κ × D)} {q : κ} {v : V} {d : D} (h : RepK G F vs ds) (r : Rep G F v d) : RepK G F (putK vs q v) (putD ds q d) := by
  have hany : (vs.any fun kv => decide (kv.1 = q)) = ds.any fun kv => decide (kv.1 = q) := by
    induction h with
    | nil => rfl
    | cons p t ih => rw [List.any_cons, List.any_cons, ih, p.1]
  have hmap : RepK G F (vs.map fun kv => if kv.1 = q then (kv.1, v) else kv) (ds.map fun kv => if kv.1 = q then (kv.1, d) else kv) := by
    clear hany
    induction h with
    | nil => exact .nil
    | cons p t ih =>
      rw [List.map_cons, List.map_cons]
      refine .cons ?_ ih
      rw [← p.1]
      split
      · exact ⟨rfl, r⟩
      · exact p
  unfold putK putD
  rw [hany]
  split
  · exact hmap
  · exact PySem.Paired.snoc h ⟨rfl, r⟩
theorem repK_merge {F : Fz} : ∀ {more : List (Key × V)} {dm : List (Key × D)} {vs : List (Key × V)} {ds : List (Key × D)}, RepK G F more dm → RepK G F vs ds → RepK G F (mergeK vs more) (dm.foldl (fun acc kv => putD acc kv.1 kv.2) ds)
  | _, _, _, _, .nil, h => h
  | p :: more, p' :: dm, vs, ds, .cons r t, h => by
    show RepK G F (mergeK (putK vs p.1 p.2) more) (dm.foldl _ (putD ds p'.1 p'.2))
    rw [r.1]
    exact repK_merge t (repK_put h r.2)
/-- d.update(e), keys ints and texts -/
def rUpdK : V → List V → Hp → VK → Prop := fun x xs H Q => ∃ p q vs us, x = .ref p ∧ xs = [V.ref q] ∧ p ≠ q ∧ H p = some (.dK vs) ∧ H q = some (.dK us) ∧ vs.length + us.length ≤ sizeLine ∧ Q .non (upd H p (.dK (mergeK vs us)))
theorem mt_updK : MtR X "dict.update" rUpdK := by
  intro pins s σ H x xs v us Q I rx rs h
  obtain ⟨p, q, vs, ws, rfl, rfl, hne, hp, hq, hz, qq⟩ := h
  cases (show v = Value.ref p from rx)
  rw [Vals.ref1 rs]
  obtain ⟨z1, d1, vs', r1, dd1⟩ := dk_of I.hok hp
  obtain ⟨z2, d2, ws', r2, dd2⟩ := dk_of I.hok hq
  refine call_meetsIn PySem.F.slot_dict_update dd1.typeIs PySem.F.entry_dict_update (PySem.F.args_dict_update_2 _ _) (meets_dict_update (mixKind X.prog X.w) p q hne d2)
    ⟨vs', ws', dd1, dd2, by rw [← r1.length, ← r2.length]; exact hz, fun h' dd' _ hs => ?_⟩
  have he : ∃ q, h'.get? p = some q := let ⟨q, _, _, hq, _⟩ := dd'; ⟨q, hq⟩
  have hz3 : (mergeK vs ws).length ≤ sizeLine := by have := length_mergeK ws vs; omega
  exact ⟨.non, _, d_write (t' := s.toks) I (by rw [hp]; exact True.intro) hs he (dk_new hz3 d1 (r2.merge r1) dd'), rfl, qq⟩
theorem okM_update : OkM G rUpdK updateD := by
  intro H F L p fl x vs ds y z Q ho g rp e q
  unfold updateD at e
  split at e
  · rename_i xs ys
    split at e
    · rename_i hz
      cases e
      obtain ⟨a, ea, hn, us, hs, rq⟩ := g.ownH (x := (V.ref p, fl, .dK xs)) ho
      cases ea
      cases rp with
      | cons r t =>
        cases t
        rename_i v
        have hF : ∃ b, v = .ref b ∧ F b = some (.dK ys) := by
          cases r with
          | fz e => exact ⟨_, rfl, e⟩
          | k e => cases e
        obtain ⟨b, ev, hb⟩ := hF
        subst ev
        obtain ⟨ws, hb2, rb⟩ := g.fz b _ hb
        have hne : p ≠ b := fun z => by rw [z, hb] at hn; cases hn
        refine ⟨p, b, us, ws, rfl, rfl, hne, hs, hb2, by rw [rq.length, rb.length]; exact hz, q .non _ ?_ .non⟩
        exact g.write ho ⟨_, upd_same, repK_merge rb rq⟩
    · cases e
  · cases e
variable {p : Pos}
theorem SE.append (hK : X.K = G.K) (ha : SL G O E X [e] ms) (hN : X.N[i]? = some x := by rfl) (hv : Vis X.env.scope x := by first | exact Or.inl rfl | exact Or.inr (Or.inl rfl) | exact Or.inr (Or.inr rfl)) (hd : (x == ("__debug__" : Str)) = false := by decide) (hcd : (x == ("__classdict__" : Str)) = false := by decide)
    (hbase : attributeBase (.Name x px) "append" X.env (eval (.Name x px) X.env) = eval (.Name x px) X.env := by rfl)
    (hfew : ((backTo pos (starEach [e] X.env)).all (fun x => !x.1) && (backToKw pos (keywordEach [] X.env)).all (fun x => x.1.isSome) && decide (([e] : List Expr).length + ([] : List Keyword).length + (if ([] : List Keyword).isEmpty then 0 else 1) < 30)) = true := by rfl)
    (hline : (apos.endLine == pos.line) = true := by rfl) (hs : PosOk e X := by rfl) (hplain : PosPl pos X := by rfl) : SE G O E X (.Call (.Attribute (.Name x px) "append" apos) [e] [] pos) (mMut i isLst ms appendD) :=
  SE.mut hK PySem.F.plainAttrs_list PySem.F.slot_list_append PySem.F.type_list_append mt_append tyAt_lst (fun x h => .inl h) okM_append ha hN hv hd hcd hbase hfew hline hs hplain
theorem SE.extend (hK : X.K = G.K) (ha : SL G O E X [e] ms) (hN : X.N[i]? = some x := by rfl) (hv : Vis X.env.scope x := by first | exact Or.inl rfl | exact Or.inr (Or.inl rfl) | exact Or.inr (Or.inr rfl)) (hd : (x == ("__debug__" : Str)) = false := by decide) (hcd : (x == ("__classdict__" : Str)) = false := by decide)
    (hbase : attributeBase (.Name x px) "extend" X.env (eval (.Name x px) X.env) = eval (.Name x px) X.env := by rfl)
    (hfew : ((backTo pos (starEach [e] X.env)).all (fun x => !x.1) && (backToKw pos (keywordEach [] X.env)).all (fun x => x.1.isSome) && decide (([e] : List Expr).length + ([] : List Keyword).length + (if ([] : List Keyword).isEmpty then 0 else 1) < 30)) = true := by rfl)
    (hline : (apos.endLine == pos.line) = true := by rfl) (hs : PosOk e X := by rfl) (hplain : PosPl pos X := by rfl) : SE G O E X (.Call (.Attribute (.Name x px) "extend" apos) [e] [] pos) (mMut i isLst ms extendD) :=
  SE.mut hK PySem.F.plainAttrs_list PySem.F.slot_list_extend PySem.F.type_list_extend mt_extend tyAt_lst (fun x h => .inl h) okM_extend ha hN hv hd hcd hbase hfew hline hs hplain
theorem SE.update (hK : X.K = G.K) (ha : SL G O E X [e] ms) (hN : X.N[i]? = some x := by rfl) (hv : Vis X.env.scope x := by first | exact Or.inl rfl | exact Or.inr (Or.inl rfl) | exact Or.inr (Or.inr rfl)) (hd : (x == ("__debug__" : Str)) = false := by decide) (hcd : (x == ("__classdict__" : Str)) = false := by decide)
    (hbase : attributeBase (.Name x px) "update" X.env (eval (.Name x px) X.env) = eval (.Name x px) X.env := by rfl)
    (hfew : ((backTo pos (starEach [e] X.env)).all (fun x => !x.1) && (backToKw pos (keywordEach [] X.env)).all (fun x => x.1.isSome) && decide (([e] : List Expr).length + ([] : List Keyword).length + (if ([] : List Keyword).isEmpty then 0 else 1) < 30)) = true := by rfl)
    (hline : (apos.endLine == pos.line) = true := by rfl) (hs : PosOk e X := by rfl) (hplain : PosPl pos X := by rfl) : SE G O E X (.Call (.Attribute (.Name x px) "update" apos) [e] [] pos) (mMut i isDct ms updateD) :=
  SE.mut hK PySem.F.plainAttrs_dict PySem.F.slot_dict_update PySem.F.type_dict_update mt_updK tyAt_dct (fun x h => .inr h) okM_update ha hN hv hd hcd hbase hfew hline hs hplain
theorem SE.pop (hK : X.K = G.K) (hN : X.N[i]? = some x := by rfl) (hv : Vis X.env.scope x := by first | exact Or.inl rfl | exact Or.inr (Or.inl rfl) | exact Or.inr (Or.inr rfl)) (hd : (x == ("__debug__" : Str)) = false := by decide) (hcd : (x == ("__classdict__" : Str)) = false := by decide)
    (hbase : attributeBase (.Name x px) "pop" X.env (eval (.Name x px) X.env) = eval (.Name x px) X.env := by rfl) (hline : (apos.endLine == pos.line) = true := by rfl) :
    SE G O E X (.Call (.Attribute (.Name x px) "pop" apos) [] [] pos) (mMut i isLst mNil popD) :=
  SE.mut0 hK PySem.F.plainAttrs_list PySem.F.slot_list_pop PySem.F.type_list_pop mt_pop tyAt_lst (fun x h => .inl h) okM_pop hN hv hd hcd hbase hline
/-! ### x[k] = e -/
theorem put_read {i : Nat} {me mk : M R} {f : D → D → D → Option D} {Dn : Ends} {σ : L2.St} {H : Hp} (h : tS G O E (sPut i me mk f) Dn σ H) :
    tE G O E me σ H fun v H1 => ∃ o, σ[i]? = some (some o) ∧ tE G O E mk σ H1 fun u H2 => ∃ (fl : Fl) (x j d y : D) (F : Fz) (L : List Cell), fl.own = true ∧ Good G H2 F ((o, fl, x) :: L) ∧ Rep G F v d ∧ Among L u j ∧ Rep G F u j ∧ f x j d = some y ∧
      ∀ H', Good G H' F ((o, fl, y) :: L) → Dn.nx σ H' := by
  obtain ⟨ρ, T0, F, st, w⟩ := h
  unfold sPut at w
  split at w
  · rename_i s0 e0
    obtain ⟨o, ho, _⟩ := st.sl.has i s0 e0
    refine tE_s st w fun r ρ1 v H1 F1 rv st1 w1 => ⟨o, ho, ?_⟩
    cases r with
    | s j =>
      refine ⟨ρ1, T0, F1, st1, w1.bnd.imp fun rb ρ2 w2 u H2 F2 _ _ => ?_⟩
      exact w2.elim
    | v fl0 d =>
      obtain ⟨F1', st1'⟩ := freeze_top (T := T0) (by exact st1)
      refine ⟨ρ1, (v, .sh, d) :: T0, F1', st1', (w1.bnd.imp fun rb ρ2 w2 u H2 F2 ru st2 => ?_ : Wp G O E σ T0 (mk ρ1) _).ext (T' := [(v, .sh, d)]) fun a ρ9 q => q⟩
      cases rb with
      | s j => exact w2.elim
      | v fl1 j =>
        obtain ⟨F3, st3⟩ := freeze_top (T := (v, .sh, d) :: T0) (by exact st2)
        split at w2
        · rename_i v' j' fl x q1 q2 e3
          cases q1
          cases q2
          split at w2
          · rename_i hfl
            cases ef : f x j d with
            | none => rw [ef] at w2; exact w2.elim
            | some y =>
              rw [ef] at w2
              obtain ⟨o', h1, h2, g⟩ := st3.front e3
              rw [ho] at h1
              cases h1
              have ru := (Good.perm g (List.Perm.cons _ (List.perm_middle (l₁ := live σ (ρ2.set i none))))).tail.repH rfl
              have rd := (Good.perm g (List.Perm.cons _ (List.perm_middle (l₁ := live σ (ρ2.set i none))))).tail.tail
              have rd := (rd.perm (List.perm_middle (l₁ := live σ (ρ2.set i none)))).repH rfl
              refine ⟨fl, x, j, d, y, F3, _, hfl, g, rd, ⟨.sh, List.mem_append_right _ List.mem_cons_self⟩, ru, ef, fun H' g' => w2 σ H' F3 ?_⟩
              have g2 : Good G H' F3 ((o, fl, y) :: (live σ (ρ2.set i none) ++ T0)) := g'.sub ((List.Sublist.append_left ((List.sublist_cons_self _ _).trans (List.sublist_cons_self _ _)) _).cons_cons _)
              exact ⟨st3.sl.upd e3 fun p => p, g2.perm ((live_put' (s := (fl, y)) ho (lt_of_get e3)).symm.append_right _)⟩
          · exact w2.elim
        · exact w2.elim
  · exact w.elim
theorem SS.putL {i : Nat} {x : Str} {kx ex : Expr} {mk me : M R} {px p2 pos : Pos} (he : SE G O E X ex me) (hk : SE G O E X kx mk) (hN : X.N[i]? = some x := by rfl) (hv : Vis X.env.scope x := by first | exact Or.inl rfl | exact Or.inr (Or.inl rfl) | exact Or.inr (Or.inr rfl)) (hd : (x == ("__debug__" : Str)) = false := by decide) (hcd : (x == ("__classdict__" : Str)) = false := by decide)
    (ha : ∀ v, assign (.Subscript (.Name x px) kx p2) X.env v = (do
      let ov ← holding [v] (eval (.Name x px) X.env)
      let iv ← holding [v, ov] (eval kx X.env)
      standAt p2
      holding [v, ov, iv] (setItem ov iv v)
      release [v, ov, iv] []) := by intro _; rfl)
    (hs : swapsWithSole [.Subscript (.Name x px) kx p2] ex pos.line X.env = pure false := by rfl) (hw : swappedStores [.Subscript (.Name x px) kx p2] ex X.env = pure none := by rfl) (h1 : (assignEach [.Subscript (.Name x px) kx p2] X.env).map (·.2) = [assign (.Subscript (.Name x px) kx p2) X.env] := by rfl) :
    SS G O E X (.Assign [.Subscript (.Name x px) kx p2] ex pos) (sPut i me mk putList) := by
  refine PS.imp (ps_asg he (pg_sub (pe_var hN hv hd hcd) hk set_list ha) hs hw h1) fun Dn σ H h => ?_
  obtain ⟨ρ, T, F, st, w⟩ := put_read h
  refine ⟨ρ, T, F, st, w.imp fun r ρ1 q v H1 F1 rv st1 => ?_⟩
  obtain ⟨o, ho, hq⟩ := q v H1 F1 rv st1
  refine ⟨o, ho, ?_⟩
  obtain ⟨ρ2, T2, F2, st2, w2⟩ := hq
  refine ⟨ρ2, T2, F2, st2, w2.imp fun r2 ρ3 q2 u H2 F3 ru st3 => ?_⟩
  obtain ⟨fl, y, j, d, z, F4, L, hfl, g, rd, hj, rj, ef, fin⟩ := q2 u H2 F3 ru st3
  unfold putList at ef
  split at ef
  · rename_i ds n
    cases e : ixN ds.length n with
    | none => rw [e] at ef; cases ef
    | some m =>
      rw [e] at ef
      cases ef
      obtain ⟨p, ep, _, vs, hs, rp⟩ := g.ownH (x := (o, fl, .lst ds)) hfl
      dsimp only at ep
      subst ep
      refine ⟨p, vs, n, m, rfl, g.viewR rj, hs, by rw [rp.length]; exact e, fin _ ?_⟩
      exact g.write hfl ⟨vs.set m v, upd_same, rp.set m rd⟩
  · cases ef
theorem SS.putK {i : Nat} {x : Str} {kx ex : Expr} {mk me : M R} {px p2 pos : Pos} (c : CxOk gu G E k X) (he : SE G O E X ex me) (hk : SE G O E X kx mk) (hN : X.N[i]? = some x := by rfl) (hv : Vis X.env.scope x := by first | exact Or.inl rfl | exact Or.inr (Or.inl rfl) | exact Or.inr (Or.inr rfl)) (hd : (x == ("__debug__" : Str)) = false := by decide) (hcd : (x == ("__classdict__" : Str)) = false := by decide)
    (hs : swapsWith ex (some (.Subscript (.Name x px) kx p2)) pos.line X.env = pure false := by rfl) :
    SS G O E X (.Assign [.Subscript (.Name x px) kx p2] ex pos) (sPut i me mk putDict) := by
  refine PS.imp (ps_dput c.u1 (pe_var hN hv hd hcd) hk he hs) fun Dn σ H h => ?_
  obtain ⟨ρ, T, F, st, w⟩ := put_read h
  refine ⟨ρ, T, F, st, w.imp fun r ρ1 q v H1 F1 rv st1 => ?_⟩
  obtain ⟨o, ho, hq⟩ := q v H1 F1 rv st1
  refine ⟨o, ho, ?_⟩
  obtain ⟨ρ2, T2, F2, st2, w2⟩ := hq
  refine ⟨ρ2, T2, F2, st2, w2.imp fun r2 ρ3 q2 u H2 F3 ru st3 => ?_⟩
  obtain ⟨fl, y, j, d, z, F4, L, hfl, g, rd, hj, rj, ef, fin⟩ := q2 u H2 F3 ru st3
  unfold putDict at ef
  split at ef
  · rename_i kvs
    cases e : keyOf j with
    | none => rw [e] at ef; cases ef
    | some q =>
      rw [e] at ef
      dsimp only at ef
      split at ef
      · rename_i hz
        cases ef
        obtain ⟨p, ep, _, vs, hs, rp⟩ := g.ownH (x := (o, fl, .dK kvs)) hfl
        dsimp only at ep
        subst ep
        refine ⟨p, _, rfl, by rw [keyOf_view (g.viewR rj) e]; exact DPut.k hs (by rw [rp.length]; exact hz), fin _ ?_⟩
        exact g.write hfl ⟨_, upd_same, repK_put rp rd⟩
      · cases ef
  · rename_i kvs
    split at ef
    · rename_i ks
      cases e : keysOf ks with
      | none => rw [e] at ef; cases ef
      | some q =>
        rw [e] at ef
        dsimp only at ef
        split at ef
        · rename_i hz
          cases ef
          obtain ⟨p, ep, _, vs, hs, rp⟩ := g.ownH (x := (o, fl, .dT kvs)) hfl
          dsimp only at ep
          subst ep
          obtain ⟨b, us, eu, hb, rq⟩ := g.viewR rj
          refine ⟨p, _, rfl, by rw [eu]; exact DPut.t hs (by rw [hb, keysOf_reps rq e fun v d r => g.viewR r]) (by rw [rp.length]; exact hz), fin _ ?_⟩
          exact g.write hfl ⟨_, upd_same, repK_put rp rd⟩
        · cases ef
    · cases ef
  · cases ef
/-! ### x op= e -/
theorem SS.aug {i : Nat} {x : Str} {ex : Expr} {me : M R} {op : Operator} {r : R2} {f : D → D → Option (Fl × D)} {px pos : Pos} (nd : X.N.Nodup) (ho : OpR X (inplaceOp op) r) (hr : Ok2 G r f) (he : SE G O E X ex me) (hi : X.N[i]? = some x := by rfl) (hx : Loc X.env.scope x := by first | exact Or.inl rfl | exact Or.inr rfl)
    (hf : X.fn x = true ∨ X.env.scope.names.lookup x = some .local := by first | exact .inl rfl | exact .inr rfl) : SS G O E X (.AugAssign (.Name x px) op ex pos) (sAug i me f) := by
  refine PS.imp (ps_aug (ti := r) nd hi hx he ho hf) fun Dn σ H ⟨ρ, T, F, st, w⟩ => ?_
  unfold sAug at w
  split at w
  · rename_i fl0 x0 e0
    split at w
    · rename_i hfl
      obtain ⟨o, h1, _, g0⟩ := st.front e0
      have v0 := g0.view (x := (o, fl0, x0)) List.mem_cons_self
      have rp : ∀ F, Rep G F o x0 := fun F => by
        cases x0 with
        | non => rw [show o = .non from v0]; exact .non
        | bl b => rw [show o = .bl b from v0]; exact .bl b
        | int b => rw [show o = .int b from v0]; exact .int b
        | str b => rw [show o = .str b from v0]; exact .str b
        | _ => cases hfl
      refine ⟨o, h1, tE_s st w fun rb ρ1 u H1 F1 ru st1 w1 => ?_⟩
      cases e : deref ρ1 rb with
      | none => rw [e] at w1; exact w1.elim
      | some y =>
        rw [e] at w1
        have w1 : Ps G O E Dn T (match f x0 y with
          | some (fl, d) => if i < ρ1.length ∧ fl.par = false then .ok .nx (ρ1.set i (some (fl, d))) else .bad
          | none => .bad) := w1
        have g1 := st1.gd.rep (x := (o, .sh, x0)) rfl (rp F1)
        obtain ⟨fl1, hm⟩ := st1.mem ru mem_temp e
        refine hr H1 F1 _ o u x0 y _ g1 ⟨.sh, List.mem_cons_self⟩ ⟨fl1, List.mem_cons_of_mem _ hm⟩ ?_
        cases ef : f x0 y with
        | none => rw [ef] at w1; exact w1.elim
        | some z =>
          obtain ⟨fl, d⟩ := z
          rw [ef] at w1
          dsimp only at w1
          split at w1
          · rename_i hh
            intro w' H' F' g'
            refine w1 _ H' F' (St.setS (T := T) (St.push st1.sl ?_) hh.1 hh.2)
            exact g'.sub (((List.Sublist.append_left (List.sublist_append_right _ _) _).trans (List.sublist_cons_self _ _)).cons_cons _)
          · exact w1.elim
    · exact w.elim
  · exact w.elim
theorem ok_addI : Ok2 G (rI0 fun i j => .int (i + j)) addI := ok_iD0
theorem SS.augAdd {i : Nat} {x : Str} {ex : Expr} {me : M R} {px pos : Pos} (nd : X.N.Nodup) (he : SE G O E X ex me) (hi : X.N[i]? = some x := by rfl) (hx : Loc X.env.scope x := by first | exact Or.inl rfl | exact Or.inr rfl)
    (hf : X.fn x = true ∨ X.env.scope.names.lookup x = some .local := by first | exact .inl rfl | exact .inr rfl) : SS G O E X (.AugAssign (.Name x px) .Add ex pos) (sAug i me addI) := SS.aug nd iop_add ok_addI he hi hx hf

/-! ### a, b = x, y -/
def tRs (G : Gx) (O : List V) (E : XK) (m : M (List (Fl × D))) : TA := fun σ H Q => ∃ ρ T F, St G O ρ σ T H F ∧ Wp G O E σ T (m ρ) fun as ρ' => ∀ vs H' F', vs.length = as.length → St G O ρ' σ (argC vs as ++ T) H' F' → Q vs H'
def SRs (G : Gx) (O : List V) (E : XK) (X : Cx) (es : List Expr) (ms : List (M R)) : Prop := PA X es (tRs G O E (mRs ms))
theorem SRs.nil : SRs G O E X [] [] := PA.imp pa_nil fun σ H Q ⟨ρ, T, F, st, w⟩ => w [] H F rfl st
theorem SRs.cons {e : Expr} {es : List Expr} {me : M R} {ms : List (M R)} (he : SE G O E X e me) (hs : SRs G O E X es ms) (hst : starEach (e :: es) X.env = (false, eval e X.env) :: starEach es X.env := by rfl) : SRs G O E X (e :: es) (me :: ms) := by
  refine PA.imp (pa_cons he hs hst) fun σ H Q ⟨ρ, T, F, st, w⟩ => ?_
  simp only [mRs] at w
  refine tE_bnd st w fun ra ρ1 v H1 F1 rv st1 w1 => ?_
  cases ra with
  | s i => exact w1.elim
  | v fl d =>
    have w1 : Wp G O E σ T (bnd (mRs ms) (fun ds => pur ((fl, d) :: ds)) ρ1) _ := w1
    refine ⟨ρ1, (v, fl, d) :: T, F1, st1, (w1.ext (T' := [(v, fl, d)]) fun _ _ x => x).bnd.imp fun ds ρ2 w3 vs H3 F3 hl st3 => ?_⟩
    exact w3 (v :: vs) H3 F3 (by simp [hl]) ⟨st3.sl, st3.gd.perm (List.Perm.append_left _ List.perm_middle)⟩
def setV : List Nat → List V → L2.St → L2.St
  | i :: is, v :: vs, σ => setV is vs (σ.set i (some v))
  | _, _, σ => σ
theorem setAll_ok : ∀ {is : List Nat} {vs : List V} {as : List (Fl × D)} {ρ ρ' : Env} {σ : L2.St} {T : List Cell} {H : Hp} {F : Fz}, vs.length = as.length → setAll is as ρ = some ρ' → St G O ρ σ (argC vs as ++ T) H F → St G O ρ' (setV is vs σ) T H F
  | [], [], [], ρ, ρ', σ, T, H, F, _, e, st => by cases e; exact st
  | i :: is, v :: vs, a :: as, ρ, ρ', σ, T, H, F, hl, e, st => by
    simp only [setAll] at e
    split at e
    · rename_i hh
      refine setAll_ok (is := is) (vs := vs) (as := as) (by simpa using hl) e ?_
      exact St.setS (T := argC vs as ++ T) st hh.1 hh.2
    · cases e
  | [], _ :: _, [], _, _, _, _, _, _, hl, _, _ => by cases hl
  | [], [], _ :: _, _, _, _, _, _, _, hl, _, _ => by cases hl
  | [], _ :: _, _ :: _, _, _, _, _, _, _, _, e, _ => by cases e
  | _ :: _, [], [], _, _, _, _, _, _, _, e, _ => by cases e
  | _ :: _, [], _ :: _, _, _, _, _, _, _, hl, _, _ => by cases hl
  | _ :: _, _ :: _, [], _, _, _, _, _, _, hl, _, _ => by cases hl
theorem setAll_len : ∀ {is : List Nat} {as : List (Fl × D)} {ρ ρ' : Env}, setAll is as ρ = some ρ' → is.length = as.length
  | [], [], _, _, _ => rfl
  | _ :: is, _ :: as, _, _, e => by
    simp only [setAll] at e
    split at e
    · simp [setAll_len e]
    · cases e
  | [], _ :: _, _, _, e => by cases e
  | _ :: _, [], _, _, e => by cases e
theorem tRs_s {ms : List (M R)} {f : List (Fl × D) → M Flow} {ρ : Env} {σ : L2.St} {T : List Cell} {H : Hp} {F : Fz} {Dn : Ends} {Q : List V → Hp → Prop} (s : St G O ρ σ T H F) (h : Ps G O E Dn T (bnd (mRs ms) f ρ))
    (q : ∀ r ρ1 v H1 F1, v.length = r.length → St G O ρ1 σ (argC v r ++ T) H1 F1 → Ps G O E Dn T (f r ρ1) → Q v H1) : tRs G O E (mRs ms) σ H Q :=
  ⟨ρ, T, F, s, h.bnd.imp fun r ρ1 w v H1 F1 rv s1 => q r ρ1 v H1 F1 rv s1 w⟩
theorem len2 : ∀ {vs : List V}, vs.length = 2 → ∃ v u, vs = [v, u]
  | [v, u], _ => ⟨v, u, rfl⟩
  | [], h => by cases h
  | [_], h => by cases h
  | _ :: _ :: _ :: _, h => by simp at h
theorem len3 : ∀ {vs : List V}, vs.length = 3 → ∃ v u t, vs = [v, u, t]
  | [v, u, t], _ => ⟨v, u, t, rfl⟩
  | [], h => by cases h
  | [_], h => by cases h
  | [_, _], h => by cases h
  | _ :: _ :: _ :: _ :: _, h => by simp at h
theorem SS.par2 {i j : Nat} {x y : Str} {px py pt p2 : Pos} {kt k2 : Nat} (c : CxOk gu G E k X) (h : SRs G O E X [a, b] [ma, mb]) (hi : X.N[i]? = some x := by rfl) (hj : X.N[j]? = some y := by rfl) (hij : i ≠ j := by decide)
    (hx : X.env.scope.names.lookup x = some .local := by rfl) (hy : X.env.scope.names.lookup y = some .local := by rfl) (hw : swappedStores [.Tuple [.Name x px, .Name y py] kt pt] (.Tuple [a, b] k2 p2) X.env = pure (some [x, y]) := by rfl)
    (hs : swapsWithSole [.Tuple [.Name x px, .Name y py] kt pt] (.Tuple [a, b] k2 p2) pos.line X.env = pure false := by rfl) : SS G O E X (.Assign [.Tuple [.Name x px, .Name y py] kt pt] (.Tuple [a, b] k2 p2) pos) (sPar [i, j] [ma, mb]) := by
  refine PS.imp (ps_par c.calm c.nd hi hj hij hx hy h hw hs) fun Dn σ H ⟨ρ, T, F, st, w⟩ => ?_
  refine tRs_s st w fun as ρ1 vs H1 F1 hl st1 w1 => ?_
  cases e : setAll [i, j] as ρ1 with
  | none => rw [e] at w1; exact w1.elim
  | some ρ2 =>
    rw [e] at w1
    have hn := setAll_len e
    have st2 := setAll_ok hl e st1
    have hv : vs.length = 2 := by rw [hl, ← hn]; rfl
    obtain ⟨v, u, rfl⟩ := len2 hv
    exact ⟨v, u, rfl, w1 _ H1 F1 st2⟩
theorem SS.par3 {i j l : Nat} {x y z : Str} {px py pz pt p2 : Pos} {kt k2 : Nat} (cx : CxOk gu G E k X) (h : SRs G O E X [a, b, c] [ma, mb, mc]) (hi : X.N[i]? = some x := by rfl) (hj : X.N[j]? = some y := by rfl) (hl0 : X.N[l]? = some z := by rfl) (hij : i ≠ j := by decide) (hil : i ≠ l := by decide) (hjl : j ≠ l := by decide)
    (hx : X.env.scope.names.lookup x = some .local := by rfl) (hy : X.env.scope.names.lookup y = some .local := by rfl) (hz : X.env.scope.names.lookup z = some .local := by rfl) (hw : swappedStores [.Tuple [.Name x px, .Name y py, .Name z pz] kt pt] (.Tuple [a, b, c] k2 p2) X.env = pure (some [x, y, z]) := by rfl)
    (hs : swapsWithSole [.Tuple [.Name x px, .Name y py, .Name z pz] kt pt] (.Tuple [a, b, c] k2 p2) pos.line X.env = pure false := by rfl) : SS G O E X (.Assign [.Tuple [.Name x px, .Name y py, .Name z pz] kt pt] (.Tuple [a, b, c] k2 p2) pos) (sPar [i, j, l] [ma, mb, mc]) := by
  refine PS.imp (ps_par3 cx.calm cx.nd hi hj hl0 hij hil hjl hx hy hz h hw hs) fun Dn σ H ⟨ρ, T, F, st, w⟩ => ?_
  refine tRs_s st w fun as ρ1 vs H1 F1 hl st1 w1 => ?_
  cases e : setAll [i, j, l] as ρ1 with
  | none => rw [e] at w1; exact w1.elim
  | some ρ2 =>
    rw [e] at w1
    have hn := setAll_len e
    have st2 := setAll_ok hl e st1
    have hv : vs.length = 3 := by rw [hl, ← hn]; rfl
    obtain ⟨v, u, t, rfl⟩ := len3 hv
    exact ⟨v, u, t, rfl, w1 _ H1 F1 st2⟩
/-- the pair is made and taken apart -/
def gNames : List Nat → TGs
  | [] => gNil
  | i :: is => gCons (gName i) (gNames is)
theorem gNames_ok : ∀ {is : List Nat} {vs : List V} {σ : L2.St} {H : Hp} {Q : L2.St → Hp → Prop}, vs.length = is.length → Q (setV is vs σ) H → gNames is vs σ H Q
  | [], [], _, _, _, _, q => ⟨rfl, q⟩
  | i :: is, v :: vs, σ, H, Q, hl, q => ⟨v, vs, rfl, gNames_ok (is := is) (by simpa using hl) q⟩
theorem Good.ext {H : Hp} {F : Fz} {L : List Cell} {p : Addr} {vs : List V} (g : Good G H F L) (hp : H p = none) : Good G (upd H p (.tup vs)) F L := by
  have at_ : ∀ b u, H b = some u → upd H p (.tup vs) b = H b := fun b u e => upd_ne fun z => by rw [z, hp] at e; cases e
  refine ⟨fun a d e => ?_, fun y hy => ?_, g.nd, tabs_upd g.tb (.inl hp)⟩
  · obtain ⟨u, q⟩ := (g.fz a d e).ex
    exact (g.fz a d e).mono (fun _ _ z => z) (at_ a u q)
  · have q := g.it y hy
    unfold ItOk at q ⊢
    split
    · rename_i ho
      rw [if_pos ho] at q
      obtain ⟨b, e1, e2, e3⟩ := q
      obtain ⟨u, e4⟩ := e3.ex
      exact ⟨b, e1, e2, e3.mono (fun _ _ z => z) (at_ b u e4)⟩
    · rename_i ho
      rw [if_neg ho] at q
      exact q
theorem SS.parN {es ts : List Expr} {is : List Nat} {mes : List (M R)} {pt p2 : Pos} {kt k2 : Nat} (cx : CxOk gu G E k X) (h : SRs G O E X es mes) (ht : PGs X ts (gNames is)) (hz : is.length ≤ 1000 := by decide) (hn : (assignEach ts X.env).length = is.length := by rfl) (hst : (assignEach ts X.env).findIdx? (·.1) = none := by rfl)
    (hs : swapsWithSole [.Tuple ts kt pt] (.Tuple es k2 p2) pos.line X.env = pure false := by rfl) (hw : swappedStores [.Tuple ts kt pt] (.Tuple es k2 p2) X.env = pure none := by rfl) (h1 : (assignEach [.Tuple ts kt pt] X.env).map (·.2) = [assign (.Tuple ts kt pt) X.env] := by rfl) :
    SS G O E X (.Assign [.Tuple ts kt pt] (.Tuple es k2 p2) pos) (sPar is mes) := by
  refine PS.imp (ps_asg (pe_tup h) (pg_tup cx.calm ht hn hst) hs hw h1) fun Dn σ H ⟨ρ, T, F, st, w⟩ => ?_
  refine tRs_s st w fun as ρ1 vs H1 F1 hl st1 w1 => ?_
  cases e : setAll is as ρ1 with
  | none => rw [e] at w1; exact w1.elim
  | some ρ2 =>
    rw [e] at w1
    have hn := setAll_len e
    refine ⟨by rw [hl, ← hn, sizeLine_eq]; omega, fun p hp => ?_⟩
    refine ⟨p, vs, rfl, SqT.of upd_same, by omega, gNames_ok (by omega) (w1 _ _ F1 (setAll_ok hl e ⟨st1.sl, st1.gd.ext hp⟩))⟩
end
end PP

set_option Elab.async false
set_option linter.all false
set_option maxRecDepth 100000
/-! Pure python, 12: displays of dicts, sorted, count, index, len of a set, list of a range, stores by tuples. -/
namespace PP
open PySem PySem.Spec PyProof.Rows L2

section
variable {G : Gx} {O : List V} {E : XK} {k : Nat} {X : Cx} {a b c : Expr} {pos : Pos} {ma mb mc : M R}
/-! ### {k: v, ..} -/
def mPairs : List (M R × M R) → M (List D)
  | [] => mNil
  | p :: r => mCons p.1 (mCons p.2 (mPairs r))
def flatV : List (V × V) → List V
  | [] => []
  | p :: r => p.1 :: p.2 :: flatV r
theorem mCons_read {me : M R} {ms : M (List D)} {ρ : Env} {σ : L2.St} {T : List Cell} {H : Hp} {F : Fz} {ok : List D → Env → Prop} {Q : VK} (st : St G O ρ σ T H F) (w : Wp G O E σ T (mCons me ms ρ) ok)
    (q : ∀ d ρ1 v H1 F1, St G O ρ1 σ ((v, .sh, d) :: T) H1 F1 → Wp G O E σ ((v, .sh, d) :: T) (ms ρ1) (fun ds ρ2 => ok (d :: ds) ρ2) → Q v H1) : tE G O E me σ H Q := by
  unfold mCons at w
  refine tE_bnd st w fun ra ρ1 v H1 F1 rv st1 w1 => ?_
  cases ra with
  | s i => exact w1.elim
  | v fl d =>
    obtain ⟨F2, st2⟩ := freeze_top (T := T) (by exact st1)
    exact q d ρ1 v H1 F2 st2 ((w1.ext (T' := [(v, .sh, d)]) fun _ _ x => x).bnd)
theorem pairs_read : ∀ {ms : List (M R × M R)} {ρ : Env} {T : List Cell} {F : Fz} {σ : L2.St} {H : Hp} {Q : List (V × V) → Hp → Prop}, St G O ρ σ T H F →
    Wp G O E σ T (mPairs ms ρ) (fun ds ρ' => ∀ (ps : List (V × V)) H' F', (flatV ps).length = ds.length → St G O ρ' σ (shs (flatV ps) ds ++ T) H' F' → Q ps H') → tPairs (ms.map fun p => (tE G O E p.1, tE G O E p.2)) σ H Q
  | [], ρ, T, F, σ, H, Q, st, w => w [] H F rfl st
  | (mk, mv) :: r, ρ, T, F, σ, H, Q, st, w => by
    show tE G O E mk σ H fun x H1 => tE G O E mv σ H1 fun y H2 => tPairs (r.map fun p => (tE G O E p.1, tE G O E p.2)) σ H2 fun ps H3 => Q ((x, y) :: ps) H3
    refine mCons_read st w fun d ρ1 v H1 F1 st1 w1 => mCons_read st1 w1 fun e ρ2 u H2 F2 st2 w2 => pairs_read st2 (w2.imp fun ds ρ3 q ps H3 F3 hl st3 => ?_)
    refine q ((v, u) :: ps) H3 F3 (by simp [flatV, hl]) ⟨st3.sl, st3.gd.perm (List.Perm.append_left _ ?_)⟩
    show (shs (flatV ps) ds ++ (u, Fl.sh, e) :: (v, Fl.sh, d) :: T).Perm ((v, Fl.sh, d) :: (u, Fl.sh, e) :: (shs (flatV ps) ds ++ T))
    exact List.perm_middle.trans ((List.Perm.cons _ List.perm_middle).trans (List.Perm.swap _ _ _))
theorem keyVals_ok {H : Hp} {F : Fz} {L : List Cell} (g : Good G H F L) : ∀ {ps : List (V × V)} {ds : List D} {kvs : List (Key × D)}, Reps G F (flatV ps) ds → keyVals ds = some kvs → ∃ kv : List (Key × V), ps = kv.map (fun x => (kV x.1, x.2)) ∧ RepK G F kv kvs
  | [], ds, kvs, r, e => by
    cases r
    cases e
    exact ⟨[], rfl, .nil⟩
  | (x, y) :: ps, ds, kvs, r, e => by
    cases r with
    | @cons _ d _ ds r1 t =>
      cases t with
      | @cons _ d2 _ ds r2 t =>
        simp only [keyVals] at e
        split at e
        · rename_i kk rest e1 e2
          cases e
          obtain ⟨kv, h1, h2⟩ := keyVals_ok g t e2
          refine ⟨(kk, y) :: kv, ?_, .cons ⟨rfl, r2⟩ h2⟩
          rw [h1, List.map_cons]
          have := keyOf_view (g.viewR r1) e1
          dsimp only at this ⊢
          rw [this]
        · cases e
structure DPs (G : Gx) (O : List V) (E : XK) (X : Cx) (pos : Pos) (keys : List (Option Expr)) (values : List Expr) (ms : List (M R × M R)) : Prop where
  h : PPs X pos keys values (ms.map fun p => (tE G O E p.1, tE G O E p.2))
theorem DPs.nil : DPs G O E X pos [] [] [] := ⟨pps_nil⟩
theorem DPs.cons {ks : List (Option Expr)} {vs : List Expr} {ms : List (M R × M R)} (ha : SE G O E X a ma) (hb : SE G O E X b mb) (h : DPs G O E X pos ks vs ms) : DPs G O E X pos (some a :: ks) (b :: vs) ((ma, mb) :: ms) := ⟨pps_cons ha hb h.h⟩
theorem SE.disp {keys : List (Option Expr)} {values : List Expr} {ms : List (M R × M R)} (h : DPs G O E X pos keys values ms) (hall : keys.all (·.isSome) = true := by rfl) (hl : keys.length = values.length := by rfl) (h0 : keys ≠ [] := by simp)
    (h15 : keys.length ≤ 15 := by decide) : SE G O E X (.Dict keys values pos) (mDict (mPairs ms)) := by
  refine PE.imp (pe_disp h.h hall hl h0 h15) fun σ H Q ⟨ρ, T, F, st, w⟩ p hp => ?_
  have g0 : Good G (upd H p (.dK [])) F ((.ref p, .ow, .dK []) :: (live σ ρ ++ T)) := st.gd.new (p := p) (o := .dK []) (d := .dK []) hp ⟨[], upd_same, .nil⟩ rfl
  unfold mDict at w
  refine pairs_read (T := (.ref p, .ow, .dK []) :: T) (St.push st.sl g0) ((w.bnd.ext (T' := [(.ref p, .ow, .dK [])]) fun _ _ x => x).imp fun ds ρ1 q ps H1 F1 hlen st1 => ?_)
  have gg : Good G H1 F1 (shs (flatV ps) ds ++ (live σ ρ1 ++ ((.ref p, .ow, .dK []) :: T))) := Good.swap st1.gd
  have rp := shs_reps hlen gg
  have g1 : Good G H1 F1 ((.ref p, .ow, .dK []) :: (live σ ρ1 ++ T)) := gg.right.perm List.perm_middle
  cases e : keyVals ds with
  | none => rw [e] at q; exact q.elim
  | some kvs =>
    rw [e] at q
    dsimp only at q
    split at q
    · rename_i hz
      obtain ⟨kv, ep, rk⟩ := keyVals_ok g1 rp e
      obtain ⟨p', e1, _, vs, hs, r0⟩ := g1.ownH rfl
      cases e1
      cases r0
      refine ⟨hs, kv, ep, by rw [rk.length]; exact hz, q (.ref p) _ F1 trivial (St.push st1.sl ?_)⟩
      exact g1.write rfl ⟨_, upd_same, repK_merge rk .nil⟩
    · exact q.elim

/-! ### sorted -/
theorem sorted_seq {A : Around} {s : Shared} {prog : Program} {w : World} {Q : Value → Shared → Prop} {Er : Value → Shared → Prop} {l : Addr} {vs : List Value} {ltv : Value → Value → Bool} {T : String} {o : Obj} {n : Nat} (O : SrtO.Swo ltv) (hT : T = "list" ∨ T = "tuple")
    (ho : s.heap.get? l = some o) (hc : o.cls = .type T) (hd : o.data = .seq vs.toArray n) (hz : vs.length ≤ sizeLine)
    (hS : 2 ≤ vs.length → ∀ (h₁ : Heap) (a : Addr), (∀ b o, s.heap.get? b = some o → b ≠ a ∧ h₁.get? b = some o) → SrtO.SortableO prog w A.in1.in1 { s with heap := h₁ } a vs ltv)
    (h : ∀ (h1 h' : Heap) (a : Addr) (out : List Value) (e : Nat), (∀ b o, s.heap.get? b = some o → h1.get? b = some o) → (∀ b o, h1.get? b = some o → h'.get? b = some o) → h1.objs.size ≤ a → SrtO.Srtd ltv out → SrtO.Stb ltv out vs → h'.get? a = some (seqObj "list" out.toArray e) → Q (.ref a) { s with heap := h' }) :
    wpAny (model prog w) A (call (.builtin "sorted") [.ref l]) Q Er s := by
  refine Calls.call_function_entry kind_sorted plain_sorted entry_sorted (args_sorted1 _) ?_
  unfold Builtin.«sorted»
  refine wpAny_bind (m := checkCount "sorted" 1 1 _) (wpAny_pure ?_)
  refine wpAny_bind (wpAny_collect_seq l hT ho hc hd (fun h1 k1 => ?_) (by simpa using hz))
  have e0 : vs.toArray.toList = vs := by simp
  rw [e0]
  refine wpAny_bind (wpAny_newList ?_ hz)
  have hoL : (h1.push (seqObj "list" vs.toArray 0)).get? h1.objs.size = some (seqObj "list" vs.toArray 0) := Heap.get?_push_size _ rfl
  have keep : ∀ b o, s.heap.get? b = some o → b ≠ h1.objs.size ∧ (h1.push (seqObj "list" vs.toArray 0)).get? b = some o := fun b o q =>
    ⟨Nat.ne_of_lt (Heap.lt_size (k1 b o q)), Heap.get?_push_of_some _ (k1 b o q)⟩
  show wpAny _ _ _ _ _ { s with heap := h1.push (seqObj "list" vs.toArray 0) }
  refine wpAny_bind (wpAny_holding (wpAny_call_entry slot_list_sort ⟨_, hoL, rfl⟩ entry_list_sort (SrtO.list_sort_ord O hoL hz (fun h2 => hS h2 _ _ keep) fun out hs hb => ⟨_, rfl, ?_⟩) (args_list_sort _)))
  obtain ⟨ep, he⟩ := sortedHeap_at (vs := vs) (out := out.toArray) hoL
  refine wpAny_pure ⟨_, rfl, h h1 _ h1.objs.size out ep k1 (fun b o q => ?_) (Nat.le_refl _) hs hb he⟩
  have hlt : b < h1.objs.size := Heap.lt_size q
  rw [sortedHeap_old (Nat.ne_of_lt hlt) (Nat.lt_of_lt_of_eq (Nat.lt_succ_of_lt hlt) (size_push' _ _).symm)]
  exact Heap.get?_push_of_some _ q
/-- sorted of a list or tuple of ints -/
def rSortAny (K : PySem.W.Frag) : List V → Hp → VK → Prop := fun vs H Q => ∃ (a : Addr) (ns : List Int), vs = [V.ref a] ∧ (SqL K H a (ns.map V.int) ∨ SqT K H a (ns.map V.int)) ∧ ∀ (ns' : List Int) (p : Addr), ns'.Perm ns → ns'.Pairwise (· ≤ ·) → H p = none → Q (.ref p) (upd H p (.lst (ns'.map V.int)))
theorem cr_sortedA : CallR X (.builtin "sorted") (rSortAny X.K) := by
  intro pins s σ H vs us Q I r h
  obtain ⟨a, ns, rfl, hs, q⟩ := h
  have main : ∀ (its : List Value) (T : String) (o : Obj) (n : Nat), (T = "list" ∨ T = "tuple") → s.heap.get? a = some o → o.cls = .type T → o.data = .seq its.toArray n → Vals (ns.map V.int) its → (ns.map V.int).length ≤ sizeLine →
      wpAny (model X.prog X.w) X.A (call (.builtin "sorted") [.ref a]) (EP X pins σ Q) X.xe s := by
    intro its T o n hT ho hc hd rv hz
    have hi := rv.ints
    refine sorted_seq SrtO.swo_int hT ho hc hd (by rw [← rv.length]; exact hz) (fun h2 h₁ a' _ => SrtO.ints_sortable hi h2) fun h1 h' p out e k1 k2 hp hs hb he => ?_
    obtain ⟨j1, j2, j3⟩ := SrtO.ints_out hi hs hb
    have I1 : Inv X pins σ H { s with heap := h1 } := I.kept (t' := s.toks) k1
    have hlen : ((out.map SrtO.iv).map V.int).length ≤ sizeLine := by
      rw [List.length_map, j2.length_eq]
      rw [List.length_map] at hz
      exact hz
    exact ⟨.ref p, upd H p (.lst ((out.map SrtO.iv).map V.int)), I1.laid (t' := s.toks) k2 hp ⟨hlen, out, e, vals_of_ints j1, he⟩, rfl, q _ _ j2 j3 (I1.hok.fresh hp)⟩
  rw [Vals.ref1 r]
  rcases hs with hs | hs
  · obtain ⟨its, rv, hl, hz⟩ := I.list hs
    obtain ⟨o, ho, hc, n, hd⟩ := hl.isList
    exact main its "list" o n (.inl rfl) ho hc hd rv hz
  · obtain ⟨its, rv, hl, hz⟩ := I.tuple hs
    obtain ⟨o, ho, hc, n, hd⟩ := hl
    exact main its "tuple" o n (.inr rfl) ho hc hd rv hz
def sortedAD (x : D) : Option (Fl × D) := match seqOf x with
  | some ds => (intsOf ds).map fun is => (.ow, .lst ((sortI is).map D.int))
  | none => none
theorem SE.sortedA {p : Pos} (hK : X.K = G.K) (hg : Gl X "sorted") (hm : X.mg "sorted" = none) (ha : SE G O E X a ma) (hs : PosOk a X := by rfl) (hpl : PosPl pos X := by rfl) : SE G O E X (.Call (.Name "sorted" p) [a] [] pos) (mOp1 sortedAD ma) := by
  have hr := cr_sortedA (X := X)
  rw [hK] at hr
  refine SE.b1 hr (fun H F L v x Q gd hv m => ?_) hg hm (by decide +kernel) ha hs hpl
  have fin : ∀ (a : Addr) (ns : List Int), v = V.ref a → (SqL G.K H a (ns.map V.int) ∨ SqT G.K H a (ns.map V.int)) → sortedAD x = some (Fl.ow, .lst ((sortI ns).map D.int)) → rSortAny G.K [v] H Q := fun a ns ev hh e => by
    rw [e] at m
    refine ⟨a, ns, by rw [ev], hh, fun ns' q hp hsrt hq => ?_⟩
    rw [sorted_uniq (hp.trans (sortI_perm ns).symm) hsrt (sortI_sorted ns)]
    exact made_lst gd (reps_ints _) hq m
  cases x with
  | lst ds =>
    cases e : intsOf ds with
    | none => simp only [sortedAD, seqOf, e, Option.map_none] at m; exact m.elim
    | some ns =>
      obtain ⟨a, vs, ev, hs, rp⟩ := gd.vw hv
      rw [ints_reps rp e fun v d r => gd.viewR r] at hs
      exact fin a ns ev (.inl (SqL.of hs)) (by simp only [sortedAD, seqOf, e, Option.map_some])
  | tup ds =>
    cases e : intsOf ds with
    | none => simp only [sortedAD, seqOf, e, Option.map_none] at m; exact m.elim
    | some ns =>
      obtain ⟨a, vs, ev, hs, rp⟩ := gd.vw hv
      rw [ints_reps rp e fun v d r => gd.viewR r] at hs
      exact fin a ns ev (.inr (SqT.of hs)) (by simp only [sortedAD, seqOf, e, Option.map_some])
  | _ => simp only [sortedAD, seqOf] at m; exact m.elim

/-! ### xs.count(y), xs.index(y) -/
def rCountD (K : PySem.W.Frag) : V → List V → Hp → VK → Prop := fun x xs H Q => ∃ (a : Addr) (y : V) (d : PyData) (ds : List PyData), x = V.ref a ∧ xs = [y] ∧ Dp K H (V.ref a) (.list ds) ∧ Dp K H y d ∧
  SeqAt.shaped (.list ds) = true ∧ SeqAt.shaped d = true ∧ Q (.int ((ds.filter fun z => PyData.eqv z d).length : Nat)) H
theorem mt_countD (hu : X.A.units + 65 < cLine) : MtR X "list.count" (rCountD X.K) := by
  intro pins s σ H x xs v us Q I rx rxs h
  obtain ⟨a, y, d, ds, rfl, rfl, hl, hy, sl, sd, q⟩ := h
  cases rx
  cases rxs with
  | cons ry rt =>
    rename_i uy ut
    cases rt
    obtain ⟨bs, r1⟩ := Dp.reads I d y uy hy ry
    have hxs : PyData.canLayAll0 ds = true := SeqAt.canLay_of_shaped sl
    have hroom : X.A.units + 1 + min (PyData.depthAll ds) d.depth < cLine := room_in_shaped sd hu
    cases hl with
    | lst hs ha =>
      obtain ⟨its, rv, ⟨⟨cls, dd, data, sls⟩, n, ho, hc, hdn, hdt⟩, hlen⟩ := I.list hs
      simp only at hc hdt
      subst hc hdt
      obtain ⟨as, h4⟩ := Dp.readsAll I ds _ its ha rv
      have hmap : its.map (SeqAt.readOf s.heap) = ds := SeqAt.readsAll_map ds its as hxs h4
      refine call_meets PySem.F.slot_list_count ⟨_, ho, rfl⟩ PySem.F.entry_list_count (PySem.F.args_list_count_2 _ _)
        (SeqAt.list_countAt a its.toArray n dd sls uy (fun u => PyData.eqv (SeqAt.readOf s.heap u) d)) ⟨ho, SeqAt.items_eqAt (vs := its.toArray) (show ReadsAll s.heap its.toArray.toList ds as from h4) r1 hxs (SeqAt.canLay_of_shaped sd) hroom, ?_⟩
      have e : (its.toArray.toList.countP fun u => PyData.eqv (SeqAt.readOf s.heap u) d) = (ds.filter fun z => PyData.eqv z d).length := by
        rw [← hmap, List.countP_eq_length_filter, List.filter_map, List.length_map]
        simp [Function.comp_def]
      rw [e]
      exact ⟨.int _, H, I.tok _, ⟨_, rfl⟩, q⟩
theorem ok_count {G : Gx} : Ok2 G (fun v u => rCountD G.K v [u]) countD := by
  intro H F L v u x y Q gd hv hu m
  unfold countD at m
  split at m
  · rename_i ds
    cases q1 : toPs ds with
    | none => rw [q1] at m; exact m.elim
    | some ps =>
      cases q2 : toP y with
      | none => rw [q1, q2] at m; exact m.elim
      | some p =>
        rw [q1, q2] at m
        dsimp only at m
        split at m
        · rename_i h
          simp only [Bool.and_eq_true] at h
          have hd := dp_of gd (.lst ds) v (.list ps) (gd.vw hv) (by simp only [toP, q1])
          obtain ⟨a, vs, ev, _⟩ := gd.vw hv
          subst ev
          exact ⟨a, u, p, ps, rfl, rfl, hd, dp_of gd y u p (gd.vw hu) q2, h.1, h.2, made_int gd m⟩
        · exact m.elim
  · exact m.elim
theorem findP_ok {p : PyData} : ∀ {ps : List PyData} {j : Nat}, findP p ps = some j → ∃ z, ps[j]? = some z ∧ PyData.eqv z p = true ∧ ∀ (m : Nat) (z' : PyData), m < j → ps[m]? = some z' → PyData.eqv z' p = false
  | [], j, e => by cases e
  | q :: qs, j, e => by
    unfold findP at e
    split at e
    · rename_i h
      cases e
      exact ⟨q, rfl, h, fun m z' hm => by omega⟩
    · rename_i h
      cases e2 : findP p qs with
      | none => rw [e2] at e; cases e
      | some i =>
        rw [e2] at e
        cases e
        obtain ⟨z, h1, h2, h3⟩ := findP_ok e2
        refine ⟨z, by simpa using h1, h2, fun m z' hm hz => ?_⟩
        cases m with
        | zero =>
          have hz : some q = some z' := hz
          cases hz
          simpa using h
        | succ m => exact h3 m z' (Nat.lt_of_succ_lt_succ hm) (by simpa using hz)
theorem ok_index {G : Gx} : Ok2 G (fun v u => rIndexD G.K v [u]) indexD := by
  intro H F L v u x y Q gd hv hu m
  unfold indexD at m
  split at m
  · rename_i ds
    cases q1 : toPs ds with
    | none => rw [q1] at m; exact m.elim
    | some ps =>
      cases q2 : toP y with
      | none => rw [q1, q2] at m; exact m.elim
      | some p =>
        rw [q1, q2] at m
        dsimp only at m
        split at m
        · rename_i h
          simp only [Bool.and_eq_true] at h
          cases q3 : findP p ps with
          | none => rw [q3] at m; exact m.elim
          | some j =>
            rw [q3] at m
            have hd := dp_of gd (.lst ds) v (.list ps) (gd.vw hv) (by simp only [toP, q1])
            obtain ⟨a, vs, ev, _⟩ := gd.vw hv
            subst ev
            obtain ⟨z, z1, z2, z3⟩ := findP_ok q3
            exact ⟨a, u, p, ps, j, z, rfl, rfl, hd, dp_of gd y u p (gd.vw hu) q2, h.1, h.2, z1, z2, z3, made_int gd m⟩
        · exact m.elim
  · exact m.elim
/-- a method of what is looked at -/
def mMet (ty : D → Bool) (f : D → D → Option (Fl × D)) (a b : M R) : M R := bnd a fun ra ρ1 => match deref ρ1 ra with
  | some x0 => if ty x0 then (bnd b fun rb ρ => match deref ρ ra, deref ρ rb with
    | some x, some y => opR ρ (f x y)
    | _, _ => .bad) ρ1 else .bad
  | none => .bad
/-- the type of a thing looked at -/
def TyOk (G : Gx) (T : String) (ty : D → Bool) : Prop := ∀ H F L v x, Good G H F L → Among L v x → ty x = true → tyV G.K T v H
theorem tyOk_lst : TyOk G "list" isLst := fun H F L v x g h e => by
  cases x <;> simp [isLst] at e
  obtain ⟨a, vs, e, hs, _⟩ := g.vw h
  subst e
  exact .inl ⟨rfl, vs, SqL.of hs⟩
def isStr : D → Bool
  | .str _ => true
  | _ => false
theorem tyOk_str : TyOk G "str" isStr := fun H F L v x g h e => by
  cases x <;> simp [isStr] at e
  rw [show v = _ from g.vw h]
  exact rfl
theorem met_read {σ : L2.St} {H : Hp} {T : String} {ty : D → Bool} {r : V → List V → Hp → VK → Prop} {f : D → D → Option (Fl × D)} {Q : VK} (hT : TyOk G T ty) (hr : Ok2 G (fun v u => r v [u]) f) (h : tE G O E (mMet ty f ma mb) σ H Q) :
    tE G O E ma σ H fun v H1 => tyV G.K T v H1 ∧ tE G O E mb σ H1 fun u H2 => r v [u] H2 Q := by
  obtain ⟨ρ, T0, F, st, w⟩ := h
  unfold mMet at w
  refine tE_bnd st w fun ra ρ1 v H1 F1 rv st1 w1 => ?_
  split at w1
  · rename_i x0 ex0
    split at w1
    · rename_i ht
      refine ⟨hT H1 F1 _ v x0 st1.gd (st1.mem rv mem_temp ex0) ht, ?_⟩
      refine tE_bnd (T := temp ra v ++ T0) st1 (w1.ext fun _ _ x => x) fun rb ρ2 u H2 F2 ru st2 w2 => ?_
      split at w2
      · rename_i x y ex ey
        refine hr H2 F2 _ v u x y Q st2.gd (st2.mem rv (fun z hz => List.mem_append_right _ (mem_temp z hz)) ex) (st2.mem ru mem_temp ey) ?_
        refine Made.sub ?_ (made_of (T' := temp ra v ++ T0) (T := T0) st2.sl w2)
        exact List.Sublist.append_left ((List.sublist_append_right _ _).trans (List.sublist_append_right _ _)) _
      · exact w2.elim
    · exact w1.elim
  · exact w1.elim
variable {apos : Pos}
theorem SE.met {name : Str} {T id : String} {ty : D → Bool} {r : V → List V → Hp → VK → Prop} {f : D → D → Option (Fl × D)} (hK : X.K = G.K) (pa : PySem.PlainAttrs T) (slot : PySem.Slot T name id) (htd : typeOf (.builtin id) = pure (.type "method_descriptor")) (hm : MtR X id r) (hT : TyOk G T ty)
    (hr : Ok2 G (fun v u => r v [u]) f) (ha : SE G O E X a ma) (hb : SE G O E X b mb) (hbase : attributeBase a name X.env (eval a X.env) = eval a X.env := by rfl)
    (hfew : ((backTo pos (starEach [b] X.env)).all (fun x => !x.1) && (backToKw pos (keywordEach [] X.env)).all (fun x => x.1.isSome) && decide (([b] : List Expr).length + ([] : List Keyword).length + (if ([] : List Keyword).isEmpty then 0 else 1) < 30)) = true := by rfl)
    (hline : (apos.endLine == pos.line) = true := by rfl) (hs : PosOk b X := by rfl) (hplain : PosPl pos X := by rfl) : SE G O E X (.Call (.Attribute a name apos) [b] [] pos) (mMet ty f ma mb) := by
  refine PE.imp (pe_bm pa slot htd hm ha (pa_cons hb pa_nil hs) hbase hfew hline hs hplain) fun σ H Q h => ?_
  rw [hK]
  exact met_read hT hr h
theorem SE.count (hK : X.K = G.K) (hu : X.A.units + 65 < cLine) (ha : SE G O E X a ma) (hb : SE G O E X b mb) (hbase : attributeBase a "count" X.env (eval a X.env) = eval a X.env := by rfl)
    (hfew : ((backTo pos (starEach [b] X.env)).all (fun x => !x.1) && (backToKw pos (keywordEach [] X.env)).all (fun x => x.1.isSome) && decide (([b] : List Expr).length + ([] : List Keyword).length + (if ([] : List Keyword).isEmpty then 0 else 1) < 30)) = true := by rfl)
    (hline : (apos.endLine == pos.line) = true := by rfl) (hs : PosOk b X := by rfl) (hplain : PosPl pos X := by rfl) : SE G O E X (.Call (.Attribute a "count" apos) [b] [] pos) (mMet isLst countD ma mb) := by
  have h := mt_countD hu
  rw [hK] at h
  exact SE.met hK PySem.F.plainAttrs_list PySem.F.slot_list_count PySem.F.type_list_count h tyOk_lst ok_count ha hb hbase hfew hline hs hplain
theorem SE.index (hK : X.K = G.K) (hu : X.A.units + 65 < cLine) (ha : SE G O E X a ma) (hb : SE G O E X b mb) (hbase : attributeBase a "index" X.env (eval a X.env) = eval a X.env := by rfl)
    (hfew : ((backTo pos (starEach [b] X.env)).all (fun x => !x.1) && (backToKw pos (keywordEach [] X.env)).all (fun x => x.1.isSome) && decide (([b] : List Expr).length + ([] : List Keyword).length + (if ([] : List Keyword).isEmpty then 0 else 1) < 30)) = true := by rfl)
    (hline : (apos.endLine == pos.line) = true := by rfl) (hs : PosOk b X := by rfl) (hplain : PosPl pos X := by rfl) : SE G O E X (.Call (.Attribute a "index" apos) [b] [] pos) (mMet isLst indexD ma mb) := by
  have h := mt_indexD hu
  rw [hK] at h
  exact SE.met hK PySem.F.plainAttrs_list PySem.F.slot_list_index PySem.F.type_list_index h tyOk_lst ok_index ha hb hbase hfew hline hs hplain
/-! ### len(set(xs)), list(range(a, b)) -/
theorem SE.lenSet {p p2 q : Pos} (cx : CxOk gu G E k X) (hg : Gl X "len") (hm : X.mg "len" = none) (hg2 : Gl X "set") (hm2 : X.mg "set" = none) (ha : SE G O E X a ma) (na : PosOk a X := by rfl) :
    SE G O E X (.Call (.Name "len" p) [.Call (.Name "set" p2) [a] [] q] [] pos) (mOp1 lenSetD ma) := by
  refine PE.imp (RZ.pe_lenSetI hg hm hg2 hm2 ha cx.calm na) fun σ H Q h => ?_
  rw [cx.K]
  refine un_read h fun H F L v x gd hv m => ?_
  unfold lenSetD at m
  split at m
  · rename_i ds
    cases e : intsOf ds with
    | none => rw [e] at m; exact m.elim
    | some ns =>
      rw [e] at m
      dsimp only at m
      split at m
      · rename_i hh
        obtain ⟨a, vs, ev, hs, rp⟩ := gd.vw hv
        rw [ints_reps rp e fun v d r => gd.viewR r] at hs
        exact ⟨a, ns, ev, SqL.of hs, hh.1, hh.2, made_int gd m⟩
      · exact m.elim
  · exact m.elim
def mRng1 (hi : M R) : M (Int × Int) := bnd hi fun rb ρ => match (deref ρ rb).bind intOf with
  | some j => .ok (0, j) ρ
  | none => .bad
def tRgD (G : Gx) (O : List V) (E : XK) (m : M (Int × Int)) : L2.St → Hp → (Int → Int → Hp → Prop) → Prop := fun σ H Q => ∃ ρ T F, St G O ρ σ T H F ∧ Wp G O E σ T (m ρ) fun p ρ' => ∀ H' F', St G O ρ' σ T H' F' → Q p.1 p.2 H'
def SRg (G : Gx) (O : List V) (E : XK) (X : Cx) (e : Expr) (m : M (Int × Int)) : Prop := PRg X e (tRgD G O E m)
theorem PRg.imp {e : Expr} {t t' : L2.St → Hp → (Int → Int → Hp → Prop) → Prop} (h : PRg X e t) (w : ∀ σ H Q, t' σ H Q → t σ H Q) : PRg X e t' := fun pins s σ H Q I q => h pins s σ H Q I (w σ H Q q)
theorem SRg.one {p pos : Pos} (hg : Gl X "range") (hm : X.mg "range" = none) (ha : SE G O E X a ma) (na : PosOk a X := by rfl) : SRg G O E X (.Call (.Name "range" p) [a] [] pos) (mRng1 ma) := by
  refine PRg.imp (prg_1 hg hm ha na) fun σ H Q ⟨ρ, T, F, st, w⟩ => ?_
  unfold mRng1 at w
  refine tE_bnd st w fun ra ρ1 v H1 F1 rv st1 w1 => ?_
  cases e : (deref ρ1 ra).bind intOf with
  | none => rw [e] at w1; exact w1.elim
  | some j =>
    rw [e] at w1
    obtain ⟨d, e1, e2⟩ := Option.bind_eq_some_iff.mp e
    cases d <;> simp only [intOf] at e2 <;> cases e2
    exact ⟨j, st1.view rv mem_temp e1, w1 H1 F1 st1.drop⟩
theorem SRg.two {p pos : Pos} (hg : Gl X "range") (hm : X.mg "range" = none) (ha : SE G O E X a ma) (hb : SE G O E X b mb) (na : starEach [a, b] X.env = (false, eval a X.env) :: starEach [b] X.env := by rfl) (nb : PosOk b X := by rfl) (hp : (backTo pos (starEach [b] X.env)).any (·.1) = false := by rfl) :
    SRg G O E X (.Call (.Name "range" p) [a, b] [] pos) (mRng ma mb) := by
  refine PRg.imp (prg_2 hg hm ha hb na nb hp) fun σ H Q ⟨ρ, T, F, st, w⟩ => ?_
  unfold mRng at w
  refine tE_bnd st w fun ra ρ1 v H1 F1 rv st1 w1 => ?_
  refine tE_bnd (T := temp ra v ++ T) st1 (w1.ext fun _ _ x => x) fun rb ρ2 u H2 F2 ru st2 w2 => ?_
  cases e : (deref ρ2 ra).bind intOf with
  | none => rw [e] at w2; exact w2.elim
  | some i =>
    cases e' : (deref ρ2 rb).bind intOf with
    | none => rw [e, e'] at w2; exact w2.elim
    | some j =>
      rw [e, e'] at w2
      obtain ⟨d, e1, e2⟩ := Option.bind_eq_some_iff.mp e
      obtain ⟨d', e1', e2'⟩ := Option.bind_eq_some_iff.mp e'
      cases d <;> simp only [intOf] at e2 <;> cases e2
      cases d' <;> simp only [intOf] at e2' <;> cases e2'
      exact ⟨i, j, st2.view rv (fun z hz => List.mem_append_right _ (mem_temp z hz)) e1, st2.view ru mem_temp e1', w2 H2 F2 st2.drop.drop⟩
theorem reps_rg {F : Fz} (a b : Int) : Reps G F (rgV a b) (rngD a (b - a).toNat 1) := by
  unfold rgV rngD
  generalize List.range (b - a).toNat = l
  induction l with
  | nil => exact .nil
  | cons i l ih =>
    refine .cons ?_ ih
    show Rep G F (.int (a + i)) (.int (a + i * 1))
    rw [Int.mul_one]
    exact .int _
theorem SE.listRg {p : Pos} {e : Expr} {m : M (Int × Int)} (cx : CxOk gu G E k X) (hg : Gl X "list") (hm : X.mg "list" = none) (he : SRg G O E X e m) (na : PosOk e X := by rfl) : SE G O E X (.Call (.Name "list" p) [e] [] pos) (mListRg m) := by
  refine PE.imp (pe_listRg cx.calm hg hm he na) fun σ H Q ⟨ρ, T, F, st, w⟩ => ?_
  unfold mListRg at w
  refine ⟨ρ, T, F, st, w.bnd.imp fun p ρ1 w1 H1 F1 st1 => ?_⟩
  obtain ⟨i, j⟩ := p
  dsimp only at w1 ⊢
  split at w1
  · rename_i h
    simp only [rgOk, small62, Bool.and_eq_true, decide_eq_true_eq] at h
    obtain ⟨⟨⟨h1, h2⟩, h3, h4⟩, h5⟩ := h
    refine ⟨⟨h1, h2, h3, h4, h5⟩, fun q hq => w1 (.ref q) _ F1 trivial (St.push st1.sl ?_)⟩
    exact st1.gd.new (d := .lst _) hq ⟨_, upd_same, reps_rg i j⟩ rfl
  · exact w1.elim
/-! ### x[k] as a target -/
def gPut (i : Nat) (k : M R) (f : D → D → D → Option D) : Tg := fun d ρ0 => match ρ0[i]? with
  | some (some _) => (bnd k fun rb ρ => match rb, ρ[i]? with
    | .v _ j, some (some (fl, x)) => if fl.own then (match f x j d with
        | some y => .ok () (ρ.set i (some (fl, y)))
        | none => .bad) else .bad
    | _, _ => .bad) ρ0
  | _ => .bad
theorem gput_read {i : Nat} {mk : M R} {f : D → D → D → Option D} {σ : L2.St} {H : Hp} {v : V} {Q : L2.St → Hp → Prop} (h : tTg G O [] (gPut i mk f) v σ H Q) :
    ∃ o, σ[i]? = some (some o) ∧ tE G O E mk σ H fun u H2 => ∃ (fl : Fl) (x j d y : D) (F : Fz) (L : List Cell), fl.own = true ∧ Good G H2 F ((o, fl, x) :: L) ∧ Rep G F v d ∧ Rep G F u j ∧ f x j d = some y ∧
      ∀ H', Good G H' F ((o, fl, y) :: L) → Q σ H' := by
  obtain ⟨d, ρ, T, F, st, w⟩ := h
  have w : Wp G O E σ T (gPut i mk f d ρ) (fun _ ρ' => ∀ σ' H' F', Keep [] σ σ' → St G O ρ' σ' T H' F' → Q σ' H') := by
    revert w
    cases gPut i mk f d ρ with
    | ok u ρ' => exact fun w => w
    | exc c p ρ' => exact fun w => w.elim
    | bad => exact fun w => w
  unfold gPut at w
  split at w
  · rename_i s0 e0
    obtain ⟨o, ho, _⟩ := st.sl.has i s0 e0
    refine ⟨o, ho, ?_⟩
    refine tE_bnd (T := (v, .sh, d) :: T) st (w.ext (T' := [(v, .sh, d)]) fun _ _ x => x) fun rb ρ2 u H2 F2 ru st2 w2 => ?_
    cases rb with
    | s j => exact w2.elim
    | v fl1 j =>
      obtain ⟨F3, st3⟩ := freeze_top (T := (v, .sh, d) :: T) (by exact st2)
      split at w2
      · rename_i v' j' fl x q2 e3
        cases q2
        split at w2
        · rename_i hfl
          cases ef : f x j d with
          | none => rw [ef] at w2; exact w2.elim
          | some y =>
            rw [ef] at w2
            obtain ⟨o', h1, h2, g⟩ := st3.front e3
            rw [ho] at h1
            cases h1
            have ru := (Good.perm g (List.Perm.cons _ (List.perm_middle (l₁ := live σ (ρ2.set i none))))).tail.repH rfl
            have rd := (Good.perm g (List.Perm.cons _ (List.perm_middle (l₁ := live σ (ρ2.set i none))))).tail.tail
            have rd := (rd.perm (List.perm_middle (l₁ := live σ (ρ2.set i none)))).repH rfl
            refine ⟨fl, x, j, d, y, F3, _, hfl, g, rd, ru, ef, fun H' g' => w2 σ H' F3 Keep.rfl' ?_⟩
            have g2 : Good G H' F3 ((o, fl, y) :: (live σ (ρ2.set i none) ++ T)) := g'.sub ((List.Sublist.append_left ((List.sublist_cons_self _ _).trans (List.sublist_cons_self _ _)) _).cons_cons _)
            exact ⟨st3.sl.upd e3 fun p => p, g2.perm ((live_put' (s := (fl, y)) ho (lt_of_get e3)).symm.append_right _)⟩
        · exact w2.elim
      · exact w2.elim
  · exact w.elim
theorem SP'.putL {i : Nat} {x : Str} {kx : Expr} {mk : M R} {px p2 : Pos} (hk : SE G O E X kx mk) (hN : X.N[i]? = some x := by rfl) (hv : Vis X.env.scope x := by first | exact Or.inl rfl | exact Or.inr (Or.inl rfl) | exact Or.inr (Or.inr rfl)) (hd : (x == ("__debug__" : Str)) = false := by decide) (hcd : (x == ("__classdict__" : Str)) = false := by decide)
    (ha : ∀ v, assign (.Subscript (.Name x px) kx p2) X.env v = (do
      let ov ← holding [v] (eval (.Name x px) X.env)
      let iv ← holding [v, ov] (eval kx X.env)
      standAt p2
      holding [v, ov, iv] (setItem ov iv v)
      release [v, ov, iv] []) := by intro _; rfl) : SP' G O X (.Subscript (.Name x px) kx p2) [] (gPut i mk putList) := by
  refine ⟨fun pins s σ H v u Q I r h => (pg_sub (pe_var hN hv hd hcd) hk set_list ha).run pins s σ H v u Q I r ?_⟩
  obtain ⟨o, ho, hq⟩ := gput_read (E := E) h
  refine ⟨o, ho, ?_⟩
  obtain ⟨ρ2, T2, F2, st2, w2⟩ := hq
  refine ⟨ρ2, T2, F2, st2, w2.imp fun r2 ρ3 q2 u H2 F3 ru st3 => ?_⟩
  obtain ⟨fl, y, j, d, z, F4, L, hfl, g, rd, rj, ef, fin⟩ := q2 u H2 F3 ru st3
  unfold putList at ef
  split at ef
  · rename_i ds n
    cases e : ixN ds.length n with
    | none => rw [e] at ef; cases ef
    | some m =>
      rw [e] at ef
      cases ef
      obtain ⟨p, ep, _, vs, hs, rp⟩ := g.ownH (x := (o, fl, .lst ds)) hfl
      dsimp only at ep
      subst ep
      refine ⟨p, vs, n, m, rfl, g.viewR rj, hs, by rw [rp.length]; exact e, fin _ ?_⟩
      exact g.write hfl ⟨vs.set m v, upd_same, rp.set m rd⟩
  · cases ef
theorem SP'.putK {i : Nat} {x : Str} {kx : Expr} {mk : M R} {px p2 : Pos} (c : CxOk gu G E k X) (hk : SE G O E X kx mk) (hN : X.N[i]? = some x := by rfl) (hv : Vis X.env.scope x := by first | exact Or.inl rfl | exact Or.inr (Or.inl rfl) | exact Or.inr (Or.inr rfl)) (hd : (x == ("__debug__" : Str)) = false := by decide) (hcd : (x == ("__classdict__" : Str)) = false := by decide)
    (ha : ∀ v, assign (.Subscript (.Name x px) kx p2) X.env v = (do
      let ov ← holding [v] (eval (.Name x px) X.env)
      let iv ← holding [v, ov] (eval kx X.env)
      standAt p2
      holding [v, ov, iv] (setItem ov iv v)
      release [v, ov, iv] []) := by intro _; rfl) : SP' G O X (.Subscript (.Name x px) kx p2) [] (gPut i mk putDict) := by
  refine ⟨fun pins s σ H v u Q I r h => (pg_sub (pe_var hN hv hd hcd) hk (set_dict c.u1) ha).run pins s σ H v u Q I r ?_⟩
  obtain ⟨o, ho, hq⟩ := gput_read (E := E) h
  refine ⟨o, ho, ?_⟩
  obtain ⟨ρ2, T2, F2, st2, w2⟩ := hq
  refine ⟨ρ2, T2, F2, st2, w2.imp fun r2 ρ3 q2 u H2 F3 ru st3 => ?_⟩
  obtain ⟨fl, y, j, d, z, F4, L, hfl, g, rd, rj, ef, fin⟩ := q2 u H2 F3 ru st3
  unfold putDict at ef
  split at ef
  · rename_i kvs
    cases e : keyOf j with
    | none => rw [e] at ef; cases ef
    | some q =>
      rw [e] at ef
      dsimp only at ef
      split at ef
      · rename_i hz
        cases ef
        obtain ⟨p, ep, _, vs, hs, rp⟩ := g.ownH (x := (o, fl, .dK kvs)) hfl
        dsimp only at ep
        subst ep
        refine ⟨p, _, rfl, by rw [keyOf_view (g.viewR rj) e]; exact DPut.k hs (by rw [rp.length]; exact hz), fin _ ?_⟩
        exact g.write hfl ⟨_, upd_same, repK_put rp rd⟩
      · cases ef
  · rename_i kvs
    split at ef
    · rename_i ks
      cases e : keysOf ks with
      | none => rw [e] at ef; cases ef
      | some q =>
        rw [e] at ef
        dsimp only at ef
        split at ef
        · rename_i hz
          cases ef
          obtain ⟨p, ep, _, vs, hs, rp⟩ := g.ownH (x := (o, fl, .dT kvs)) hfl
          dsimp only at ep
          subst ep
          obtain ⟨b, us, eu, hb, rq⟩ := g.viewR rj
          refine ⟨p, _, rfl, by rw [eu]; exact DPut.t hs (by rw [hb, keysOf_reps rq e fun v d r => g.viewR r]) (by rw [rp.length]; exact hz), fin _ ?_⟩
          exact g.write hfl ⟨_, upd_same, repK_put rp rd⟩
        · cases ef
    · cases ef
  · cases ef
end
end PP

set_option Elab.async false
set_option linter.all false
set_option maxRecDepth 100000
/-! Pure python, 13: lambdas handed to a def that tries them. -/
namespace PP
open PySem PySem.Spec PyProof.Rows L2

/-- what a call did -/
inductive Did where
  | ok | exc (c : Nat) (p : Option D)
/-- isinstance(error, C), error in the slot i -/
def mIsE (i : Nat) (b : Bool) : M R := fun ρ => match ρ[i]? with
  | some (some (.ps, .exo)) => .ok (.v .sh (.bl b)) ρ
  | _ => .bad
/-- a def tries the lambda: what it says -/
def mSaid (say : Did → Option (Fl × D)) (m : M R) : M R := fun ρ => match m ρ with
  | .ok _ ρ' => opR ρ' (say .ok)
  | .exc c p ρ' => opR ρ' (say (.exc c p))
  | .bad => .bad
/-- the suite's start: the exception alone is held -/
def suiteE (n i : Nat) : Env := (List.replicate n none).set i (some (.ps, .exo))
/-- try: call() / except ..: the suite h, which returns / return the text let_ -/
def sayRet (n i : Nat) (let_ : Str) (h : Nat → Option D → M Flow) : Did → Option (Fl × D)
  | .ok => some (.sh, .str let_)
  | .exc c p => match h c p (suiteE n i) with
    | .ok (.rt fl d) _ => some (fl, d)
    | _ => none
/-- x = let_ / try: call() / except ..: the suite h / return x -/
def saySet (n i j : Nat) (let_ : Str) (h : Nat → Option D → M Flow) : Did → Option (Fl × D)
  | .ok => some (.sh, .str let_)
  | .exc c p => match h c p (suiteE n i) with
    | .ok .nx ρ => match ρ[j]? with
      | some (some (_, .str x)) => some (.sh, .str x)
      | _ => none
    | _ => none

section
variable {G : Gx} {O : List V} {E : XK} {k : Nat} {X : Cx} {a b c : Expr} {pos : Pos} {ma mb mc : M R}
theorem SSs.never {ss : List Stmt} {m : M Flow} (h : ∀ ρ, m ρ = .bad) : SSs G O E X ss m := ⟨fun pins s σ H D I ⟨ρ, T, F, st, w⟩ => by rw [h ρ] at w; exact w.elim⟩
theorem Good.extN {H H1 : Hp} {F : Fz} {L : List Cell} (g : Good G H F L) (e : LamX.ExtN H H1) (t : LamX.Tabs G.tb H1) : Good G H1 F L := by
  have own : ∀ a d, Own G H F a d → Own G H1 F a d := fun a d w => by
    obtain ⟨u, hu, nt⟩ := w.noTab
    exact w.mono (fun _ _ z => z) ((e a u hu nt.1).trans hu.symm)
  refine ⟨fun a d q => ?_, fun y hy => ?_, g.nd, t⟩
  · have w := g.fz a d q
    cases d with
    | lst ds => exact (own a (.lst ds) w).frz
    | dK ds => exact (own a (.dK ds) w).frz
    | dT ds => exact (own a (.dT ds) w).frz
    | tup ds =>
      obtain ⟨vs, x, y⟩ := w
      exact ⟨vs, e a _ x fun ps z => HO.noConfusion z, y⟩
    | scr ns =>
      have w : Rd H a (.lst (ns.map V.int)) := w
      rcases w with w | ⟨o, w⟩
      · exact .inl (e a _ w fun ps z => HO.noConfusion z)
      · exact .inr ⟨o, e a _ w fun ps z => HO.noConfusion z⟩
    | _ => exact w.elim
  · have q := g.it y hy
    unfold ItOk at q ⊢
    split
    · rename_i ho
      rw [if_pos ho] at q
      obtain ⟨b, e1, e2, e3⟩ := q
      exact ⟨b, e1, e2, own b _ e3⟩
    · rename_i ho
      rw [if_neg ho] at q
      exact q
/-- what is asked of the def that tries -/
def TSaid (G : Gx) (say : Did → Option (Fl × D)) : (XK → Hp → VK → Prop) → Hp → VK → Prop := fun tl H Q =>
  tl (fun cls da H' => ∃ (c : Nat) (p : Option D) (L : List Cell) (F' : Fz), cls = .ref (G.ca c) ∧ ExcAt H' p da ∧ Good G H' F' L ∧ Made G L (say (.exc c p)) Q) H fun _ H' => ∃ (L : List Cell) (F' : Fz), Good G H' F' L ∧ Made G L (say .ok) Q
theorem SE.said {e : Expr} {say : Did → Option (Fl × D)} {m : M R} (h : PE X e (LamX.tLam G.tb (TSaid G say) fun E' => tE G O E' m)) : SE G O E X e (mSaid say m) := by
  refine PE.imp h fun σ H Q ⟨ρ, T, F, st, w⟩ => ⟨st.gd.tb, fun H1 e1 t1 => ?_⟩
  refine ⟨ρ, T, F, ⟨st.sl, st.gd.extN e1 t1⟩, ?_⟩
  unfold mSaid at w
  cases q : m ρ with
  | bad => rw [q] at w; exact w
  | ok r ρ' =>
    rw [q] at w
    intro v H' F' rv st'
    have st' := st'.drop
    exact ⟨_, F', st'.gd, made_of st'.sl w⟩
  | exc c p ρ' =>
    rw [q] at w
    intro H' F' da ex st'
    exact ⟨c, p, _, F', rfl, ex, st'.gd, made_of st'.sl w⟩
theorem SE.isE {Z : Cx} {a D' : Addr} {oe : Obj} {pn : List (Addr × Obj)} {i : Nat} {x n : Str} {cv : V} {u : Value} {t : Bool} {p pe pc : Pos} (hK : Z.K = G.K) (C : ExcC G.K D') (hz : Zc (.ref D') none oe) (hf : ∃ vs, oe.data = .fields vs) (hO : O[i]? = some (.ref a)) (hN : Z.N[i]? = some x) (hv : Vis Z.env.scope x)
    (hg : Gl Z "isinstance") (hm : Z.mg "isinstance" = none) (hc : PE (Z.suite a ((a, oe) :: pn)) (.Name n pc) (tC cv)) (hcv : ∀ w, RelV cv w → w = u) (hk : PySem.W.kitOne G.K (.ref D') u = some t)
    (hs : starEach [.Name x pe, .Name n pc] Z.env = (false, eval (.Name x pe) Z.env) :: starEach [.Name n pc] Z.env := by rfl) (hs2 : starEach [.Name n pc] Z.env = (false, eval (.Name n pc) Z.env) :: starEach [] Z.env := by rfl) (hpl : (backTo pos (starEach [.Name n pc] Z.env)).any (·.1) = false := by rfl)
    (hd : (x == ("__debug__" : Str)) = false := by decide) (hcd : (x == ("__classdict__" : Str)) = false := by decide) :
    SE G O E (Z.suite a ((a, oe) :: pn)) (.Call (.Name "isinstance" p) [.Name x pe, .Name n pc] [] pos) (mIsE i t) := by
  have hr := call_isE (X := Z) (a := a) (D := D') (oe := oe) (pn := pn) (by rw [hK]; exact C) hz hf
  rw [hK] at hr
  refine PE.imp (pe_callB (X := Z.suite a ((a, oe) :: pn)) hr hg hm (by decide +kernel) (pa_cons (pe_var (i := i) hN hv hd hcd) (pa_cons hc pa_nil hs2) hs) (by decide) (by decide) hs hpl) fun σ H Q ⟨ρ, T, F, st, w⟩ => ?_
  unfold mIsE at w
  split at w
  · rename_i e
    obtain ⟨v, h1, h2⟩ := st.sl.has i _ e
    have e3 := h2 rfl
    rw [hO] at e3
    cases e3
    exact ⟨.ref a, h1, cv, u, t, rfl, hcv, hk, w (.bl t) H F trivial (St.push st.sl (st.gd.rep (x := (.bl t, .sh, .bl t)) rfl (.bl t)))⟩
  · exact w.elim
/-! ### the def that tries -/
/-- its context, called from X at s, H -/
abbrev sayCx (X : Cx) (Ng : List Str) (x : Str) (sg : Scope) (g : Addr) (cdg : Value) (s : Shared) (H : Hp) : Cx := (cxOf C8.CX0 X.prog X.w X.K X.mg X.base Ng x sg g cdg X.A X.stack s H C8.E0).nox
/-- the suite, for each class -/
def SuiteOk (G : Gx) (Z : Cx) (i : Nat) (ss : List Stmt) (h : Nat → Option D → M Flow) : Prop := ∀ (a : Addr) (oe : Obj) (pn : List (Addr × Obj)) (c : Nat) (p : Option D) (d : Option Addr), Zc (.ref (G.ca c)) d oe → (∃ vs, oe.data = .fields vs) → (p = none → d = none) →
  SSs G (List.replicate (i + 1) (.ref a)) C8.E0 (Z.suite a ((a, oe) :: pn)) ss (h c p)
theorem slots_suite {a : Addr} {σ : L2.St} {n i : Nat} (hl : σ.length = n) (hi : i < n) : Slots (List.replicate (i + 1) (V.ref a)) (σ.set i (some (.ref a))) (suiteE n i) := by
  refine ⟨by simp [suiteE, hl], fun j s e => ?_⟩
  unfold suiteE at e
  by_cases z : i = j
  · subst z
    exact ⟨.ref a, by simp [hl, hi], fun _ => by simp⟩
  · rw [List.getElem?_set_ne z, List.getElem?_replicate] at e
    split at e <;> cases e
theorem live_none' : ∀ (σ : L2.St) (n : Nat), live σ (List.replicate n none) = []
  | σ, 0 => by cases σ with
    | nil => rfl
    | cons a σ => cases a <;> rfl
  | [], n + 1 => rfl
  | a :: σ, n + 1 => by
    show live (a :: σ) (none :: List.replicate n none) = []
    cases a <;> exact live_none' σ n
theorem good_suite {a : Addr} {σ : L2.St} {n i : Nat} {H : Hp} {F : Fz} {L : List Cell} (g : Good G H F L) (hl : σ.length = n) (hi : i < n) : Good G H F (live (σ.set i (some (.ref a))) (suiteE n i) ++ L) := by
  have h1 := live_put (σ := σ) (ρ := List.replicate n none) (i := i) (v := .ref a) (s := (.ps, .exo)) (by omega) (by simpa using hi)
  have h2 : live σ ((List.replicate n none : Env).set i none) = [] := by
    rw [show (List.replicate n none : Env).set i none = List.replicate n none from set_eq (by simp [hi])]
    exact live_none' σ n
  rw [h2] at h1
  refine Good.perm ?_ (h1.symm.append_right L)
  exact g.rep (x := (.ref a, .ps, .exo)) rfl .exo
variable {Ng : List Str} {x a' rc : Str} {sg : Scope} {g CS : Addr} {cdg : Value} {q en let_ : Str} {i j : Nat} {b₀ : Stmt} {suite : List Stmt} {p1 p2 p3 p4 p5 p6 p7 p8 p9 pa : Pos} {hh : Nat → Option D → M Flow}
theorem PE.more {X : Cx} {e : Expr} {t : TE} (h : PE X e t) : PE X e fun σ H Q => ∃ Q0 : VK, t σ H Q0 ∧ ∀ v H', Q0 v H' → Q v H' :=
  ⟨fun pins s σ H Q I ⟨Q0, q, w⟩ => wpAny_mono (h.run pins s σ H Q0 I q) (fun u s' ⟨v, H', I', r, z⟩ => ⟨v, H', I', r, w _ _ z⟩) fun _ _ z => z⟩
/-- the try statement, by itself: ends the suite's -/
theorem try_said {f c' : Addr} {s : Shared} {H : Hp} {tl : XK → Hp → VK → Prop}
    (act : ∀ (W : WX) (pn : List (Addr × Obj)) (xe : Value → Shared → Prop) (E : XK) (p1 p2 : Pos), Takes ((cxOf C8.CX0 X.prog X.w X.K X.mg X.base Ng x sg g cdg X.A X.stack s H C8.E0).tr pn xe) W → (∀ cls d σ' H', E cls d H' → W cls d σ' H') →
      PE ((cxOf C8.CX0 X.prog X.w X.K X.mg X.base Ng x sg g cdg X.A X.stack s H C8.E0).tr pn xe) (.Call (.Name a' p1) [] [] p2) (fun σZ HZ Q => σZ[0]? = some (some (.ref f)) ∧ HZ c' = some (LamX.CodeO c' q) ∧ tl E HZ Q))
    (nd : Ng.Nodup) (hi : Ng[i]? = some en) (hln : sg.names.lookup en = some .local) (hrc : sg.names.lookup rc = some .globalImplicit) (hmc : X.mg rc = some (.ref CS)) (hdc : (rc == ("__debug__" : Str)) = false)
    (hS : SuiteOk G (sayCx X Ng x sg g cdg s H) i (b₀ :: suite) hh) :
    PS (sayCx X Ng x sg g cdg s H) (.Try [.Expr (.Call (.Name a' p1) [] [] p2) p3] [.ExceptHandler (some (.Name rc p4)) (some en) (b₀ :: suite) p5] [] [] p6)
      fun Dn σ H => σ[0]? = some (some (.ref f)) ∧ H c' = some (LamX.CodeO c' q) ∧ ∃ (Ech : XK) (Qok : VK), tl Ech H Qok ∧ (∀ cls da H', Ech cls da H' → ∃ (c : Nat) (p : Option D) (L : List Cell) (F' : Fz), cls = .ref (G.ca c) ∧ ExcAt H' p da ∧ Good G H' F' L ∧ PySem.W.exmOne X.K cls (.ref CS) = some true ∧
        ∀ a, Ps G (List.replicate (i + 1) (.ref a)) C8.E0 { nx := fun σ' H' => Dn.nx (σ'.set i none) H', rt := Dn.rt, bk := fun σ' H' => Dn.bk (σ'.set i none) H', ct := fun σ' H' => Dn.ct (σ'.set i none) H' } L (hh c p (suiteE Ng.length i))) ∧ ∀ v H', Qok v H' → Dn.nx σ H' := by
  have hgl : Gl (sayCx X Ng x sg g cdg s H) rc := hrc
  refine PS.imp (ps_try_as (X := sayCx X Ng x sg g cdg s H) (i := i) (c := .ref CS) (b₀ := b₀) (suite := suite)
    (ts := fun a cls d Dn σ H => ∃ (c : Nat) (p : Option D) (L : List Cell) (F' : Fz) (σ0 : L2.St), σ = σ0.set i (some (.ref a)) ∧ cls = .ref (G.ca c) ∧ ExcAt H p d ∧ Good G H F' L ∧ Ps G (List.replicate (i + 1) (.ref a)) C8.E0 Dn L (hh c p (suiteE Ng.length i)))
    (tb := fun W Dn σ H => ∃ (Ech : XK) (Qok : VK), (∀ cls d σ' H', Ech cls d H' → W cls d σ' H') ∧ (σ[0]? = some (some (.ref f)) ∧ H c' = some (LamX.CodeO c' q) ∧ tl Ech H Qok) ∧ ∀ v H', Qok v H' → Dn.nx σ H')
    rfl rfl nd hi hln ⟨hgl, hdc, .inl hmc⟩ LamX.takes0 (fun W pn xe tk _ => ?_) (fun a oe cls d pn hz hf => ?_)) fun Dn σ H h => ?_
  · refine ⟨fun pins s' σ H' D I h' => ?_⟩
    obtain ⟨Ech, Qok, hW, h1, h2⟩ := h'
    have hp := PE.more (act W pn xe Ech p1 p2 tk hW)
    exact (pss_one (ps_expr (pos := p3) hp)).run pins s' σ H' D I ⟨Qok, h1, h2⟩
  · refine ⟨fun pins s' σ H' D I h' => ?_⟩
    obtain ⟨c, p, L, F', σ0, e1, e2, ex, g', w⟩ := h'
    subst e2
    have hl : σ.length = Ng.length := I.len
    have hi' : i < Ng.length := lt_of_get hi
    have hl0 : σ0.length = Ng.length := by rw [e1] at hl; simpa using hl
    refine (hS a oe pn c p d hz hf (fun e => ex.2)).run pins s' σ H' D I ⟨suiteE Ng.length i, L, F', ⟨?_, ?_⟩, w⟩
    · rw [e1]; exact slots_suite hl0 hi'
    · rw [e1]; exact good_suite g' hl0 hi'
  · obtain ⟨h1, h2, Ech, Qok, h3, h4, h5⟩ := h
    refine ⟨Ech, Qok, fun cls d σ' H' z => ?_, ⟨h1, h2, h3⟩, h5⟩
    obtain ⟨c, p, L, F', e1, ex, g', em, w⟩ := h4 cls d H' z
    exact ⟨true, em, fun _ a _ => ⟨c, p, L, F', σ', rfl, e1, ex, g', w a⟩, fun z => by cases z⟩
theorem start0 {f : Addr} (h0 : Ng[0]? = some a') : (L2.start Ng [V.ref f])[0]? = some (some (V.ref f)) := rfl
/-- try: call() / except rc as en: .. / return let_ -/
theorem say_ret (hca : ∀ c p, hh c p (suiteE Ng.length i) ≠ .bad → PySem.W.exmOne X.K (.ref (G.ca c)) (.ref CS) = some true) (nd : Ng.Nodup) (h0 : Ng[0]? = some a') (hi : Ng[i]? = some en) (hln : sg.names.lookup en = some .local) (hrc : sg.names.lookup rc = some .globalImplicit) (hmc : X.mg rc = some (.ref CS)) (hdc : (rc == ("__debug__" : Str)) = false)
    (hS : ∀ s H, SuiteOk G (sayCx X Ng x sg g cdg s H) i (b₀ :: suite) hh) {jj : Nat} :
    LamX.GivesTo X Ng x sg g cdg [.Try [.Expr (.Call (.Name a' p1) [] [] p2) p3] [.ExceptHandler (some (.Name rc p4)) (some en) (b₀ :: suite) p5] [] [] p6, .Return (some (.Constant (.str let_) jj p7)) p8] a' q (TSaid G (sayRet Ng.length i let_ hh)) := by
  intro f c' s H Q tl act hc h
  refine ⟨_, pss_cons (try_said act nd hi hln hrc hmc hdc (hS s H)) (pss_one (ps_ret pe_str)), ?_⟩
  refine ⟨start0 h0, hc, _, _, h, fun cls da H' ⟨c, p, L, F', e1, ex, g', m⟩ => ?_, fun v H' ⟨L, F', g', m⟩ => ?_⟩
  · have nb : hh c p (suiteE Ng.length i) ≠ .bad := fun z => by
      rw [sayRet, z] at m
      exact m
    refine ⟨c, p, L, F', e1, ex, g', by rw [e1]; exact hca c p nb, fun a => ?_⟩
    simp only [sayRet] at m
    cases w : hh c p (suiteE Ng.length i) with
    | bad => exact (nb w).elim
    | exc c2 p2 ρ2 => rw [w] at m; exact m.elim
    | ok fl ρ2 =>
      rw [w] at m
      cases fl with
      | nx => exact m.elim
      | bk => exact m.elim
      | ct => exact m.elim
      | rt fl d => exact fun v σ' H' F'' st => m v H' F'' (st.gd.perm List.perm_middle |>.sub ((List.sublist_append_right _ _).cons_cons _))
  · exact m (.str let_) H' F' (g'.rep (x := (.str let_, .sh, .str let_)) rfl (.str let_))
/-- xj = let_ / try: call() / except rc as en: .. / return xj -/
theorem say_set {xj : Str} {j jj : Nat} (hca : ∀ c p, hh c p (suiteE Ng.length i) ≠ .bad → PySem.W.exmOne X.K (.ref (G.ca c)) (.ref CS) = some true) (nd : Ng.Nodup) (h0 : Ng[0]? = some a') (hi : Ng[i]? = some en) (hln : sg.names.lookup en = some .local) (hrc : sg.names.lookup rc = some .globalImplicit) (hmc : X.mg rc = some (.ref CS)) (hdc : (rc == ("__debug__" : Str)) = false)
    (hj : Ng[j]? = some xj) (hlj : sg.names.lookup xj = some .local) (hij : i ≠ j) (hj0 : j ≠ 0) (hdj : (xj == ("__debug__" : Str)) = false) (hcj : (xj == ("__classdict__" : Str)) = false)
    (hsw : ∀ env : PySem.Env, swapsWith (.Constant (.str let_) jj p7) (some (.Name xj p8)) pa.line env = pure false)
    (hS : ∀ s H, SuiteOk G (sayCx X Ng x sg g cdg s H) i (b₀ :: suite) hh) {p10 p11 : Pos} :
    LamX.GivesTo X Ng x sg g cdg [.Assign [.Name xj p8] (.Constant (.str let_) jj p7) pa, .Try [.Expr (.Call (.Name a' p1) [] [] p2) p3] [.ExceptHandler (some (.Name rc p4)) (some en) (b₀ :: suite) p5] [] [] p6, .Return (some (.Name xj p10)) p11] a' q (TSaid G (saySet Ng.length i j let_ hh)) := by
  intro f c' s H Q tl act hc h
  have hloc : Loc (sayCx X Ng x sg g cdg s H).env.scope xj := .inl hlj
  have hvis : Vis (sayCx X Ng x sg g cdg s H).env.scope xj := .inl hlj
  refine ⟨_, pss_cons (ps_set (X := sayCx X Ng x sg g cdg s H) nd hj hloc pe_str (hsw _) (.inr hlj)) (pss_cons (try_said act nd hi hln hrc hmc hdc (hS s H)) (pss_one (ps_ret (pe_var (i := j) hj hvis hdj hcj)))), ?_⟩
  refine ⟨?_, hc, _, _, h, fun cls da H' ⟨c, p, L, F', e1, ex, g', m⟩ => ?_, fun v H' ⟨L, F', g', m⟩ => ?_⟩
  · rw [List.getElem?_set_ne hj0]; exact start0 h0
  · have nb : hh c p (suiteE Ng.length i) ≠ .bad := fun z => by
      rw [saySet, z] at m
      exact m
    refine ⟨c, p, L, F', e1, ex, g', by rw [e1]; exact hca c p nb, fun a => ?_⟩
    simp only [saySet] at m
    cases w : hh c p (suiteE Ng.length i) with
    | bad => exact (nb w).elim
    | exc c2 p2 ρ2 => rw [w] at m; exact m.elim
    | ok fl ρ2 =>
      rw [w] at m
      cases fl with
      | bk => exact m.elim
      | ct => exact m.elim
      | rt fl d => exact m.elim
      | nx =>
        intro σ' H' F'' st
        dsimp only at m
        split at m
        · rename_i z fl y e
          obtain ⟨v, h1, _⟩ := st.sl.has j _ e
          have vw := st.view (r := .s j) (v := v) h1 (fun _ z => by cases z) (show deref ρ2 (.s j) = some (.str y) by show slotD ρ2 j = _; unfold slotD; rw [e])
          refine ⟨v, by rw [List.getElem?_set_ne hij]; exact h1, m v H' F'' ?_⟩
          have vw : v = .str y := vw
          subst vw
          exact st.gd.right.rep (x := (.str y, .sh, .str y)) rfl (.str y)
        · exact m.elim
  · refine ⟨.str let_, ?_, m (.str let_) H' F' (g'.rep (x := (.str let_, .sh, .str let_)) rfl (.str let_))⟩
    rw [List.getElem?_set_self]
    have := lt_of_get hj
    show j < (L2.start Ng [V.ref f]).length
    simp [L2.start]
    omega
end
end PP

set_option Elab.async false
set_option linter.all false
set_option maxRecDepth 100000
/-! Pure python, 14: comprehensions over what a slot keeps. -/
namespace PP
open PySem PySem.Spec PyProof.Rows L2

/-- [e for g in xs if c], xs in the slot i stays owned -/
def mCompB (i : Nat) (vs : List Nat) (g : Tg) (c : M Bool) (e : M R) : M R := fun ρ0 => match ρ0[i]? with
  | some (some (fl, d)) => match iterD d with
    | some ds => match loopC vs g c e ds [] (wipeE (ρ0.set i none) vs) with
      | .ok acc ρ => .ok (.v .ow (.lst acc)) ((restore (ρ0.set i none) vs ρ).set i (some (fl, d)))
      | _ => .bad
    | none => .bad
  | _ => .bad
section
variable {G : Gx} {O : List V} {E : XK} {k : Nat} {X : Cx}
/-- what is walked is held as it was -/
def tIB (G : Gx) (O : List V) (i : Nat) : TI := fun σ H Q => ∃ ρ T F fl d ds v, St G O ρ σ T H F ∧ ρ[i]? = some (some (fl, d)) ∧ σ[i]? = some (some v) ∧ iterD d = some ds ∧ ∀ J, JOk G J ds [(v, fl, d)] → St G O (ρ.set i none) σ ([(v, fl, d)] ++ T) H F → Q J H
theorem jok_list' {a : Addr} {fl : Fl} {ds : List D} : JOk G (Itl G.K a) ds [(.ref a, fl, .lst ds)] := by
  intro i H F L g
  obtain ⟨a', vs, e, hs, rp⟩ := g.view (x := (.ref a, fl, .lst ds)) List.mem_cons_self
  cases e
  have hs : SqL G.K H a vs := SqL.of hs
  have hl := rp.length
  refine ⟨fun h => ?_, fun h => ⟨vs, hs, by omega⟩, fun x H' d hd ⟨e, y⟩ => ?_⟩
  · obtain ⟨v, h1, _⟩ := rp.get (List.getElem?_eq_getElem h)
    exact ⟨vs, v, hs, h1⟩
  · subst e
    obtain ⟨v, h1, h2⟩ := rp.get hd
    have e2 := y vs hs
    rw [h1] at e2
    have ev : v = x := Option.some.inj e2
    rw [ev] at h2
    exact ⟨F, g.rep (x := (x, .sh, d)) rfl h2⟩
theorem jok_tup' {a : Addr} {fl : Fl} {ds : List D} : JOk G (Itt G.K a) ds [(.ref a, fl, .tup ds)] := by
  intro i H F L g
  obtain ⟨a', vs, e, hs, rp⟩ := View.tup (g.view (x := (.ref a, fl, .tup ds)) List.mem_cons_self)
  cases e
  have hl := rp.length
  refine ⟨fun h => ?_, fun h => ⟨vs, hs, by omega⟩, fun x H' d hd ⟨e, y⟩ => ?_⟩
  · obtain ⟨v, h1, _⟩ := rp.get (List.getElem?_eq_getElem h)
    exact ⟨vs, v, hs, h1⟩
  · subst e
    obtain ⟨v, h1, h2⟩ := rp.get hd
    have e2 := y vs hs
    rw [h1] at e2
    have ev : v = x := Option.some.inj e2
    rw [ev] at h2
    exact ⟨F, g.rep (x := (x, .sh, d)) rfl h2⟩
theorem pi_bor {i : Nat} {x : Str} {p : Pos} {tg : Expr} (hK : X.K = G.K) (hN : X.N[i]? = some x) (hv : Vis X.env.scope x) (hd : (x == ("__debug__" : Str)) = false) (hcd : (x == ("__classdict__" : Str)) = false) : PI X tg (.Name x p) (tIB G O i) := by
  have h := pi_seq (tg := tg) (pe_var (pos := p) hN hv hd hcd)
  rw [hK] at h
  refine ⟨fun pins s σ H R I ⟨ρ, T, F, fl, d, ds, v, st, e, h1, e2, q⟩ => h.run pins s σ H R I ⟨v, h1, ?_⟩⟩
  obtain ⟨v', h1', _, g⟩ := st.front e
  rw [h1] at h1'
  cases h1'
  have st' : St G O (ρ.set i none) σ ([(v, fl, d)] ++ T) H F := St.push st.sl.none g
  have vw := g.view (x := (v, fl, d)) List.mem_cons_self
  cases d with
  | lst xs =>
    cases e2
    obtain ⟨a, vs, e, hs, rp⟩ := vw
    dsimp only at e
    subst e
    exact .inl ⟨a, rfl, ⟨vs, SqL.of hs⟩, q _ jok_list' st'⟩
  | tup xs =>
    cases e2
    obtain ⟨a, vs, e, hs, rp⟩ := View.tup vw
    dsimp only at e
    subst e
    exact .inr (.inl ⟨a, rfl, ⟨vs, hs⟩, q _ jok_tup' st'⟩)
  | str z =>
    cases e2
    exact .inr (.inr ⟨z, vw, q _ jok_str st'⟩)
  | _ => cases e2
theorem compB_read {ib : Nat} {vs ws : List Nat} {g : Tg} {mc : M Bool} {me : M R} {σ : L2.St} {H : Hp} {Q : VK} (nd : vs.Nodup) (hw : ∀ i ∈ ws, i ∈ vs) (h : tE G O E (mCompB ib vs g mc me) σ H Q) :
    tLc (tIB G O ib) (tTg G O ws g) (tT G O L2.E0 mc) (tE G O L2.E0 me) vs σ H Q := by
  obtain ⟨ρ, T, F, st, w⟩ := h
  unfold mCompB at w
  have hfin : ∃ fl d ds acc ρ9, ρ[ib]? = some (some (fl, d)) ∧ iterD d = some ds ∧ loopC vs g mc me ds [] (wipeE (ρ.set ib none) vs) = .ok acc ρ9 ∧ ∀ v H' F', St G O ((restore (ρ.set ib none) vs ρ9).set ib (some (fl, d))) σ ((v, .ow, .lst acc) :: T) H' F' → Q v H' := by
    split at w
    · rename_i fl d e
      cases e2 : iterD d with
      | none => rw [e2] at w; exact w.elim
      | some ds =>
        rw [e2] at w
        dsimp only at w
        cases q : loopC vs g mc me ds [] (wipeE (ρ.set ib none) vs) with
        | ok acc ρ9 =>
          rw [q] at w
          exact ⟨fl, d, ds, acc, ρ9, e, e2, q, fun v H' F' s' => w v H' F' trivial s'⟩
        | exc c p ρ9 => rw [q] at w; exact w.elim
        | bad => rw [q] at w; exact w.elim
    · exact w.elim
  obtain ⟨fl, d, ds, acc9, ρ9, ei, e2, hloop, fin⟩ := hfin
  obtain ⟨v0, h1, h2, g0⟩ := st.front ei
  refine ⟨ρ, T, F, fl, d, ds, v0, st, ei, h1, e2, fun J hJ st1 => fun A hA => ?_⟩
  generalize eρ : ρ.set ib none = ρ1 at hloop fin st1
  generalize eC : [(v0, fl, d)] = C at hJ st1
  have H1 := H
  clear H1
  have wiped : ∀ (ρ : Env), ∀ i ∈ vs, ∀ t, (wipeE ρ vs)[i]? ≠ some (some t) := fun ρ i hi t => wipeE_in hi
  refine ⟨fun i m H => m = ds.length - i ∧ i ≤ ds.length ∧ ∃ acc ρ F, St G O ρ (wipe σ vs) ((.ref A, .ow, .lst acc) :: (C ++ (saved σ ρ1 vs ++ T))) H F ∧ (∀ j ∈ vs, ∀ t, ρ[j]? ≠ some (some t)) ∧ loopC vs g mc me (ds.drop i) acc ρ = .ok acc9 ρ9, ?_, ?_⟩
  · refine ⟨ds.length, rfl, Nat.zero_le _, [], wipeE ρ1 vs, F, ⟨wipe_slots (wipeE_slots st1.sl) (wiped ρ1), ?_⟩, wiped ρ1, by simpa using hloop⟩
    rw [live_wipe (wiped ρ1)]
    have g1 := wipeE_good (ρ0 := ρ1) nd (fun i hi => rfl) st1.gd
    have g2 := g1.new (fl := .ow) hA (show Own G (upd H A (.lst [])) F A (.lst []) from ⟨[], upd_same, .nil⟩) rfl
    refine (g2.perm (List.perm_middle (l₁ := live σ (wipeE ρ1 vs))).symm).perm (List.Perm.append_left _ (List.Perm.cons _ ?_))
    rw [← List.append_assoc, ← List.append_assoc]
    exact List.Perm.append_right _ List.perm_append_comm
  · rintro i m H ⟨rfl, hi, acc, ρ, F, st, hw0, hl⟩
    have gJ : Good G H F (C ++ (live (wipe σ vs) ρ ++ ((.ref A, .ow, .lst acc) :: (saved σ ρ1 vs ++ T)))) := by
      have g1 := st.gd
      refine g1.perm ?_
      have p1 : ((V.ref A, Fl.ow, D.lst acc) :: (C ++ (saved σ ρ1 vs ++ T))).Perm (C ++ ((V.ref A, Fl.ow, D.lst acc) :: (saved σ ρ1 vs ++ T))) := List.perm_middle.symm
      refine (List.Perm.append_left _ p1).trans ?_
      rw [← List.append_assoc, ← List.append_assoc]
      exact List.Perm.append_right _ List.perm_append_comm
    obtain ⟨j1, j2, j3⟩ := hJ i H F _ gJ
    by_cases hlt : i < ds.length
    · refine .inr ⟨j1 hlt, fun H' => ∃ acc ρ F, St G O ρ (wipe σ vs) ((.ref A, .ow, .lst acc) :: (C ++ (saved σ ρ1 vs ++ T))) H' F ∧ (∀ j ∈ vs, ∀ t, ρ[j]? ≠ some (some t)) ∧ loopC vs g mc me (ds.drop (i + 1)) acc ρ = .ok acc9 ρ9, fun H' h => ⟨ds.length - (i + 1), by omega, rfl, hlt, h⟩, fun x H' hy => ?_⟩
      obtain ⟨F', g'⟩ := j3 x H' ds[i] (List.getElem?_eq_getElem hlt) hy
      have st' : St G O ρ (wipe σ vs) ((x, .sh, ds[i]) :: ((.ref A, .ow, .lst acc) :: (C ++ (saved σ ρ1 vs ++ T)))) H' F' := by
        refine St.push st.sl (g'.perm (List.Perm.cons _ ?_))
        have p1 : (C ++ ((V.ref A, Fl.ow, D.lst acc) :: (saved σ ρ1 vs ++ T))).Perm ((V.ref A, Fl.ow, D.lst acc) :: (C ++ (saved σ ρ1 vs ++ T))) := List.perm_middle
        have p0 : (C ++ (live (wipe σ vs) ρ ++ ((V.ref A, Fl.ow, D.lst acc) :: (saved σ ρ1 vs ++ T)))).Perm (live (wipe σ vs) ρ ++ (C ++ ((V.ref A, Fl.ow, D.lst acc) :: (saved σ ρ1 vs ++ T)))) := by
          rw [← List.append_assoc, ← List.append_assoc]
          exact List.Perm.append_right _ List.perm_append_comm
        exact p0.trans (List.Perm.append_left _ p1)
      rw [List.drop_eq_getElem_cons hlt] at hl
      simp only [loopC] at hl
      refine ⟨ds[i], ρ, _, F', st', ?_⟩
      cases q : g ds[i] ρ with
      | bad => rw [q] at hl; cases hl
      | exc c p ρ' => rw [q] at hl; cases hl
      | ok u ρ2 =>
        rw [q] at hl
        intro σ2 H2 F2 kp st2
        have hwk := wipe_keep kp hw
        have hww : wipe (wipe σ vs) vs = wipe σ vs := wipe_keep (ws := vs) ⟨wipe_length _ _, fun i hi => by
          have : ∀ vs : List Nat, i ∉ vs → (wipe σ vs)[i]? = σ[i]? := by
            intro vs
            induction vs with
            | nil => intro _; rfl
            | cons a vs ih =>
              intro hn
              show ((wipe σ vs).set a none)[i]? = _
              rw [List.getElem?_set_ne (fun e => hn (by simp [e]))]
              exact ih fun z => hn (List.mem_cons_of_mem _ z)
          exact this vs hi⟩ fun i hi => hi
        rw [hww] at hwk
        refine ⟨hwk, ?_⟩
        have again : ∀ {ρ3 : Env} {H3 : Hp} {F3 : Fz} {acc : List D}, St G O ρ3 σ2 ((.ref A, .ow, .lst acc) :: (C ++ (saved σ ρ1 vs ++ T))) H3 F3 → St G O (wipeE ρ3 vs) (wipe σ vs) ((.ref A, .ow, .lst acc) :: (C ++ (saved σ ρ1 vs ++ T))) H3 F3 := fun {ρ3 H3 F3 acc} s3 => by
          rw [← hwk]
          refine ⟨wipe_slots (wipeE_slots s3.sl) (wiped ρ3), ?_⟩
          rw [live_wipe (wiped ρ3)]
          exact s3.gd.sub (List.Sublist.append_right wipe_sub _)
        refine ⟨ρ2, _, F2, st2, ?_⟩
        dsimp only at hl
        cases q2 : mc ρ2 with
        | bad => rw [q2] at hl; cases hl
        | exc c p ρ' => rw [q2] at hl; cases hl
        | ok b ρ3 =>
          rw [q2] at hl
          intro H3 F3 st3
          cases b with
          | false =>
            rw [if_neg Bool.false_ne_true]
            exact ⟨acc, _, F3, again st3, wiped ρ3, hl⟩
          | true =>
            rw [if_pos rfl]
            refine ⟨ρ3, _, F3, st3, ?_⟩
            dsimp only at hl
            cases q3 : me ρ3 with
            | bad => rw [q3] at hl; cases hl
            | exc c p ρ' => rw [q3] at hl; cases hl
            | ok r ρ4 =>
              rw [q3] at hl
              cases r with
              | s i => cases hl
              | v fl y =>
                dsimp only at hl
                split at hl
                · rename_i hz
                  intro u H4 F4 _ st4
                  have g4 := (show St G O ρ4 σ2 ((u, fl, y) :: ((.ref A, .ow, .lst acc) :: (C ++ (saved σ ρ1 vs ++ T)))) H4 F4 from st4).good
                  obtain ⟨F5, le, g5, rp⟩ := g4.freeze
                  have g6 := g5.tail.perm (List.perm_middle (l₁ := live σ2 ρ4))
                  obtain ⟨a', ea, hn, ow⟩ := g6.ownH (x := (.ref A, .ow, .lst acc)) rfl
                  cases ea
                  obtain ⟨ws, hH, rps⟩ := ow
                  refine ⟨ws, hH, by rw [rps.length]; exact hz, acc ++ [y], wipeE ρ4 vs, F5, ?_, wiped ρ4, hl⟩
                  refine again ⟨st4.sl, ?_⟩
                  have g7 := g6.write (o := .lst (ws ++ [u])) (d' := .lst (acc ++ [y])) rfl ⟨ws ++ [u], upd_same, PySem.Paired.snoc rps rp⟩
                  exact g7.perm (List.perm_middle (l₁ := live σ2 ρ4)).symm
                · cases hl
    · have e : i = ds.length := by omega
      subst e
      refine .inl ⟨j2 (Nat.le_refl _), ?_⟩
      rw [List.drop_length] at hl
      have hl : Res.ok acc ρ = Res.ok acc9 ρ9 := hl
      cases hl
      have g1 := st.gd
      rw [live_wipe hw0] at g1
      have g2 : Good G H F (live σ ρ9 ++ (saved σ ρ1 vs ++ (C ++ ((.ref A, .ow, .lst acc9) :: T)))) := by
        refine g1.perm (List.Perm.append_left _ ?_)
        have q1 : ((V.ref A, Fl.ow, D.lst acc9) :: (C ++ (saved σ ρ1 vs ++ T))).Perm (C ++ ((V.ref A, Fl.ow, D.lst acc9) :: (saved σ ρ1 vs ++ T))) := List.perm_middle.symm
        have q2 : (C ++ ((V.ref A, Fl.ow, D.lst acc9) :: (saved σ ρ1 vs ++ T))).Perm (C ++ (saved σ ρ1 vs ++ ((V.ref A, Fl.ow, D.lst acc9) :: T))) := List.Perm.append_left _ List.perm_middle.symm
        refine (q1.trans q2).trans ?_
        rw [← List.append_assoc, ← List.append_assoc]
        exact List.Perm.append_right _ List.perm_append_comm
      have st9 := restore_good st1.sl (unwipe_slots st.sl) g2
      subst eC
      refine fin _ H F ⟨?_, ?_⟩
      · refine ⟨by simpa using st9.sl.len, fun j u z => ?_⟩
        by_cases ej : ib = j
        · subst ej
          rw [List.getElem?_set_self (by have := lt_of_get h1; have := st9.sl.len; omega)] at z
          cases z
          exact ⟨v0, h1, h2⟩
        · rw [List.getElem?_set_ne ej] at z
          exact st9.sl.has j u z
      · have g3 : Good G H F ((v0, fl, d) :: (live σ (restore ρ1 vs ρ9) ++ ((.ref A, .ow, .lst acc9) :: T))) := st9.gd.perm List.perm_middle
        have g4 := g3.sub (L' := (v0, fl, d) :: (live σ ((restore ρ1 vs ρ9).set ib none) ++ ((.ref A, .ow, .lst acc9) :: T))) ((List.Sublist.append_right live_sub _).cons_cons _)
        exact g4.perm ((live_put' (s := (fl, d)) h1 (by have := lt_of_get h1; have := st9.sl.len; omega)).symm.append_right _)
theorem SE.compB {ib : Nat} {xb : Str} {pb : Pos} {elt tg : Expr} {ifs : List Expr} {scope : Scope} {own : List (Str × Nat)} {vs ws : List Nat} {pos : Pos} {g : Tg} {mc : M Bool} {me : M R} (cx : CxOk gu G E k X) (ok : BlkOk X.N X.env.scope scope own) (hvs : own.map (·.2) = vs) (nd : vs.Nodup) (hw : ∀ i ∈ ws, i ∈ vs)
    (hib : ib ∉ vs) (hN : X.N[ib]? = some xb) (hv : Vis X.env.scope xb) (hd : (xb == ("__debug__" : Str)) = false) (hcd : (xb == ("__classdict__" : Str)) = false)
    (hg : ∀ (s : Shared) (H : Hp) (C : Addr) (cl : List (Str × Addr)) (fp : List Addr), CxOk gu G L2.E0 k (X.blk s H scope (compEnvC scope cl C X.env) fp) → SP' G O (X.blk s H scope (compEnvC scope cl C X.env) fp) tg ws g)
    (hc : ∀ (s : Shared) (H : Hp) (C : Addr) (cl : List (Str × Addr)) (fp : List Addr), CxOk gu G L2.E0 k (X.blk s H scope (compEnvC scope cl C X.env) fp) → STs G O L2.E0 (X.blk s H scope (compEnvC scope cl C X.env) fp) ifs mc)
    (he : ∀ (s : Shared) (H : Hp) (C : Addr) (cl : List (Str × Addr)) (fp : List Addr), CxOk gu G L2.E0 k (X.blk s H scope (compEnvC scope cl C X.env) fp) → SE G O L2.E0 (X.blk s H scope (compEnvC scope cl C X.env) fp) elt me)
    (hs : ∀ x, foldedSetIterable (.Name xb pb) X.env x = pure x := by intro _; rfl) : SE G O E X (.ListComp elt [⟨tg, .Name xb pb, ifs, 0⟩] scope pos) (mCompB ib vs g mc me) := by
  refine PE.imp (pe_lc cx.calm cx.nd (pi_bor (O := O) (i := ib) cx.K hN hv hd hcd) ok (fun s H C cl fp => hg s H C cl fp (cx.blk s H scope _ fp)) (fun s H C cl fp => hc s H C cl fp (cx.blk s H scope _ fp)) (fun s H C cl fp => he s H C cl fp (cx.blk s H scope _ fp)) hs) fun σ H Q h => ?_
  rw [hvs]
  exact compB_read nd hw h
theorem SS.setCB {iy : Nat} {y : Str} {py spos : Pos} {ib : Nat} {xb : Str} {pb : Pos} {elt tg : Expr} {ifs : List Expr} {scope : Scope} {own : List (Str × Nat)} {vs ws : List Nat} {pos : Pos} {g : Tg} {mc : M Bool} {me : M R} (cx : CxOk gu G E k X) (ok : BlkOk X.N X.env.scope scope own) (hvs : own.map (·.2) = vs) (nd : vs.Nodup) (hw : ∀ i ∈ ws, i ∈ vs)
    (hy : X.N[iy]? = some y) (hyl : X.env.scope.names.lookup y = some .local) (hln : (py.line == pos.line) = true) (hsc : (scope.names.any fun (n, k) => n == y && (k == .local || k == .cell)) = false) (hkd : X.env.scope.kind = .function)
    (hib : ib ∉ vs) (hN : X.N[ib]? = some xb) (hv : Vis X.env.scope xb) (hd : (xb == ("__debug__" : Str)) = false) (hcd : (xb == ("__classdict__" : Str)) = false)
    (hg : ∀ (s : Shared) (H : Hp) (C : Addr) (cl : List (Str × Addr)) (fp : List Addr), CxOk gu G L2.E0 k (X.blk s H scope (compEnvC scope cl C X.env) fp) → SP' G O (X.blk s H scope (compEnvC scope cl C X.env) fp) tg ws g)
    (hc : ∀ (s : Shared) (H : Hp) (C : Addr) (cl : List (Str × Addr)) (fp : List Addr), CxOk gu G L2.E0 k (X.blk s H scope (compEnvC scope cl C X.env) fp) → STs G O L2.E0 (X.blk s H scope (compEnvC scope cl C X.env) fp) ifs mc)
    (he : ∀ (s : Shared) (H : Hp) (C : Addr) (cl : List (Str × Addr)) (fp : List Addr), CxOk gu G L2.E0 k (X.blk s H scope (compEnvC scope cl C X.env) fp) → SE G O L2.E0 (X.blk s H scope (compEnvC scope cl C X.env) fp) elt me)
    (hs : ∀ x, foldedSetIterable (.Name xb pb) X.env x = pure x := by intro _; rfl) : SS G O E X (.Assign [.Name y py] (.ListComp elt [⟨tg, .Name xb pb, ifs, 0⟩] scope pos) spos) (sSet iy (mCompB ib vs g mc me)) := by
  refine PS.imp (ps_setLc cx.calm cx.nd hy hyl (sw_true hkd hyl hln hsc) (pi_bor (O := O) (i := ib) cx.K hN hv hd hcd) ok (fun s H C cl fp => hg s H C cl fp (cx.blk s H scope _ fp)) (fun s H C cl fp => hc s H C cl fp (cx.blk s H scope _ fp)) (fun s H C cl fp => he s H C cl fp (cx.blk s H scope _ fp)) hs) fun Dn σ H ⟨ρ, T, F, st, w⟩ => ?_
  rw [hvs]
  refine compB_read (Q := fun x H1 => gName iy x σ H1 Dn.nx) nd hw (tE_s st w fun r ρ1 v H1 F1 rv st1 w1 => ?_)
  exact sset_end w1 st1
end
end PP

set_option Elab.async false
set_option linter.all false
set_option maxRecDepth 100000
/-! Pure python, 15: defs with their code, lambdas, the end. -/
namespace PP
open PySem PySem.Spec PyProof.Rows L2

/-- a def whose code is told -/
structure FunC (K : PySem.W.Frag) (x qual : Str) (st : Stmt) (f : Addr) (fd : FuncData) (cdv : Value) : Prop where
  ex : ∃ (oc : Value) (od : Option Addr) (kV doc pm : Value) (an : Option Addr) (ct : Value) (osl : Array (Option Value)),
    fd = PySem.W.fnOf x qual (defArgs st) (defBody st) (defScope st) .none kV doc pm an cdv ct ∧ K.lookup f = some ⟨oc, od, .func fd, osl⟩ ∧ PySem.W.codeIn K cdv qual = true
  kp : PySem.W.keepIn K (.ref f) = true
theorem funC_mk {K : PySem.W.Frag} {x qual : Str} {st : Stmt} {f : Addr} {oc : Value} {od an : Option Addr} {osl : Array (Option Value)} {kV doc pm cdv ct : Value} (l : K.lookup f = some ⟨oc, od, .func (PySem.W.fnOf x qual (defArgs st) (defBody st) (defScope st) .none kV doc pm an cdv ct), osl⟩)
    (c : PySem.W.codeIn K cdv qual = true) (k : PySem.W.keepIn K (.ref f) = true) : FunC K x qual st f (PySem.W.fnOf x qual (defArgs st) (defBody st) (defScope st) .none kV doc pm an cdv ct) cdv := ⟨⟨oc, od, kV, doc, pm, an, ct, osl, rfl, l, c⟩, k⟩
theorem FunC.toFun {K : PySem.W.Frag} {x qual : Str} {st : Stmt} {f : Addr} {fd : FuncData} {cdv : Value} (F : FunC K x qual st f fd cdv) : Fun K x qual st f fd := by
  obtain ⟨oc, od, kV, doc, pm, an, ct, osl, e, l, c⟩ := F.ex
  exact ⟨⟨oc, od, kV, doc, pm, an, cdv, ct, osl, e, l, c⟩, F.kp⟩
/-- a def's body is read from its promise -/
theorem def_read {G : Gx} {N ps : List Str} {body : M Flow} {vs : List V} {H : Hp} {Q : VK} {E : XK} (hpl : ps.length ≤ N.length) (hsp : spD G ps.length (runF ps.length N.length body) vs H Q E) :
    tS G vs E body { nx := fun _ H' => Q .non H', rt := Q } (start N vs) H := by
  obtain ⟨as, L, F0, h1, h2, h3, g, q⟩ := hsp
  refine ⟨entry N.length as, L, F0, ⟨entry_slots (by omega) (by omega), ?_⟩, ?_⟩
  · rw [show start N vs = vs.map some ++ List.replicate (N.length - vs.length) none from rfl, entry_live (by omega) (by omega)]
    exact entry_good h3 g
  · unfold runF at q
    rw [if_pos h2] at q
    cases e : body (entry N.length as) with
    | bad => rw [e] at q; exact q
    | exc c p ρ' =>
      rw [e] at q
      exact fun σ' H' F' da ex s' => q H' F' da ex s'.gd.right
    | ok fl ρ' =>
      rw [e] at q
      dsimp only at q
      cases eb : backs as ρ' with
      | none => rw [eb] at q; exact q.elim
      | some b =>
        rw [eb] at q
        have back : ∀ {σ' : L2.St} {H' : Hp} {F' : Fz} {M : List Cell}, St G vs ρ' σ' M H' F' → Good G H' F' (backC vs as b ++ M) := fun s' => backs_good (by omega) h3 eb s'.sl.len s'.sl.has s'.gd
        cases fl with
        | nx =>
          intro σ' H' F' s'
          exact q .non H' F' ((back s').rep (x := (.non, .sh, .non)) rfl .non)
        | rt fl d =>
          intro v σ' H' F' s'
          exact q v H' F' ((back s').perm List.perm_middle)
        | bk => exact q.elim
        | ct => exact q.elim
/-- THE RULE for a def, its code told -/
theorem okDefC {P : Program} {w : World} {mg : Str → Option Value} {base : Heap} {G : Gx} {x qual : Str} {st : Stmt} {f : Addr} {fd : FuncData} {cdv : Value} {N ps : List Str} {k : Nat} {body : M Flow} (F : FunC G.K x qual st f fd cdv) (S : FnScope N ps (defScope st))
    (h : ∀ (A : Around) (outer : List PySem.Env) (s : Shared) (H : Hp) (E : XK) (O : List V), CxOk false G E k (cxOf (L2.CX P w) P w G.K mg base N qual (defScope st) f cdv A outer s H E) → SSs G O E (cxOf (L2.CX P w) P w G.K mg base N qual (defScope st) f cdv A outer s H E) (defBody st) body) :
    FnOk P w G.K mg base (L2.CX P w) (k + 1) f fd ps (spD G ps.length (runF ps.length N.length body)) := by
  obtain ⟨oc, od, kV, doc, pm, an, ct, osl, e, lk, hcd⟩ := F.ex
  subst e
  have hpl : ps.length ≤ N.length := by have := congrArg List.length S.pre; rw [List.length_take] at this; omega
  refine fn_of lk hcd S (fun vs H Q E ⟨as, L, F, h1, _⟩ => h1) (fun A outer s H vs Q E hr hsp => ?_)
  exact ⟨_, h A outer s H E vs ⟨rfl, S.nd, hr, takes_of rfl rfl rfl rfl, rfl, passes_of rfl, fun z => by cases z⟩, def_read hpl hsp⟩

section
variable {G : Gx} {O : List V} {E : XK} {k : Nat} {X : Cx} {a b c : Expr} {pos : Pos} {ma mb mc : M R}
/-! ### arguments, counted -/
def SGL (G : Gx) (O : List V) (E : XK) (X : Cx) (es : List Expr) (m : M (List Ag)) : Prop := SG G O E X es m ∧ ∀ ρ as ρ', m ρ = .ok as ρ' → as.length = es.length
theorem SGL.nil : SGL G O E X [] aNil := ⟨SG.nil, fun ρ as ρ' e => by cases e; rfl⟩
theorem SGL.val {e : Expr} {es : List Expr} {me : M R} {ms : M (List Ag)} (he : SE G O E X e me) (hs : SGL G O E X es ms) (hst : starEach (e :: es) X.env = (false, eval e X.env) :: starEach es X.env := by rfl) : SGL G O E X (e :: es) (aVal me ms) := by
  refine ⟨SG.val he hs.1 hst, fun ρ as ρ' e => ?_⟩
  unfold aVal bnd at e
  cases q : me ρ with
  | bad => rw [q] at e; cases e
  | exc c p ρ1 => rw [q] at e; cases e
  | ok r ρ1 =>
    rw [q] at e
    cases r with
    | s i => cases e
    | v fl d =>
      dsimp only at e
      cases q2 : ms ρ1 with
      | bad => rw [q2] at e; cases e
      | exc c p ρ2 => rw [q2] at e; cases e
      | ok ds ρ2 =>
        rw [q2] at e
        cases e
        simp [hs.2 _ _ _ q2]
theorem SGL.lend {i : Nat} {x : Str} {pos : Pos} {es : List Expr} {ms : M (List Ag)} (hs : SGL G O E X es ms) (hN : X.N[i]? = some x := by rfl) (hv : Vis X.env.scope x := by first | exact Or.inl rfl | exact Or.inr (Or.inl rfl) | exact Or.inr (Or.inr rfl))
    (hst : starEach (.Name x pos :: es) X.env = (false, eval (.Name x pos) X.env) :: starEach es X.env := by rfl) (hd : (x == ("__debug__" : Str)) = false := by decide) (hcd : (x == ("__classdict__" : Str)) = false := by decide) : SGL G O E X (.Name x pos :: es) (aLend i ms) := by
  refine ⟨SG.lend hs.1 hN hv hst hd hcd, fun ρ as ρ' e => ?_⟩
  unfold aLend bnd at e
  split at e
  · split at e
    · cases q2 : ms (ρ.set i none) with
      | bad => rw [q2] at e; cases e
      | exc c p ρ2 => rw [q2] at e; cases e
      | ok ds ρ2 =>
        rw [q2] at e
        cases e
        simp [hs.2 _ _ _ q2]
    · cases e
  · cases e
theorem SE.callL {f : Addr} {fd : FuncData} {ps : List Str} {fm : FM} {x qual : Str} {st : Stmt} {p pos : Pos} {e : Expr} {es : List Expr} {ms : M (List Ag)} (cx : CxOk gu G E k X) (F : FnOk X.prog X.w X.K X.mg X.base (L2.CX X.prog X.w) k f fd ps (spD G ps.length fm)) (F0 : Fun X.K x qual st f fd) (hm : X.mg x = some (.ref f))
    (hb : Binds X.K fd ps []) (hg : Gl X x) (hn : ps.length = (e :: es).length) (ha : SGL G O E X (e :: es) ms)
    (hdb : (x == ("__debug__" : Str)) = false := by decide) (he : starEach (e :: es) X.env = (false, eval e X.env) :: starEach es X.env := by rfl) (hpl : (backTo pos (starEach es X.env)).any (·.1) = false := by rfl) : SE G O E X (.Call (.Name x p) (e :: es) [] pos) (mCall fm ms) :=
  SE.call F cx.room hg hm F0.kp hb cx.passes hn ha.1 ha.2 hdb he hpl
theorem SE.callL0 {f : Addr} {fd : FuncData} {fm : FM} {x qual : Str} {st : Stmt} {p pos : Pos} (cx : CxOk gu G E k X) (F : FnOk X.prog X.w X.K X.mg X.base (L2.CX X.prog X.w) k f fd [] (spD G 0 fm)) (F0 : Fun X.K x qual st f fd) (hm : X.mg x = some (.ref f))
    (hb : Binds X.K fd [] []) (hg : Gl X x) (hdb : (x == ("__debug__" : Str)) = false := by decide) : SE G O E X (.Call (.Name x p) [] [] pos) (mCall fm aNil) := SE.call0 F cx.room hg hm F0.kp hb cx.passes hdb
/-! ### x(lambda: body) -/
theorem SE.lam {xs a : Str} {g cc P : Addr} {sS : Stmt} {fdg : FuncData} {cdg : Value} {Ng : List Str} {say : Did → Option (Fl × D)} {m : M R} {params : Arguments} {body : Expr} {scope : Scope} {p lpos : Pos} (cx : CxOk gu G E (k + 2) X) (Fg : FunC X.K xs xs sS g fdg cdg) (hm : X.mg xs = some (.ref g))
    (hb : Binds X.K fdg [a] []) (Sg : FnScope Ng [a] (defScope sS)) (hNg : Ng[0]? = some a) (hva : Vis (defScope sS) a) (hG : Room (k + 2) X.A → LamX.GivesTo X Ng xs (defScope sS) g cdg (defBody sS) a (X.env.qual ++ "<lambda>") (TSaid G say)) (hg : Gl X xs)
    (TB : LamX.TabB X.base X.mg cc P) (hcode : X.env.code = .ref cc) (hmT : (P, X.env.qual ++ "<lambda>") ∈ G.tb) (hu : ∀ p ∈ G.tb, p.1 = P → p.2 = X.env.qual ++ "<lambda>") (L : LamX.LamS X.env.scope scope)
    (hbody : ∀ (A : Around) (outer : List PySem.Env) (s : Shared) (H : Hp) (E : XK) (f c' : Addr), CxOk false G E k (LamX.lamCx X A outer s H E scope f c') → SE G O E (LamX.lamCx X A outer s H E scope f c') body m)
    (hdef : defaultsOf params X.env = ([], []) := by rfl) (hbind : ∀ (q : Str) (cl : List (Str × Addr)) (pm cv ctv : Value), bindArgs (PySem.W.kla_fn "<lambda>" q params body scope cl pm cv ctv) ⟨[], []⟩ = pure [] := by intros; rfl)
    (hdb : (xs == ("__debug__" : Str)) = false := by decide) (hd : (a == ("__debug__" : Str)) = false := by decide) (hcd : (a == ("__classdict__" : Str)) = false := by decide) :
    SE G O E X (.Call (.Name xs p) [.Lambda params body scope lpos] [] pos) (mSaid say m) := by
  obtain ⟨oc, od, kV, doc, pm, an, ct, osl, e, lk, hcg⟩ := Fg.ex
  subst e
  refine SE.said (LamX.pe_lamcall hg hm Fg.kp lk hcg hb Sg hNg hva (hG cx.room) TB hcode hmT hu cx.room L hdef hbind (fun A outer s H E f c' hr => ?_) hdb hd hcd)
  exact hbody A outer s H E f c' ⟨cx.K, cx.nd, hr.mono (by omega), takes_of rfl rfl rfl rfl, rfl, passes_of rfl, fun z => by cases z⟩
end

/-! ### the end -/
theorem good_start {G : Gx} {H : Hp} {a : Addr} {ns : List Int} (h : SqL G.K H a (ns.map V.int)) (t : LamX.Tabs G.tb H) : ∃ F, Good G H F [(.ref a, .sh, .scr ns)] := by
  rcases h with h | ⟨o, its, n, hk, hc, hd, hs, hz, r⟩
  · refine ⟨fzSet (fun _ => none) a (.scr ns), fun b d e => ?_, fun y hy => ?_, by simp [ownA, Fl.own], t⟩
    · unfold fzSet at e
      split at e
      · rename_i z
        cases e
        rw [z]
        exact h
      · cases e
    · rw [List.mem_singleton] at hy
      subst hy
      exact .fz (by unfold fzSet; rw [if_pos rfl])
  · refine ⟨fun _ => none, ⟨(fun b d e => nomatch (show none = some d from e)), fun y hy => ?_, by simp [ownA, Fl.own], t⟩⟩
    rw [List.mem_singleton] at hy
    subst hy
    exact .k (.scr hk hc hd hs hz r)
theorem sp_start {G : Gx} {f : FM} {H : Hp} {a : Addr} {ns : List Int} (h : SqL G.K H a (ns.map V.int)) (t : LamX.Tabs G.tb H) (e : ∃ fl, f [(.sh, .scr ns)] = .ok fl (.bl true) []) : spD G 1 f [.ref a] H (fun v _ => v = .bl true) fun _ _ _ => False := by
  obtain ⟨F, g⟩ := good_start h t
  obtain ⟨fl, e⟩ := e
  refine ⟨[(.sh, .scr ns)], [], F, rfl, rfl, fun a h => ?_, by simpa [argC] using g, ?_⟩
  · rw [List.mem_singleton] at h
    subst h
    exact .inr rfl
  · rw [e]
    intro v H' F' g'
    exact g'.view (x := (v, fl, .bl true)) List.mem_cons_self
/-- the end of a law row, with tables of code, and what the top holds besides -/
theorem walk_ofTsX {l : PySem.W.OpenLaw} {n k : Nat} {q : Program} {loose : List Str} {XP : (Str → Option Value) → Heap → Prop} {YP : World → Heap → Prop} {d : DefRec} {K : Params → PySem.W.Frag} {CX : World → CXT} {x : Str}
    (hn : l.most = some n) (hn2 : n ≤ sizeLine) (hdf : d.params.defaults = []) (hr : Room k callerA) (hY : ∀ (w : World) (h : Heap), YP w h → (K w.params).In h)
    (F : ∀ (w : World) (mg : Str → Option Value) (fa : Addr) (h : Heap), YP w h → XP mg h → (K w.params).In h → h.Ns mainGlobals mg → mg d.name = some (.ref fa) → LamX.LawAtS l w (K w.params) (CX w) k n x mg fa h)
    (hCX : ∀ (w : World) (H : Hp) (s : Shared) (e : Value) (s' : Shared), CX w [] H s (fun _ _ _ => False) e s' → False) :
    PySem.W.WalkO q loose XP YP l.row.toRowW d [] (fun f vs => PySem.call f vs) := by
  refine Att.attach_callB hn hdf fun w s₀ s₁ mg mb fa o pm cd doc a vs ns G Y ho hd hcd hmg hobj hints hlen hbits hg => ?_
  have KX := hY w _ Y
  obtain ⟨fd, cs, sp, hT, nT, C, hb, hsp, hF⟩ := F w mg fa _ Y G.X KX G.T.g hmg
  exact LamX.law_callTs KX G.T.g G.T.b G.T.builtins G.T.nolimit hg hT nT C G.T.bmain hobj hints (Nat.le_trans hlen hn2) hr hF hb (fun H hH hS => hsp H a ns hlen hbits hH hS) fun H e s' => hCX w H s₁ e s'
theorem cx_none {P : Program} {w : World} {H : Hp} {s : Shared} {e : Value} {s' : Shared} (h : L2.CX P w [] H s (fun _ _ _ => False) e s') : False := by
  obtain ⟨_, _, _, _, _, _, _, _, _, _, _, _, z⟩ := h
  exact z
theorem _root_.L2.Room.units65 {k : Nat} {A : Around} (r : Room k A) : A.units + 65 < cLine := by have := r.un; omega
/-! ### {} -/
def mNewK : M R := pur (.v .ow (.dK []))
def mNewT : M R := pur (.v .ow (.dT []))
theorem SE.newK {G : Gx} {O : List V} {E : XK} {X : Cx} {pos : Pos} : SE G O E X (.Dict [] [] pos) mNewK := by
  refine PE.imp pe_dnewK fun σ H Q ⟨ρ, T, F, st, w⟩ p hp => ?_
  exact w (.ref p) _ F trivial (St.push st.sl (st.gd.new (d := .dK []) hp ⟨[], upd_same, .nil⟩ rfl))
theorem SE.newT {G : Gx} {O : List V} {E : XK} {X : Cx} {pos : Pos} : SE G O E X (.Dict [] [] pos) mNewT := by
  refine PE.imp pe_dnewT fun σ H Q ⟨ρ, T, F, st, w⟩ p hp => ?_
  exact w (.ref p) _ F trivial (St.push st.sl (st.gd.new (d := .dT []) hp ⟨[], upd_same, .nil⟩ rfl))
end PP

set_option Elab.async false
set_option linter.all false
set_option maxRecDepth 100000
/-! Pure python, 16: tuple(range(..)), things repeated. -/
namespace PP
open PySem PySem.Spec PyProof.Rows L2
section
variable {G : Gx} {O : List V} {E : XK} {k : Nat} {X : Cx} {a b : Expr} {pos : Pos} {ma mb : M R}
def mTupRg (m : M (Int × Int)) : M R := bnd m fun p => if rgOk p.1 p.2 then pur (.v .sh (.tup (rngD p.1 (p.2 - p.1).toNat 1))) else fun _ => .bad
theorem SE.tupRg {p : Pos} {e : Expr} {m : M (Int × Int)} (cx : CxOk gu G E k X) (hg : Gl X "tuple") (hm : X.mg "tuple" = none) (he : SRg G O E X e m) (na : PosOk e X := by rfl) : SE G O E X (.Call (.Name "tuple" p) [e] [] pos) (mTupRg m) := by
  refine PE.imp (pe_tupRg cx.calm hg hm he na) fun σ H Q ⟨ρ, T, F, st, w⟩ => ?_
  unfold mTupRg at w
  refine ⟨ρ, T, F, st, w.bnd.imp fun p ρ1 w1 H1 F1 st1 => ?_⟩
  obtain ⟨i, j⟩ := p
  dsimp only at w1 ⊢
  split at w1
  · rename_i h
    simp only [rgOk, small62, Bool.and_eq_true, decide_eq_true_eq] at h
    obtain ⟨⟨⟨h1, h2⟩, h3, h4⟩, h5⟩ := h
    refine ⟨⟨h1, h2, h3, h4, h5⟩, fun q hq => ?_⟩
    obtain ⟨F2, le, g⟩ := st1.gd.newT hq (reps_rg i j)
    exact w1 (.ref q) _ F2 trivial (St.push st1.sl g)
  · exact w1.elim
theorem Reps.rep {F : Fz} {vs : List V} {ds : List D} (h : Reps G F vs ds) : ∀ n : Nat, Reps G F (List.replicate n vs).flatten (List.replicate n ds).flatten
  | 0 => .nil
  | n + 1 => by
    rw [List.replicate_succ, List.replicate_succ, List.flatten_cons, List.flatten_cons]
    exact h.app (Reps.rep h n)
def repL (x y : D) : Option (Fl × D) := match x, y with
  | .lst ds, .int k => if -(2 ^ 63) ≤ k ∧ k < 2 ^ 63 ∧ ds.length * k.toNat ≤ sizeLine then some (.ow, .lst (List.replicate k.toNat ds).flatten) else none
  | _, _ => none
def repT (x y : D) : Option (Fl × D) := match x, y with
  | .tup ds, .int k => if ds.length ≠ 0 ∧ 2 ≤ k ∧ k ≤ 1000 ∧ ds.length ≤ 1000 then some (.sh, .tup (List.replicate k.toNat ds).flatten) else none
  | _, _ => none
theorem ok_repL : Ok2 G rRep repL := by
  intro H F L v u x y Q gd hv hu m
  unfold repL at m
  split at m
  · rename_i ds k
    split at m
    · rename_i h
      obtain ⟨a, vs, ev, hs, rp⟩ := gd.vw hv
      have hu := gd.vw hu
      exact ⟨a, k, vs, ev, hu, hs, h.1, h.2.1, by rw [rp.length]; exact h.2.2, fun p hp => made_lst gd (rp.rep k.toNat) hp m⟩
    · exact m.elim
  · exact m.elim
theorem ok_repT : Ok2 G (rRepT G.K) repT := by
  intro H F L v u x y Q gd hv hu m
  unfold repT at m
  split at m
  · rename_i ds k
    split at m
    · rename_i h
      obtain ⟨a, vs, ev, hs, rp⟩ := gd.vw hv
      have hu := gd.vw hu
      refine ⟨a, k, vs, ev, hu, SqT.of hs, fun z => h.1 (by rw [← rp.length, z]; rfl), h.2.1, h.2.2.1, by rw [rp.length]; exact h.2.2.2, fun p hp => made_tup gd (rp.rep k.toNat) hp m⟩
    · exact m.elim
  · exact m.elim
theorem SE.repL (ha : SE G O E X a ma) (hb : SE G O E X b mb) : SE G O E X (.BinOp a .Mult b pos) (mOp2 repL ma mb) := SE.op op_rep ok_repL ha hb
theorem SE.repT (hK : X.K = G.K) (ha : SE G O E X a ma) (hb : SE G O E X b mb) : SE G O E X (.BinOp a .Mult b pos) (mOp2 repT ma mb) := SE.op (by have := op_repT (X := X); rw [hK] at this; exact this) ok_repT ha hb
end
end PP

set_option Elab.async false
set_option linter.all false
set_option maxRecDepth 100000
set_option maxHeartbeats 4000000
/-! Pure python, 17: a tuple once, or never. -/
namespace PP
open PySem PySem.Spec PyProof.Rows L2
theorem tuple_mul1 (l : Addr) (items : Array Value) (n : Nat) (dd : Option Addr) (sl : Array (Option Value)) (u : Tok) :
    Meets (Builtin.«tuple.__mul__» ⟨[.ref l, .int 1 u], []⟩) (fun _ R s => s.heap.get? l = some { cls := .type "tuple", dict := dd, data := .seq items n, slots := sl } ∧ R (.ok (.ret (Value.ref l))) s) :=
  .of_wp fun prog w A R s h => by
    obtain ⟨hp, g, d, tk, os⟩ := s
    obtain ⟨hl, h⟩ := h
    have f1 := AutoSeq1.idx_int
    have c0 : (decide ((1 : Int) < -(2 ^ 63)) || decide ((1 : Int) ≥ 2 ^ 63)) = false := by decide
    have c1 : (items.isEmpty || (1 : Int) == 1) = true := by simp
    wp_walk using AutoSeq1.wpAny_loadPart' hl
    exact ⟨_, rfl, h⟩
theorem tuple_mul0 (l : Addr) (items : Array Value) (n : Nat) (dd : Option Addr) (sl : Array (Option Value)) (x : Int) (u : Tok) (c0 : (decide (x < -(2 ^ 63)) || decide (x ≥ 2 ^ 63)) = false) (c1 : (items.isEmpty || x == 1) = false) (c2 : (decide (x ≤ 0) || items.isEmpty) = true) :
    Meets (Builtin.«tuple.__mul__» ⟨[.ref l, .int x u], []⟩) (fun _ R s => s.heap.get? l = some { cls := .type "tuple", dict := dd, data := .seq items n, slots := sl } ∧
      R (.ok (.ret (Value.ref s.heap.objs.size))) { s with heap := s.heap.push { cls := Value.type "tuple", data := Data.seq #[] } }) :=
  .of_wp fun prog w A R s h => by
    obtain ⟨hp, g, d, tk, os⟩ := s
    obtain ⟨hl, h⟩ := h
    have f1 := AutoSeq1.idx_int
    wp_walk using AutoSeq1.wpAny_loadPart' hl
    repeat (first
      | (refine wpAny_ite_false (decide_eq_false (by rw [c0]; exact Bool.false_ne_true)) ?_; wp_walk using AutoSeq1.wpAny_loadPart' hl)
      | (refine wpAny_ite_false (decide_eq_false (by rw [c1]; exact Bool.false_ne_true)) ?_; wp_walk using AutoSeq1.wpAny_loadPart' hl)
      | (refine wpAny_ite_true (decide_eq_true (by rw [c2])) ?_; wp_walk using AutoSeq1.wpAny_loadPart' hl))
    exact ⟨_, rfl, h⟩
def rRepT1 (K : PySem.W.Frag) : R2 := fun x y H Q => ∃ l xs, x = .ref l ∧ y = .int 1 ∧ SqT K H l xs ∧ Q (.ref l) H
theorem op_repT1 {X : Cx} : OpR X (binaryOp .Mult) (rRepT1 X.K) := by
  intro pins s σ H x y v u Q I rx ry h
  obtain ⟨l, xs, rfl, rfl, hT, q⟩ := h
  cases rx
  obtain ⟨t, rfl⟩ := ry
  obtain ⟨its, r, ⟨⟨cls, dd, data, sl⟩, ho, hc, n, hd⟩, hs⟩ := I.tuple hT
  simp only at hc hd
  subst hc hd
  refine wpAny_binaryOp_repeat_ref (T := "tuple") (U := "int") (by decide) ⟨_, ho, rfl⟩ (fun s' => typeIs_int s' 1 t) noFill_tuple_mul F.fills_int_mul F.slot_int_rmul repeat_tuple F.slot_int_index.lookup
    (call_meets F.slot_int_rmul (typeIs_int s 1 t) F.entry_int_rmul (F.args_int_rmul_2 _ _) (int_rmul_tuple 1 t l its.toArray n dd sl)
      ⟨ho, rfl, ⟨_, ho, rfl⟩, call_meets F.slot_tuple_mul ⟨_, ho, rfl⟩ F.entry_tuple_mul (F.args_tuple_mul_2 _ _) (tuple_mul1 l its.toArray n dd sl t) ⟨ho, ?_⟩⟩)
  exact ⟨.ref l, H, I, rfl, q⟩
def rRepT0 (K : PySem.W.Frag) : R2 := fun x y H Q => ∃ l k xs, x = .ref l ∧ y = .int k ∧ SqT K H l xs ∧ xs ≠ [] ∧ k ≤ 0 ∧ -(2 ^ 63) ≤ k ∧ ∀ p, H p = none → Q (.ref p) (upd H p (.tup []))
theorem op_repT0 {X : Cx} : OpR X (binaryOp .Mult) (rRepT0 X.K) := by
  intro pins s σ H x y v u Q I rx ry h
  obtain ⟨l, k, xs, rfl, rfl, hT, hne, h1, h2, q⟩ := h
  cases rx
  obtain ⟨t, rfl⟩ := ry
  obtain ⟨its, r, ⟨⟨cls, dd, data, sl⟩, ho, hc, n, hd⟩, hs⟩ := I.tuple hT
  simp only at hc hd
  subst hc hd
  have hle : its.length = xs.length := r.length.symm
  have hn : its ≠ [] := fun e => hne (by
    rw [e] at hle
    exact List.eq_nil_of_length_eq_zero hle.symm)
  have hi : its.toArray.isEmpty = false := by
    cases its with
    | nil => exact absurd rfl hn
    | cons a b => rfl
  have c0 : (decide (k < -(2 ^ 63)) || decide (k ≥ 2 ^ 63)) = false := by
    rw [decide_eq_false (by omega), decide_eq_false (by omega)] <;> rfl
  have c1 : (its.toArray.isEmpty || k == 1) = false := by
    rw [hi, Bool.false_or]
    exact beq_eq_false_iff_ne.mpr (by omega)
  have c2 : (decide (k ≤ 0) || its.toArray.isEmpty) = true := by
    rw [decide_eq_true h1]; rfl
  refine wpAny_binaryOp_repeat_ref (T := "tuple") (U := "int") (by decide) ⟨_, ho, rfl⟩ (fun s' => typeIs_int s' k t) noFill_tuple_mul F.fills_int_mul F.slot_int_rmul repeat_tuple F.slot_int_index.lookup
    (call_meets F.slot_int_rmul (typeIs_int s k t) F.entry_int_rmul (F.args_int_rmul_2 _ _) (int_rmul_tuple k t l its.toArray n dd sl)
      ⟨ho, rfl, ⟨_, ho, rfl⟩, call_meets F.slot_tuple_mul ⟨_, ho, rfl⟩ F.entry_tuple_mul (F.args_tuple_mul_2 _ _) (tuple_mul0 l its.toArray n dd sl k t c0 c1 c2) ⟨ho, ?_⟩⟩)
  refine ⟨.ref s.heap.objs.size, _, I.laid (t' := s.toks) (o := .tup []) (fun b ob q => Heap.get?_push_of_some _ q) (Nat.le_refl _) ?_, rfl, q _ (I.hok.fresh (Nat.le_refl _))⟩
  exact ⟨Nat.zero_le _, [], .nil, IsTup.new _ _⟩
section
variable {G : Gx} {O : List V} {E : XK} {k : Nat} {X : Cx} {a b : Expr} {pos : Pos} {ma mb : M R}
def repT1 (x y : D) : Option (Fl × D) := match x, y with
  | .tup ds, .int k => if k = 1 then some (.sh, .tup ds) else none
  | _, _ => none
def repT0 (x y : D) : Option (Fl × D) := match x, y with
  | .tup ds, .int k => if ds.length ≠ 0 ∧ k ≤ 0 ∧ -(2 ^ 63) ≤ k then some (.sh, .tup []) else none
  | _, _ => none
theorem ok_repT1 : Ok2 G (rRepT1 G.K) repT1 := by
  intro H F L v u x y Q gd hv hu m
  unfold repT1 at m
  split at m
  · rename_i ds k
    split at m
    · rename_i h
      subst h
      obtain ⟨a, vs, ev, hs, rp⟩ := gd.vw hv
      have hu := gd.vw hu
      exact ⟨a, vs, ev, hu, SqT.of hs, by rw [← ev]; exact made_rep gd (gd.rpT hv) m⟩
    · exact m.elim
  · exact m.elim
theorem ok_repT0 : Ok2 G (rRepT0 G.K) repT0 := by
  intro H F L v u x y Q gd hv hu m
  unfold repT0 at m
  split at m
  · rename_i ds k
    split at m
    · rename_i h
      obtain ⟨a, vs, ev, hs, rp⟩ := gd.vw hv
      have hu := gd.vw hu
      exact ⟨a, k, vs, ev, hu, SqT.of hs, fun z => h.1 (by rw [← rp.length, z]; rfl), h.2.1, h.2.2, fun p hp => made_tup gd .nil hp m⟩
    · exact m.elim
  · exact m.elim
def repTA (x y : D) : Option (Fl × D) := orE (repT x y) (orE (repT1 x y) (repT0 x y))
theorem SE.repTA (hK : X.K = G.K) (ha : SE G O E X a ma) (hb : SE G O E X b mb) : SE G O E X (.BinOp a .Mult b pos) (mOp2 PP.repTA ma mb) :=
  SE.op ((by have := op_repT (X := X); rw [hK] at this; exact this : OpR X (binaryOp .Mult) (rRepT G.K)).or ((by have := op_repT1 (X := X); rw [hK] at this; exact this : OpR X (binaryOp .Mult) (rRepT1 G.K)).or (by have := op_repT0 (X := X); rw [hK] at this; exact this))) (ok_repT.or (ok_repT1.or ok_repT0)) ha hb
end
end PP

set_option Elab.async false
set_option linter.all false
set_option maxRecDepth 100000
/-! Pure python, 18: tuple(range(i, j)) far out. -/
namespace PP
open PySem PySem.Spec PyProof.Rows L2
section
variable {prog : Program} {w : World} {B : Around} {Er : Value → Shared → Prop} {z : Shared} {rg : Addr} {lo hi st : Int} {k1 k2 k3 : Tok} {m : Nat}
theorem ext_long {RR : Result → Shared → Prop} (nh : B.handled = none) (isr : IsRange z.heap rg lo hi st k1 k2 k3) (big : Builtin.Range.small lo hi st = false) (sz : Builtin.Range.rangeSize lo hi st = m) (cap : m ≤ 2 ^ 24) (L : Addr) (out : Value) (c0 : Nat) (atL : z.heap.get? L = some { cls := .type "list", data := .seq #[] c0 })
    (fin : ∀ h1 tk1 acc1 c1, (∀ b o, b ≠ L → z.heap.get? b = some o → h1.get? b = some o) → h1.get? L = some { cls := .type "list", dict := none, data := .seq acc1 c1, slots := #[] } → ItemsOf (fun i v => ∃ t, v = .int (lo + i * st) t) acc1 m → RR (.ok (.ret out)) { z with heap := h1, toks := tk1 }) :
    wpAny (model prog w) B.in1 (Builtin.List.listExtendWith (.ref L) (.ref rg) out) (fun q s' => match q with | .done f => RR (.ok f) s' | .again c' => c'.quiet = true ∧ codeAny (model prog w) B c' RR s') (fun e s' => RR (.error e) s') z := by
  have neLr : L ≠ rg := fun e => by rw [e, isr] at atL; simp at atL
  have ltL : L < z.heap.objs.size := Heap.lt_size atL
  have neLI : L ≠ z.heap.objs.size := Nat.ne_of_lt ltL
  have ninL : L ∉ [z.heap.objs.size] := fun hm => neLI (List.mem_singleton.mp hm)
  have WW := (Walks.longrange (prog := prog) (w := w) (A := B.in1) nh z.heap.objs.size lo st m).toS
  have go : ∀ (h : Heap) (cc tk : Nat), IsLongIter h z.heap.objs.size (lo + ((0 : Nat) : Int) * st) ((m : Int) - ((0 : Nat) : Int)) st → (∀ b o, b ≠ L → z.heap.get? b = some o → h.get? b = some o) →
      h.get? L = some { cls := .type "list", data := .seq #[] cc } → codeAny (model prog w) B (.builtin "list.extend.loop" ⟨[.ref L, .ref z.heap.objs.size, out], []⟩) RR { z with heap := h, toks := tk } := by
    intro h cc tk it kp hL
    refine codeAny_extend_loopS WW (by rw [sizeLine_eq]; omega) L ninL out m 0 _ #[] cc rfl (Nat.zero_le _) it hL (ItemsOf.nil _) fun s2 acc2 c2 mv hL2 items => ?_
    rw [Moved.eq_with mv]
    refine fin s2.heap s2.toks acc2 c2 (fun b o hb e => mv.heap b o (fun mem => ?_) (kp b o hb e)) hL2 items
    rcases List.mem_cons.mp mem with q | mem
    · exact hb q
    · exact absurd (Heap.lt_size e) (by rw [List.mem_singleton.mp mem]; exact Nat.lt_irrefl _)
  unfold Builtin.List.listExtendWith
  refine wpAny_bind (wpAny_typeOf (T := "range") ⟨_, isr, rfl⟩ ?_)
  have g1 : Builtin.List.listSameRef (.ref L) (.ref rg) = false := by simp [Builtin.List.listSameRef, neLr]
  have g2 : ((Value.type "range" : Value) == Value.type "list") = false := by decide
  have g3 : ((Value.type "range" : Value) == Value.type "tuple") = false := by decide
  simp only [g1, g2, g3, Bool.or_false, Bool.false_eq_true, if_false]
  refine wpAny_bind (wpAny_pyIter_longrange isr big ?_)
  refine wpAny_bind (wpAny_holding (wpAny_hint_range (n := m) (Heap.get?_push_of_some _ isr) sz cap ?_))
  have it1 : IsLongIter (z.heap.push { cls := .type "longrange_iterator", data := .fields #[rawInt lo, rawInt (Builtin.Range.rangeSize lo hi st), rawInt st] }) z.heap.objs.size (lo + ((0 : Nat) : Int) * st) ((m : Int) - ((0 : Nat) : Int)) st := by
    show IsLongIter _ _ _ _ _; rw [sz]; simpa using Heap.get?_push_size _ rfl
  have L1 := Heap.get?_push_of_some { cls := .type "longrange_iterator", data := .fields #[rawInt lo, rawInt (Builtin.Range.rangeSize lo hi st), rawInt st] } atL
  refine wpAny_ite_split (fun _ => ?_) (fun _ => wpAny_pure ⟨plainId_quiet F.plain_extend_loop _, go _ c0 _ it1 (fun b o _ e => Heap.get?_push_of_some _ e) L1⟩)
  refine wpAny_bind (wpAny_rule ?_)
  refine wpAny_bind ?_
  show wpAny _ _ (updateSeq L (·.push .none) >>= fun _ => updateSeq L (·.pop)) _ _ _
  refine wpAny_bind (wpAny_updateSeq L1 rfl ?_)
  have L2' := Heap.get?_update_self (Obj.mapSeq (·.push Value.none)) L1 rfl
  refine wpAny_updateSeq (hz := by seq_fits) L2' rfl ?_
  have L3 := Heap.get?_update_self (Obj.mapSeq (·.pop)) L2' rfl
  refine wpAny_pure ⟨plainId_quiet F.plain_extend_loop _, go _ _ _ ?_ (fun b o hb e => ?_) L3⟩
  · exact (Heap.get?_update_other _ _ neLI).trans ((Heap.get?_update_other _ _ neLI).trans it1)
  · exact (Heap.get?_update_other _ _ (Ne.symm hb)).trans ((Heap.get?_update_other _ _ (Ne.symm hb)).trans (Heap.get?_push_of_some _ e))
theorem collect_long {QQ : List Value → Shared → Prop} (nh : B.handled = none) (isr : IsRange z.heap rg lo hi st k1 k2 k3) (big : Builtin.Range.small lo hi st = false) (sz : Builtin.Range.rangeSize lo hi st = m) (cap : m ≤ 2 ^ 24)
    (fin : ∀ (h1 : Heap) (tk1 : Nat) (acc1 : Array Value), (∀ b o, z.heap.get? b = some o → h1.get? b = some o) → ItemsOf (fun i v => ∃ t, v = .int (lo + i * st) t) acc1 m → QQ acc1.toList { z with heap := h1, toks := tk1 }) :
    wpAny (model prog w) B (collect (.ref rg)) QQ Er z := by
  unfold collect
  refine wpAny_bind (wpAny_runValue (codeAny_builtin F.entry_proto_collect ?_))
  rw [Around.under_plainId F.plain_proto_collect _]
  show wpAny _ B.in1 (newList [] >>= fun l => again (.builtin "list.__iadd__" ⟨[l, .ref rg], []⟩)) _ _ z
  refine wpAny_bind (wpAny_newObj_type ?_)
  refine wpAny_pure ⟨plainId_quiet F.plain_list_iadd _, codeAny_builtin F.entry_list_iadd ?_⟩
  rw [Around.under_plainId F.plain_list_iadd _]
  show wpAny _ B.in1 (Builtin.List.listExtendWith (.ref z.heap.objs.size) (.ref rg) (.ref z.heap.objs.size)) _ _ _
  have atN : (z.heap.push { cls := .type "list", data := .seq ([] : List Value).toArray }).get? z.heap.objs.size = some { cls := .type "list", data := .seq #[] 0 } := Heap.get?_push_size _ rfl
  refine wpAny_mono (ext_long (B := B) (RR := fun rr s' => rr = .ok (.ret (.ref z.heap.objs.size)) ∧ ∃ (h1 : Heap) (tk1 : Nat) (acc1 : Array Value) (c1 : Nat), s' = { z with heap := h1, toks := tk1 } ∧
      (∀ b o, z.heap.get? b = some o → h1.get? b = some o) ∧ h1.get? z.heap.objs.size = some { cls := .type "list", dict := none, data := .seq acc1 c1, slots := #[] } ∧ ItemsOf (fun i v => ∃ t, v = .int (lo + i * st) t) acc1 m)
    (z := { z with heap := z.heap.push { cls := .type "list", data := .seq ([] : List Value).toArray } }) nh (Heap.get?_push_of_some _ isr) big sz cap _ _ 0 atN
    (fun h1 tk1 acc1 c1 kp e items => ⟨rfl, h1, tk1, acc1, c1, rfl, fun b o q => kp b o (Nat.ne_of_lt (Heap.lt_size q)) (Heap.get?_push_of_some _ q), e, items⟩)) (fun f s' hh => ?_) (fun e s' hh => ?_)
  · cases f with
    | done f =>
      obtain ⟨e, h1, tk1, acc1, c1, rfl, kp, e1, items⟩ := hh
      cases e
      show wpAny _ B (load z.heap.objs.size >>= _) _ _ _
      exact wpAny_bind (wpAny_load e1 (wpAny_pure (fin h1 tk1 acc1 kp items)))
    | again c' =>
      refine ⟨hh.1, codeAny_mono hh.2 fun rr s2 hr2 => ?_⟩
      obtain ⟨rfl, h1, tk1, acc1, c1, rfl, kp, e1, items⟩ := hr2
      show wpAny _ B (load z.heap.objs.size >>= _) _ _ _
      exact wpAny_bind (wpAny_load e1 (wpAny_pure (fin h1 tk1 acc1 kp items)))
  · exact absurd hh.1 (by simp)
theorem tuple_new_long {QQ : Value → Shared → Prop} (nh : B.handled = none) (isr : IsRange z.heap rg lo hi st k1 k2 k3) (big : Builtin.Range.small lo hi st = false) (sz : Builtin.Range.rangeSize lo hi st = m) (cap : m ≤ 2 ^ 24)
    (fin : ∀ (h1 : Heap) (tk1 : Nat) (acc1 : Array Value), (∀ b o, z.heap.get? b = some o → h1.get? b = some o) → ItemsOf (fun i v => ∃ t, v = .int (lo + i * st) t) acc1 m → QQ (.ref h1.objs.size) { z with heap := h1.push { cls := .type "tuple", data := .seq acc1 }, toks := tk1 }) :
    codeAny (model prog w) B (.call (.builtin "tuple.__new__") ⟨[.type "tuple", .ref rg], []⟩) (wants QQ Er) z := by
  refine codeAny_of_tree ?_
  show wpAny _ B.in1 (do checkBuiltinCall "tuple.__new__" ⟨[.type "tuple", .ref rg], []⟩; again (.builtin "tuple.__new__" ⟨[.type "tuple", .ref rg], []⟩)) _ _ z
  refine wpAny_bind (wpAny_of_eq (F.newCall_tuple_1 _) (wpAny_pure ⟨plainId_quiet F.plain_tuple_new _, codeAny_builtin F.entry_tuple_new ?_⟩))
  rw [Around.under_plainId F.plain_tuple_new _]
  have q1 := sub_tuple_self
  have q2 := init_tuple_lookup
  have q3 := madeHere_tuple
  have q4 : z.TypeIs (.ref rg) "range" := ⟨_, isr, rfl⟩
  have q5 : B.in1.handled = none := nh
  wp_walk using wpAny_typeOf q4, collect_long (B := B.in1) q5 isr big sz cap
  intro h1 tk1 acc1 kp items
  show wpAny _ _ (Builtin.Tuple.tupleExact acc1.toList.toArray >>= fun v => ret v) _ _ _
  unfold Builtin.Tuple.tupleExact
  refine wpAny_bind (wpAny_newObj_type ?_ (by show acc1.toList.toArray.size ≤ sizeLine; simp only [Array.toArray_toList]; rw [items.1, sizeLine_eq]; omega))
  refine wpAny_pure ?_
  have e : acc1.toList.toArray = acc1 := by simp
  rw [e]
  exact fin h1 tk1 acc1 kp items
theorem call_tuple_long {QQ : Value → Shared → Prop} (nh : B.handled = none) (isr : IsRange z.heap rg lo hi st k1 k2 k3) (big : Builtin.Range.small lo hi st = false) (sz : Builtin.Range.rangeSize lo hi st = m) (cap : m ≤ 2 ^ 24)
    (fin : ∀ (h1 : Heap) (tk1 : Nat) (acc1 : Array Value), (∀ b o, z.heap.get? b = some o → h1.get? b = some o) → ItemsOf (fun i v => ∃ t, v = .int (lo + i * st) t) acc1 m → QQ (.ref h1.objs.size) { z with heap := h1.push { cls := .type "tuple", data := .seq acc1 }, toks := tk1 }) :
    wpAny (model prog w) B (call (.type "tuple") [.ref rg]) QQ Er z := by
  refine callType_codes (Q₁ := fun obj s₁ => s₁.TypeIs obj "tuple" ∧ QQ obj s₁) F.called_tuple (F.typeCall_tuple_1 _) F.entry_object_init
    (tuple_new_long (B := B.in1) nh isr big sz cap fun h1 tk1 acc1 kp items => ⟨⟨_, Heap.get?_push_size _ rfl, rfl⟩, fin h1 tk1 acc1 kp items⟩) fun obj s1 hh => ?_
  exact ⟨hh.1, F.args_object_init_2 obj _, object_init_meets F.called_tuple.init.lookup F.called_tuple.made (by decide) prog w B.in1 _ s1 ⟨hh.1, rfl, hh.2⟩⟩
end
section
variable {G : Gx} {O : List V} {E : XK} {k : Nat} {X : Cx}
def tTupRgB (te : L2.St → Hp → (Int → Int → Hp → Prop) → Prop) : TE := fun σ H Q => te σ H fun a b H1 => (b - a).toNat ≤ 2 ^ 24 ∧ ∀ q, H1 q = none → Q (.ref q) (upd H1 q (.tup (rgV a b)))
theorem pe_tupRgB {e : Expr} {te : L2.St → Hp → (Int → Int → Hp → Prop) → Prop} {p pos : Pos} (hc : X.calm = true) (hg : Gl X "tuple") (hm : X.mg "tuple" = none) (he : PRg X e te) (na : PosOk e X := by rfl) : PE X (.Call (.Name "tuple" p) [e] [] pos) (tTupRgB te) := by
  refine ⟨fun pins s σ H Q I h => ?_⟩
  refine Call_ (ld_blt I hg hm boot_tuple (PyProof.Rows.callWith_type1 (args_cons (thn (he pins s σ H _ I h) fun x s1 ⟨r, a, b, t, u, v, H1, ex, hr, I1, ok, q⟩ => args_nil ?_) na) na))
  subst ex
  have done : ∀ (h' : Heap) (tk : Nat) (acc : Array Value), (∀ b o, s1.heap.get? b = some o → h'.get? b = some o) → ItemsOf (fun i v => ∃ t, v = .int (a + i * 1) t) acc (b - a).toNat →
      EP X pins σ Q (.ref h'.objs.size) { s1 with heap := h'.push { cls := .type "tuple", data := .seq acc }, toks := tk } := fun h' tk acc hk hi => by
    have I2 : Inv X pins σ H1 { s1 with heap := h', toks := tk } := I1.kept hk
    refine ⟨.ref h'.objs.size, upd H1 h'.objs.size (.tup (rgV a b)), I2.laid (t' := tk) (fun c o e => Heap.get?_push_of_some _ e) (Nat.le_refl _) (show ObjOk X.prog X.w _ _ _ (.tup (rgV a b)) from ⟨?_, acc.toList, vals_rg hi, ?_⟩), rfl, q _ (I2.hok.fresh (Nat.le_refl _))⟩
    · rw [rgV_length, sizeLine_eq]; omega
    · rw [Array.toArray_toList]; exact IsTup.new _ _
  cases hs : Builtin.Range.small a b 1 with
  | true => exact call_tuple_range (n := (b - a).toNat) (I1.ok.hd hc) hr hs (rangeSize_nat a b) ok done
  | false => exact call_tuple_long (m := (b - a).toNat) (I1.ok.hd hc) hr hs (rangeSize_nat a b) ok done
def mTupRgB (m : M (Int × Int)) : M R := bnd m fun p => if (p.2 - p.1).toNat ≤ 2 ^ 24 then pur (.v .sh (.tup (rngD p.1 (p.2 - p.1).toNat 1))) else fun _ => .bad
theorem SE.tupRgB {p pos : Pos} {e : Expr} {m : M (Int × Int)} (cx : CxOk gu G E k X) (hg : Gl X "tuple") (hm : X.mg "tuple" = none) (he : SRg G O E X e m) (na : PosOk e X := by rfl) : SE G O E X (.Call (.Name "tuple" p) [e] [] pos) (mTupRgB m) := by
  refine PE.imp (pe_tupRgB cx.calm hg hm he na) fun σ H Q ⟨ρ, T, F, st, w⟩ => ?_
  unfold mTupRgB at w
  refine ⟨ρ, T, F, st, w.bnd.imp fun p ρ1 w1 H1 F1 st1 => ?_⟩
  obtain ⟨i, j⟩ := p
  dsimp only at w1 ⊢
  split at w1
  · rename_i h
    refine ⟨h, fun q hq => ?_⟩
    obtain ⟨F2, le, g⟩ := st1.gd.newT hq (reps_rg i j)
    exact w1 (.ref q) _ F2 trivial (St.push st1.sl g)
  · exact w1.elim
end
end PP

set_option Elab.async false
set_option linter.all false
set_option maxRecDepth 100000
/-! Pure python, 19: a thing lent once the other arguments are there. -/
namespace PP
open PySem PySem.Spec PyProof.Rows L2
/-- the thing of the slot i is lent, after the rest is reckoned (which may use it) -/
def aLendL (i : Nat) (r : M (List Ag)) : M (List Ag) := fun ρ0 => match ρ0[i]? with
  | some (some _) => (bnd r fun ds ρ => match ρ[i]? with
    | some (some (fl, d)) => if fl.own then .ok (⟨some (i, fl), .ow, d⟩ :: ds) (ρ.set i none) else .bad
    | _ => .bad) ρ0
  | _ => .bad
section
variable {G : Gx} {O : List V} {E : XK} {k : Nat} {X : Cx}
theorem SG.lendL {i : Nat} {x : Str} {pos : Pos} {es : List Expr} {ms : M (List Ag)} (hs : SG G O E X es ms) (hN : X.N[i]? = some x := by rfl) (hv : Vis X.env.scope x := by first | exact Or.inl rfl | exact Or.inr (Or.inl rfl) | exact Or.inr (Or.inr rfl))
    (hst : starEach (.Name x pos :: es) X.env = (false, eval (.Name x pos) X.env) :: starEach es X.env := by rfl) (hd : (x == ("__debug__" : Str)) = false := by decide) (hcd : (x == ("__classdict__" : Str)) = false := by decide) : SG G O E X (.Name x pos :: es) (aLendL i ms) := by
  refine PA.imp (pa_cons (pe_var hN hv hd hcd) hs hst) fun σ H Q ⟨ρ, T, F, st, w⟩ => ?_
  unfold aLendL at w
  split at w
  · rename_i s e
    obtain ⟨v, h1, _⟩ := st.sl.has i s e
    refine ⟨v, h1, ?_⟩
    refine tG_bnd st w fun ds ρ2 vs H3 F3 hl st3 w3 => ?_
    split at w3
    · rename_i fl d e2
      split at w3
      · rename_i ho
        obtain ⟨v', h1', h2, g⟩ := st3.front e2
        rw [h1] at h1'
        cases h1'
        have g' : Good G H3 F3 ((v, .ow, d) :: (live σ (ρ2.set i none) ++ (agC vs ds ++ T))) := g.flag (fl' := .ow) (by rw [ho]; rfl)
        refine w3 (v :: vs) H3 F3 (.cons ⟨fun j fl' e' => ?_, fun z => by cases z⟩ hl) ⟨st3.sl.none, g'.perm List.perm_middle.symm⟩
        cases e'
        exact ⟨h1, ho, rfl, h2⟩
      · exact w3.elim
    · exact w3.elim
  · exact w.elim
theorem SGL.lendL {i : Nat} {x : Str} {pos : Pos} {es : List Expr} {ms : M (List Ag)} (hs : SGL G O E X es ms) (hN : X.N[i]? = some x := by rfl) (hv : Vis X.env.scope x := by first | exact Or.inl rfl | exact Or.inr (Or.inl rfl) | exact Or.inr (Or.inr rfl))
    (hst : starEach (.Name x pos :: es) X.env = (false, eval (.Name x pos) X.env) :: starEach es X.env := by rfl) (hd : (x == ("__debug__" : Str)) = false := by decide) (hcd : (x == ("__classdict__" : Str)) = false := by decide) : SGL G O E X (.Name x pos :: es) (aLendL i ms) := by
  refine ⟨SG.lendL hs.1 hN hv hst hd hcd, fun ρ as ρ' e => ?_⟩
  unfold aLendL bnd at e
  split at e
  · cases q2 : ms ρ with
    | bad => rw [q2] at e; cases e
    | exc c p ρ2 => rw [q2] at e; cases e
    | ok ds ρ2 =>
      rw [q2] at e
      dsimp only at e
      split at e
      · split at e
        · cases e
          simp [hs.2 _ _ _ q2]
        · cases e
      · cases e
  · cases e
end
end PP

set_option Elab.async false
set_option linter.all false
set_option maxRecDepth 100000
set_option maxHeartbeats 2000000
/-! Pure python, 20: defs that are promised only where no repr is under way (so that they may use repr). -/
namespace PP
open PySem PySem.Spec PyProof.Rows L2
/-- a promise for where no repr is under way -/
structure FnG (P : Program) (w : World) (K : PySem.W.Frag) (mg : Str → Option Value) (base : Heap) (CX : CXT) (k : Nat) (f : Addr) (fd : FuncData) (ps : List Str) (sp : Sp) : Prop where
  ln : ∀ vs H Q E, sp vs H Q E → vs.length = ps.length
  go : ∀ (A : Around) (ou : List PySem.Env) (s : Shared) (H : Hp) (args : Args) (us : List Value) (vs : List V) (Q : VK) (E : XK),
    A.guards = some [] → Room k A → Env0 P w K mg base A ou s H → BindsTo s fd args (ps.zip us) → Vals vs us → sp vs H Q E →
    codeAny (model P w) A (.call (.ref f) args) (CR CX ou P w H s Q E) s
section
variable {P : Program} {w : World} {K : PySem.W.Frag} {mg : Str → Option Value} {base : Heap} {CX : CXT} {j k : Nat} {f : Addr} {fd : FuncData} {ps : List Str} {sp : Sp}
theorem FnG.ofOk (h : FnOk P w K mg base CX k f fd ps sp) : FnG P w K mg base CX k f fd ps sp :=
  ⟨h.len, fun A ou s H args us vs Q E _ hr => h.run A ou s H args us vs Q E hr⟩
theorem FnG.up (h : FnG P w K mg base CX j f fd ps sp) (le : j ≤ k) : FnG P w K mg base CX k f fd ps sp :=
  ⟨h.ln, fun A ou s H args us vs Q E hg hr => h.go A ou s H args us vs Q E hg (hr.mono le)⟩
end
theorem deeper_gd {A : Around} {env : PySem.Env} (h : A.guards = some []) : (A.deeper env).guards = some [] := by
  simp [Around.deeper, h]
section
variable {G : Gx} {O : List V} {E : XK} {k : Nat} {X : Cx}
/-- such a def is run -/
theorem goG {CX : CXT} {f : Addr} {fd : FuncData} {ps : List Str} {sp : Sp} {pins : List (Addr × Obj)} {σ : L2.St} {H : Hp} {s : Shared} {Q : VK} {us : List Value} {vs : List V}
    (h : FnG X.prog X.w X.K X.mg X.base CX k f fd ps sp) (gd : X.A.guards = some []) (rm : Room k X.A) (bd : Binds X.K fd ps []) (pa : Passes CX X E) (I : Inv X pins σ H s) (rv : Vals vs us) (q : sp vs H Q E) :
    wpAny (model X.prog X.w) X.A (call (.ref f) us) (EP X pins σ Q) X.xe s := by
  have n1 : us.length = ps.length := rv.length.symm.trans (h.ln vs H Q E q)
  have bd' := bd s us I.kIn (by rw [List.append_nil]; exact n1)
  rw [List.append_nil] at bd'
  have main := h.go X.A X.stack s H ⟨us, []⟩ us vs Q E gd rm I.env0 bd' rv q
  refine wpAny_call (codeAny_mono main ?_)
  intro r s' hq
  match r, hq with
  | .error e, hq => exact pa pins σ H s e s' I hq
  | .ok (.ret u), hq => exact I.after hq
/-- f(e, ..) -/
theorem pe_callG {CX : CXT} {f : Addr} {fd : FuncData} {ps : List Str} {sp : Sp} {x : Str} {p pos : Pos} {e : Expr} {es : List Expr} {t : TA}
    (h : FnG X.prog X.w X.K X.mg X.base CX k f fd ps sp) (gd : X.A.guards = some []) (rm : Room k X.A) (gl : Gl X x) (hm : X.mg x = some (.ref f)) (kp : PySem.W.keepIn X.K (.ref f) = true) (bd : Binds X.K fd ps []) (pa : Passes CX X E)
    (as : PA X (e :: es) t) (nd : (x == ("__debug__" : Str)) = false) (st : starEach (e :: es) X.env = (false, eval e X.env) :: starEach es X.env) (pl : (backTo pos (starEach es X.env)).any (·.1) = false) :
    PE X (.Call (.Name x p) (e :: es) [] pos) (tCall sp [] E t) := by
  constructor
  intro pins s σ H Q I q
  refine wpAny_Call_Name_kw (ld_glob I gl hm ?_ nd)
  have arg := as.run pos pins s σ H _ I q
  refine PySem.W.callWith_K (h₀ := X.base) I.ok.mod.kin kp (thn arg fun us s1 hs => ?_) st pl
  obtain ⟨vs, H1, I1, rv, q1⟩ := hs
  rw [List.append_nil] at q1
  exact ⟨I1.kIn, goG h gd rm bd pa I1 rv q1⟩
/-- f() -/
theorem pe_callG0 {CX : CXT} {f : Addr} {fd : FuncData} {sp : Sp} {x : Str} {p pos : Pos}
    (h : FnG X.prog X.w X.K X.mg X.base CX k f fd [] sp) (gd : X.A.guards = some []) (rm : Room k X.A) (gl : Gl X x) (hm : X.mg x = some (.ref f)) (kp : PySem.W.keepIn X.K (.ref f) = true) (bd : Binds X.K fd [] []) (pa : Passes CX X E)
    (nd : (x == ("__debug__" : Str)) = false) : PE X (.Call (.Name x p) [] [] pos) (tCall sp [] E tNil) := by
  constructor
  intro pins s σ H Q I q
  refine wpAny_Call_Name_kw (ld_glob I gl hm ?_ nd)
  exact PySem.W.callWith_K0 I.kIn kp (goG (us := []) h gd rm bd pa I .nil q)
theorem SE.callG {f : Addr} {fd : FuncData} {ps : List Str} {fm : FM} {x qual : Str} {st : Stmt} {p pos : Pos} {e : Expr} {es : List Expr} {ms : M (List Ag)} (cx : CxOk true G E k X) (F : FnG X.prog X.w X.K X.mg X.base (L2.CX X.prog X.w) k f fd ps (spD G ps.length fm)) (F0 : Fun X.K x qual st f fd) (hm : X.mg x = some (.ref f))
    (hb : Binds X.K fd ps []) (hg : Gl X x) (hn : ps.length = (e :: es).length) (ha : SGL G O E X (e :: es) ms)
    (hdb : (x == ("__debug__" : Str)) = false := by decide) (he : starEach (e :: es) X.env = (false, eval e X.env) :: starEach es X.env := by rfl) (hpl : (backTo pos (starEach es X.env)).any (·.1) = false := by rfl) : SE G O E X (.Call (.Name x p) (e :: es) [] pos) (mCall fm ms) :=
  SE.call_of (pe_callG F (cx.gd rfl) cx.room hg hm F0.kp hb cx.passes ha.1 hdb he hpl) hn ha.2
theorem SE.callG0 {f : Addr} {fd : FuncData} {fm : FM} {x qual : Str} {st : Stmt} {p pos : Pos} (cx : CxOk true G E k X) (F : FnG X.prog X.w X.K X.mg X.base (L2.CX X.prog X.w) k f fd [] (spD G 0 fm)) (F0 : Fun X.K x qual st f fd) (hm : X.mg x = some (.ref f))
    (hb : Binds X.K fd [] []) (hg : Gl X x) (hdb : (x == ("__debug__" : Str)) = false := by decide) : SE G O E X (.Call (.Name x p) [] [] pos) (mCall fm aNil) :=
  SE.call0_of (pe_callG0 F (cx.gd rfl) cx.room hg hm F0.kp hb cx.passes hdb) fun _ _ _ => call0_read
end
/-- THE RULE for such a def -/
theorem okDefG {P : Program} {w : World} {mg : Str → Option Value} {base : Heap} {G : Gx} {x qual : Str} {st : Stmt} {f : Addr} {fd : FuncData} {cdv : Value} {N ps : List Str} {k : Nat} {body : M Flow} (F : FunC G.K x qual st f fd cdv) (S : FnScope N ps (defScope st))
    (h : ∀ (A : Around) (outer : List PySem.Env) (s : Shared) (H : Hp) (E : XK) (O : List V), CxOk true G E k (cxOf (L2.CX P w) P w G.K mg base N qual (defScope st) f cdv A outer s H E) → SSs G O E (cxOf (L2.CX P w) P w G.K mg base N qual (defScope st) f cdv A outer s H E) (defBody st) body) :
    FnG P w G.K mg base (L2.CX P w) (k + 1) f fd ps (spD G ps.length (runF ps.length N.length body)) := by
  obtain ⟨oc, od, kV, doc, pm, an, ct, osl, e, lk, hcd⟩ := F.ex
  subst e
  have hpl : ps.length ≤ N.length := by have := congrArg List.length S.pre; rw [List.length_take] at this; omega
  refine ⟨fun vs H Q E ⟨as, L, F, h1, _⟩ => h1, ?_⟩
  intro A ou s H args us vs Q E gd rm e0 bt rv hsp
  have nv : vs.length = ps.length := by obtain ⟨as, L, F0, h1, _⟩ := hsp; exact h1
  have old : ∀ b o, base.get? b = some o → s.heap.get? b = some o := fun b o z => (e0.bs b o z).1
  have inK := e0.mod.kin.keeps old
  have noL := e0.mod.nolimit.keeps old
  have kinds : ∀ y ∈ ps.zip us, (defScope st).names.lookup y.1 = some .local ∨ ((defScope st).names.lookup y.1 = some .cell ∧ ((cellsFrom (s.heap.objs.size + 1) (defScope st).names []).lookup y.1).isSome = true) := by
    rintro ⟨n, v⟩ hy
    have hn := S.par n (List.of_mem_zip hy).1
    exact hn.imp id fun q => ⟨q, PySem.W.cellsFrom_some _ _ _ (.inl q)⟩
  refine codeAny_call_function rm.depth (inK _ _ lk) rfl S.co S.gen rfl (PySem.W.codeRec_of inK hcd) (bt _ _ _ _ ?_)
  refine wpAny_newFunctionEnv_cells S.kind kinds fun env he s1 x => ?_
  subst he
  refine ⟨noL.keeps x.toInCall.keep, codeAny_func ?_⟩
  have inv1 : Inv (cxOf (L2.CX P w) P w G.K mg base N qual (defScope st) f cdv A ou s H E) [] (start N vs) H s1 := inv_start S rm.hd e0 nv rv x
  have cx : CxOk true G E k (cxOf (L2.CX P w) P w G.K mg base N qual (defScope st) f cdv A ou s H E) := ⟨rfl, S.nd, rm.deeper _, takes_of rfl rfl rfl rfl, rfl, passes_of rfl, fun _ => deeper_gd gd⟩
  refine wpAny_mono ((h A ou s H E vs cx).run [] s1 (start N vs) H _ inv1 (def_read hpl hsp)) (fun fl s' hs => ?_) fun e s' hs => hs
  cases fl
  case ret u => obtain ⟨v, σ', H', J, rv', q⟩ := hs; exact ⟨v, H', J.os, J.bare, J.base, J.hok, rv', q⟩
  case next => obtain ⟨σ', H', J, q⟩ := hs; exact ⟨V.non, H', J.os, J.bare, J.base, J.hok, (rfl : RelV V.non Value.none), q⟩
  all_goals (obtain ⟨_, _, _, z⟩ := hs; exact False.elim z)
end PP

set_option Elab.async false
set_option linter.all false
set_option maxRecDepth 100000
set_option maxHeartbeats 2000000
/-! Pure python, 21: the end of a law whose def is promised only where no repr is under way. -/
namespace PP
open PySem PySem.Spec PyProof.Rows L2 LamX
section
variable {P : Program} {w : World} {K : PySem.W.Frag} {mg mb : Str → Option Value} {CX : CXT} {k : Nat} {fa a : Addr} {cs : List (Addr × Addr)} {s₁ : Shared} {vs : List Value} {ns : List Int} {H : Hp}
/-- what is not tracked is seen in the hidden heap -/
def Unseen (h : Heap) (H : Hp) : Prop := ∀ b o, h.get? b = some o → (∀ xs n, o.data ≠ .seq xs n) → o.data ≠ .fields #[] → H b = none
theorem unseen_of (ha : s₁.heap.get? a = some { cls := .type "list", data := .seq vs.toArray }) (hT : ∀ b ∈ cs.map (·.2), s₁.heap.get? b = some { cls := .none, data := .fields #[] }) (only : ∀ b, H b ≠ none → b = a ∨ b ∈ cs.map (·.2)) : Unseen s₁.heap H := by
  intro b o e h1 h2
  match q : H b with
  | none => rfl
  | some u =>
    rcases only b (by rw [q]; exact Option.some_ne_none u) with rfl | z
    · cases ha.symm.trans e; exact (h1 _ _ rfl).elim
    · cases (hT b z).symm.trans e; exact (h2 rfl).elim
theorem Unseen.names (un : Unseen s₁.heap H) {b : Addr} {m : Str → Option Value} (x : s₁.heap.Ns b m) : (hidT s₁.heap H).Ns b m := by
  obtain ⟨o, es, ep, e, d, r⟩ := x
  refine ⟨o, es, ep, hidT_get e (un b o e ?_ ?_), d, r⟩
  · intro xs n z; cases d.symm.trans z
  · intro z; cases d.symm.trans z
theorem Unseen.tab (un : Unseen s₁.heap H) (hns : s₁.heap.Ns mainGlobals mg) (hT : ∀ p ∈ cs, s₁.heap.get? p.2 = some { cls := .none, data := .fields #[] }) (C : ∀ p ∈ cs, PySem.W.CodeHd s₁.heap p.1 p.2)
    (hbm : ∃ (bm : Addr) (ob : Obj), mg "__builtins__" = some (.ref bm) ∧ bm ≠ builtinsNs ∧ s₁.heap.get? bm = some ob ∧ ob.cls = .type "module" ∧ ob.dict = some builtinsNs ∧ ob.data = .plain) : ∀ p ∈ cs, TabB (hidT s₁.heap H) mg p.1 p.2 := by
  intro p hp
  have tp := hT p hp
  obtain ⟨og, es, ep, eg, dg, _⟩ := hns
  refine ⟨?_, ?_, ?_⟩
  · obtain ⟨o, us, file, tf, flags, tg, inF, text, tt, e1, r1, r2, rest⟩ := C p hp
    obtain ⟨r3, rest⟩ := rest
    refine ⟨o, us, file, tf, flags, tg, inF, text, tt, hidT_get e1 (un _ o e1 ?_ ?_), r1, r2, r3, rest⟩
    · intro xs n z; cases r2.symm.trans z
    · intro z
      cases r2.symm.trans z
      simp at r3
  · obtain ⟨bm, ob, b1, b2, b3, b4, b5, b6⟩ := hbm
    refine ⟨bm, ob, b1, b2, ?_, ?_, hidT_get b3 (un bm ob b3 ?_ ?_), b4, b5, b6⟩
    · rintro rfl
      cases eg.symm.trans b3
      cases dg.symm.trans b6
    · rintro rfl
      cases tp.symm.trans b3
      cases b6
    · intro xs n z; cases b6.symm.trans z
    · intro z; cases b6.symm.trans z
  · intro z
    rw [← z] at tp
    cases eg.symm.trans tp
    cases dg
theorem Unseen.mod (un : Unseen s₁.heap H) (KX : K.In s₁.heap) (hns : s₁.heap.Ns mainGlobals mg) (hb : s₁.heap.Ns builtinsNs mb) (hbb : ∀ x : Str, x ≠ "__name__" → mb x = bootBuiltins x) (hlim : s₁.heap.NoLimit)
    (no : ∀ b o, K.lookup b = some o → H b = none) : L2.Mod K mg (hidT s₁.heap H) := by
  obtain ⟨mc, l1, l2⟩ := hlim
  exact ⟨fun b o e => hidT_get (KX b o e) (no b o e), un.names hns, ⟨mb, un.names hb, hbb⟩, ⟨mc, un.names l1, l2⟩⟩
/-- the call of the law -/
theorem law_callG {fd : FuncData} {x : Str} {sp : Sp}
    (KX : K.In s₁.heap) (hns : s₁.heap.Ns mainGlobals mg) (hb : s₁.heap.Ns builtinsNs mb) (hbb : ∀ x : Str, x ≠ "__name__" → mb x = bootBuiltins x) (hlim : s₁.heap.NoLimit) (hg : s₁.gens = #[])
    (hT : ∀ p ∈ cs, s₁.heap.get? p.2 = some { cls := .none, data := .fields #[] }) (nT : ∀ p ∈ cs, K.lookup p.2 = none) (C : ∀ p ∈ cs, PySem.W.CodeHd s₁.heap p.1 p.2)
    (hbm : ∃ (bm : Addr) (ob : Obj), mg "__builtins__" = some (.ref bm) ∧ bm ≠ builtinsNs ∧ s₁.heap.get? bm = some ob ∧ ob.cls = .type "module" ∧ ob.dict = some builtinsNs ∧ ob.data = .plain)
    (ha : s₁.heap.get? a = some { cls := .type "list", data := .seq vs.toArray }) (hi : IntsAre vs ns) (hl : ns.length ≤ sizeLine) (hr : Room k callerA)
    (F : ∀ base : Heap, K.In base → base.Ns mainGlobals mg → (∀ p ∈ cs, TabB base mg p.1 p.2) → FnG P w K mg base CX k fa fd [x] sp) (hbind : ∀ (s : Shared) (u : Value), BindsTo s fd ⟨[u], []⟩ [(x, u)])
    (hsp : ∀ H : Hp, (∀ p ∈ cs, H p.2 = some (.tbl #[])) → SqL K H a (ns.map V.int) → sp [.ref a] H (fun v _ => v = .bl true) fun _ _ _ => False)
    (hCX : ∀ H e s', CX [] H s₁ (fun _ _ _ => False) e s' → False) :
    codeAny (model P w) callerA (.call (.ref fa) ⟨[.ref a], []⟩) (fun r s' => r = .ok (.ret (.bool true)) ∧ OldK s₁.heap s'.heap ∧ s'.os = s₁.os ∧ AllBare s'.gens) s₁ := by
  have tabs : ∀ b ∈ cs.map (·.2), s₁.heap.get? b = some { cls := .none, data := .fields #[] } := by
    intro b hb'
    obtain ⟨p, hp, rfl⟩ := List.mem_map.mp hb'
    exact hT p hp
  have inT : ∀ p ∈ cs, p.2 ∈ cs.map (·.2) := fun p hp => List.mem_map_of_mem hp
  have notT : a ∉ cs.map (·.2) := by
    intro z
    have e := congrArg Obj.data (Option.some.inj (ha.symm.trans (tabs a z)))
    cases e
  -- a heap that tracks the tables, and the script or not
  have main : ∀ H : Hp, (∀ b ∈ cs.map (·.2), H b = some (.tbl #[])) → (∀ b, b ∉ cs.map (·.2) → b ≠ a → H b = none) →
      ((H a = none ∧ SqL K H a (ns.map V.int)) ∨ (K.lookup a = none ∧ ∃ o, H a = some (.frz o (.lst (ns.map V.int))))) → HOk P w H s₁.heap →
      codeAny (model P w) callerA (.call (.ref fa) ⟨[.ref a], []⟩) (fun r s' => r = .ok (.ret (.bool true)) ∧ OldK s₁.heap s'.heap ∧ s'.os = s₁.os ∧ AllBare s'.gens) s₁ := by
    intro H h1 h2 h3 ok
    have only : ∀ b, H b ≠ none → b = a ∨ b ∈ cs.map (·.2) := by
      intro b nb
      by_cases c1 : b ∈ cs.map (·.2)
      · exact .inr c1
      · by_cases c2 : b = a
        · exact .inl c2
        · exact (nb (h2 b c1 c2)).elim
    have un : Unseen s₁.heap H := unseen_of ha tabs only
    have free : ∀ b o, K.lookup b = some o → H b = none := by
      intro b o e
      by_cases c1 : b ∈ cs.map (·.2)
      · obtain ⟨p, hp, rfl⟩ := List.mem_map.mp c1
        cases (nT p hp).symm.trans e
      · by_cases c2 : b = a
        · subst c2
          rcases h3 with ⟨z, _⟩ | ⟨z, _⟩
          · exact z
          · cases z.symm.trans e
        · exact h2 b c1 c2
    have md := un.mod KX hns hb hbb hlim free
    have sq : SqL K H a (ns.map V.int) := by
      rcases h3 with ⟨_, z⟩ | ⟨_, o, z⟩
      · exact z
      · exact .inl (.inr ⟨o, z⟩)
    have env : Env0 P w K mg (hidT s₁.heap H) callerA [] s₁ H := by
      refine ⟨rfl, md, fun b o e => of_hidT e, Nat.le_of_eq (hidT_size _ _), trivial, ?_, ok, .of_eq hg⟩
      intro b hb'
      cases hb'
    have run := (F (hidT s₁.heap H) md.kin (un.names hns) (un.tab hns hT C hbm)).go callerA [] s₁ H ⟨[.ref a], []⟩ [.ref a] [.ref a] _ _ rfl hr env (hbind s₁ (.ref a)) (.cons rfl .nil) (hsp H (fun p hp => h1 _ (inT p hp)) sq)
    refine codeAny_mono run ?_
    intro r s' h
    cases r
    case error e => exact (hCX H e s' h).elim
    case ok fl =>
    cases fl
    case ret u =>
      obtain ⟨v, H', os, bare, gr, ok', rel, q⟩ := h
      cases (show v = .bl true from q)
      cases (show u = Value.bool true from rel)
      have stays : ∀ b o, b ∉ cs.map (·.2) → s₁.heap.get? b = some o → s'.heap.get? b = some o := by
        intro b o nb e
        by_cases c : H b = none
        · exact gr.keep b o e c (by intro z; cases z) (by intro z; cases z)
        · rcases only b c with rfl | z
          · rcases h3 with ⟨z, _⟩ | ⟨_, o2, z⟩
            · exact (c z).elim
            · have z2 := gr.frzs b o2 _ z
              have e1 := (ok b _ z).1
              have e2 := (ok' b _ z2).1
              rw [← e1.symm.trans e]
              exact e2
          · exact (nb z).elim
      have grows : ∀ b ∈ cs.map (·.2), ∃ more : Array Value, s'.heap.get? b = some { cls := .none, data := .fields more } := by
        intro b hb'
        obtain ⟨more, z⟩ := gr.tbls b #[] (h1 b hb')
        exact ⟨_, ok' b _ z⟩
      refine ⟨rfl, ⟨?_, ?_⟩, os, bare⟩
      · intro b o e
        by_cases c : b ∈ cs.map (·.2)
        · obtain ⟨more, hm⟩ := grows b c
          obtain ⟨p, hp, rfl⟩ := List.mem_map.mp c
          cases (hT p hp).symm.trans e
          refine .inr (.inl ⟨((C p hp).tab (hT p hp)).isCodeTable, rfl, #[], more, rfl, ?_⟩)
          rw [Array.empty_append]
          exact hm
        · exact .inl (stays b o c e)
      · intro b o e
        by_cases c : b ∈ cs.map (·.2)
        · obtain ⟨more, hm⟩ := grows b c
          exact ⟨_, hm⟩
        · exact ⟨o, stays b o c e⟩
    all_goals exact False.elim h
  have rv := vals_ints hi
  have lv := hi.length
  match e : K.lookup a with
  | some o =>
    cases ha.symm.trans (KX a o e)
    let H0 : Hp := fun b => if b ∈ cs.map (·.2) then some (.tbl #[]) else none
    refine main H0 (fun b hb' => if_pos hb') (fun b nb _ => if_neg nb) (.inl ⟨if_neg notT, .inr ⟨_, vs.toArray, _, e, rfl, rfl, rfl, by rw [List.size_toArray, lv]; exact hl, by simpa using rv⟩⟩) ?_
    intro b u z
    by_cases c : b ∈ cs.map (·.2)
    · cases (show some (HO.tbl #[]) = some u from (if_pos c).symm.trans z)
      exact tabs b c
    · cases (show (none : Option HO) = some u from (if_neg c).symm.trans z)
  | none =>
    let H0 : Hp := fun b => if b ∈ cs.map (·.2) then some (.tbl #[]) else if b = a then some (.frz { cls := .type "list", data := .seq vs.toArray } (.lst (ns.map V.int))) else none
    have at_a : H0 a = some (.frz { cls := .type "list", data := .seq vs.toArray } (.lst (ns.map V.int))) := (if_neg notT).trans (if_pos rfl)
    refine main H0 (fun b hb' => if_pos hb') (fun b nb na => (if_neg nb).trans (if_neg na)) (.inr ⟨e, _, at_a⟩) ?_
    intro b u z
    by_cases c : b ∈ cs.map (·.2)
    · cases (show some (HO.tbl #[]) = some u from (if_pos c).symm.trans z)
      exact tabs b c
    · by_cases c2 : b = a
      · subst c2
        cases at_a.symm.trans z
        exact ⟨ha, by rw [List.length_map]; exact hl, vs, _, rv, ha⟩
      · cases (show (none : Option HO) = some u from ((if_neg c).trans (if_neg c2)).symm.trans z)
end
/-- what is known of such a law's promise -/
def LawAtG (l : PySem.W.OpenLaw) (w : World) (K : PySem.W.Frag) (CX : CXT) (k n : Nat) (x : Str) (mg : Str → Option Value) (fa : Addr) (h : Heap) : Prop :=
  ∃ (fd : FuncData) (cs : List (Addr × Addr)) (sp : Sp), (∀ p ∈ cs, h.get? p.2 = some { cls := .none, data := .fields #[] }) ∧ (∀ p ∈ cs, K.lookup p.2 = none) ∧ (∀ p ∈ cs, PySem.W.CodeHd h p.1 p.2) ∧ (∀ (s : Shared) (u : Value), BindsTo s fd ⟨[u], []⟩ [(x, u)]) ∧
    (∀ (H : Hp) (a : Addr) (ns : List Int), ns.length ≤ n → (∀ z ∈ ns, Builtin.Int.intBits z ≤ 1048576) → (∀ p ∈ cs, H p.2 = some (.tbl #[])) → SqL K H a (ns.map V.int) → sp [.ref a] H (fun v _ => v = .bl true) fun _ _ _ => False) ∧
    ∀ base : Heap, K.In base → base.Ns mainGlobals mg → (∀ p ∈ cs, TabB base mg p.1 p.2) → FnG l.prog w K mg base CX k fa fd [x] sp
theorem walk_ofG {l : PySem.W.OpenLaw} {n k : Nat} {q : Program} {loose : List Str} {XP : (Str → Option Value) → Heap → Prop} {YP : World → Heap → Prop} {d : DefRec} {K : Params → PySem.W.Frag} {CX : World → CXT} {x : Str}
    (hn : l.most = some n) (hn2 : n ≤ sizeLine) (hdf : d.params.defaults = []) (hr : Room k callerA) (hY : ∀ (w : World) (h : Heap), YP w h → (K w.params).In h)
    (F : ∀ (w : World) (mg : Str → Option Value) (fa : Addr) (h : Heap), YP w h → XP mg h → (K w.params).In h → h.Ns mainGlobals mg → mg d.name = some (.ref fa) → LawAtG l w (K w.params) (CX w) k n x mg fa h)
    (hCX : ∀ (w : World) (H : Hp) (s : Shared) (e : Value) (s' : Shared), CX w [] H s (fun _ _ _ => False) e s' → False) :
    PySem.W.WalkO q loose XP YP l.row.toRowW d [] (fun f vs => PySem.call f vs) := by
  refine Att.attach_callB hn hdf fun w s₀ s₁ mg mb fa o pm cd doc a vs ns G Y ho hd hcd hmg hobj hints hlen hbits hg => ?_
  have KX := hY w _ Y
  obtain ⟨fd, cs, sp, hT, nT, C, hb, hsp, hF⟩ := F w mg fa _ Y G.X KX G.T.g hmg
  exact law_callG KX G.T.g G.T.b G.T.builtins G.T.nolimit hg hT nT C G.T.bmain hobj hints (Nat.le_trans hlen hn2) hr hF hb (fun H hH hS => hsp H a ns hlen hbits hH hS) fun H e s' => hCX w H s₁ e s'
end PP

set_option Elab.async false
set_option linter.all false
set_option maxRecDepth 100000
/-! Pure python, 22: repr; texts joined. -/
namespace PP
open PySem PySem.Spec PyProof.Rows L2
section
variable {G : Gx} {O : List V} {E : XK} {k : Nat} {X : Cx} {a b : Expr} {pos : Pos} {ma mb : M R} {gu : Bool}
def rRepr (K : PySem.W.Frag) : List V → Hp → VK → Prop := fun vs H Q => ∃ (v : V) (d : PyData), vs = [v] ∧ Dp K H v d ∧ d.showable = true ∧ d.hasDict = false ∧ d.depth ≤ 60 ∧ d.shown.length ≤ sizeLine ∧ Q (.str d.shown) H
theorem cr_repr (gd : X.A.guards = some []) (hu : X.A.units + 65 < cLine) : CallR X (.builtin "repr") (rRepr X.K) := by
  intro pins s σ H vs us Q I r h
  obtain ⟨v, d, rfl, hd, h1, h2, h3, h4, q⟩ := h
  cases r with
  | cons rx rs =>
    cases rs
    rename_i u
    obtain ⟨as, rd⟩ := Dp.reads I d v u hd rx
    have byRef : ∀ (a : Addr), u = .ref a → wpAny (model X.prog X.w) X.A (call (.builtin "repr") [u]) (EP X pins σ Q) X.xe s := fun a e => by
      subst e
      exact repr_of_reads' rd h1 (PyData.noDict_hsm h2) gd (by omega) (fun _ _ z => z) (fun h' t tk hk => ⟨.str _, H, I.kept hk, ⟨t, rfl⟩, q⟩) h4
    cases rd with
    | none => exact PySem.P.repr_of_none (by simp only [PyData.shown] at q; exact ⟨.str _, H, I.tok _, ⟨_, rfl⟩, q⟩)
    | bool b => exact PySem.P.repr_of_bool (by simp only [PyData.shown] at q; exact ⟨.str _, H, I.tok _, ⟨_, by cases b <;> rfl⟩, q⟩)
    | int i t => exact PySem.P.repr_of_int (by simpa [PyData.showable] using h1) (by simp only [PyData.shown] at q; exact ⟨.str _, H, I.tok _, ⟨_, rfl⟩, q⟩)
    | str x t => exact PySem.P.repr_of_str (by simp only [PyData.shown] at q; exact ⟨.str _, H, I.tok _, ⟨_, rfl⟩, q⟩) (by simpa [PyData.shown] using h4)
    | list e1 e2 e3 e4 => exact byRef _ rfl
    | tuple e1 e2 e3 e4 => exact byRef _ rfl
    | dict e1 e2 e3 e4 e5 => exact byRef _ rfl
def reprOk (p : PyData) : Bool := p.showable && !p.hasDict && decide (p.depth ≤ 60) && decide (p.shown.length ≤ sizeLine)
/-- repr(x) -/
def reprD (x : D) : Option (Fl × D) := match toP x with
  | some p => if reprOk p then some (.sh, .str p.shown) else none
  | none => none
theorem SE.repr {p : Pos} (cx : CxOk true G E k X) (hg : Gl X "repr") (hm : X.mg "repr" = none) (ha : SE G O E X a ma) (hs : PosOk a X := by rfl) (hpl : PosPl pos X := by rfl) : SE G O E X (.Call (.Name "repr" p) [a] [] pos) (mOp1 reprD ma) := by
  have hr := cr_repr (X := X) (cx.gd rfl) cx.room.units65
  rw [cx.K] at hr
  refine SE.b1 hr (fun H F L v x Q gd hv m => ?_) hg hm (by decide +kernel) ha hs hpl
  unfold reprD at m
  cases q1 : toP x with
  | none => rw [q1] at m; exact m.elim
  | some d =>
    rw [q1] at m
    dsimp only at m
    split at m
    · rename_i hh
      unfold reprOk at hh
      simp only [Bool.and_eq_true, Bool.not_eq_true', decide_eq_true_eq] at hh
      exact ⟨v, d, rfl, dp_of gd x v d (gd.vw hv) q1, hh.1.1.1, hh.1.1.2, hh.1.2, hh.2, made_str gd m⟩
    · exact m.elim
/-! sep.join(texts) -/
def joinD (x y : D) : Option (Fl × D) := match x, (seqOf y).bind strsOf with
  | .str a, some ys => if (ys.map (·.length)).sum + ys.length * a.length ≤ 16777216 then some (.sh, .str (Txt.join a ys)) else none
  | _, _ => none
theorem SE.join {apos : Pos} (hK : X.K = G.K) (ha : SE G O E X a ma) (hb : SE G O E X b mb) (hbase : attributeBase a "join" X.env (eval a X.env) = eval a X.env := by rfl)
    (hfew : ((backTo pos (starEach [b] X.env)).all (fun x => !x.1) && (backToKw pos (keywordEach [] X.env)).all (fun x => x.1.isSome) && decide (([b] : List Expr).length + ([] : List Keyword).length + (if ([] : List Keyword).isEmpty then 0 else 1) < 30)) = true := by rfl)
    (hline : (apos.endLine == pos.line) = true := by rfl) (hs : PosOk b X := by rfl) (hplain : PosPl pos X := by rfl) : SE G O E X (.Call (.Attribute a "join" apos) [b] [] pos) (mMet isStr joinD ma mb) := by
  have h := mt_join (X := X)
  rw [hK] at h
  refine SE.met hK PySem.F.plainAttrs_str PySem.F.slot_str_join PySem.F.type_str_join h tyOk_str (fun H F L v u x y Q gd hv hu m => ?_) ha hb hbase hfew hline hs hplain
  cases x with
  | str z =>
    have ev : v = .str z := gd.vw hv
    cases e : (seqOf y).bind strsOf with
    | none => simp only [joinD, e] at m; exact m.elim
    | some ys =>
      simp only [joinD, e] at m
      split at m
      · rename_i hz
        cases y with
        | lst ds =>
          have e : strsOf ds = some ys := e
          obtain ⟨l, vs, eu, hs, rp⟩ := gd.vw hu
          rw [strs_reps rp e fun v d r => gd.viewR r] at hs
          exact ⟨z, l, ys, ev, by rw [eu], .inl (SqL.of hs), hz, made_str gd m⟩
        | tup ds =>
          have e : strsOf ds = some ys := e
          obtain ⟨l, vs, eu, hs, rp⟩ := gd.vw hu
          rw [strs_reps rp e fun v d r => gd.viewR r] at hs
          exact ⟨z, l, ys, ev, by rw [eu], .inr (SqT.of hs), hz, made_str gd m⟩
        | _ => cases e
      · exact m.elim
  | _ => simp only [joinD] at m; exact m.elim
end
end PP

set_option Elab.async false
set_option linter.all false
set_option maxRecDepth 100000
/-! Pure python, 23: order of data, least and greatest of data, a def held by a name, what is never reached. -/
namespace PP
open PySem PySem.Spec PyProof.Rows L2
/-! ### data back -/
mutual
def ofP : PyData → Option D
  | .none => some .non
  | .bool b => some (.bl b)
  | .int i => some (.int i)
  | .str x => some (.str x)
  | .tuple ps => match ofPs ps with
    | some ds => some (.tup ds)
    | none => none
  | .list ps => match ofPs ps with
    | some ds => some (.lst ds)
    | none => none
  | .dict _ => none
def ofPs : List PyData → Option (List D)
  | [] => some []
  | p :: ps => match ofP p, ofPs ps with
    | some d, some ds => some (d :: ds)
    | _, _ => none
end
mutual
theorem ofP_toP : ∀ (d : D) (p : PyData), toP d = some p → ofP p = some d
  | .non, p, h => by simp only [toP] at h; cases h; simp only [ofP]
  | .bl b, p, h => by simp only [toP] at h; cases h; simp only [ofP]
  | .int i, p, h => by simp only [toP] at h; cases h; simp only [ofP]
  | .str x, p, h => by simp only [toP] at h; cases h; simp only [ofP]
  | .tup ds, p, h => by
    simp only [toP] at h
    cases q : toPs ds with
    | none => rw [q] at h; cases h
    | some ps => rw [q] at h; cases h; simp only [ofP, ofPs_toPs ds ps q]
  | .lst ds, p, h => by
    simp only [toP] at h
    cases q : toPs ds with
    | none => rw [q] at h; cases h
    | some ps => rw [q] at h; cases h; simp only [ofP, ofPs_toPs ds ps q]
  | .dK _, p, h => by simp [toP] at h
  | .dT _, p, h => by simp [toP] at h
  | .fn _, p, h => by simp [toP] at h
  | .scr _, p, h => by simp [toP] at h
  | .exo, p, h => by simp [toP] at h
theorem ofPs_toPs : ∀ (ds : List D) (ps : List PyData), toPs ds = some ps → ofPs ps = some ds
  | [], ps, h => by simp only [toPs] at h; cases h; simp only [ofPs]
  | d :: ds, ps, h => by
    simp only [toPs] at h
    cases q1 : toP d with
    | none => rw [q1] at h; cases h
    | some p =>
      cases q2 : toPs ds with
      | none => rw [q1, q2] at h; cases h
      | some qs => rw [q1, q2] at h; cases h; simp only [ofPs, ofP_toP d p q1, ofPs_toPs ds qs q2]
end
theorem toPs_get : ∀ {ds : List D} {ps : List PyData} {i : Nat} {p : PyData}, toPs ds = some ps → ps[i]? = some p → ∃ d, ds[i]? = some d ∧ toP d = some p
  | [], ps, i, p, h, e => by simp only [toPs] at h; cases h; simp at e
  | d :: ds, ps, i, p, h, e => by
    simp only [toPs] at h
    cases q1 : toP d with
    | none => rw [q1] at h; cases h
    | some p' =>
      cases q2 : toPs ds with
      | none => rw [q1, q2] at h; cases h
      | some qs =>
        rw [q1, q2] at h
        cases h
        cases i with
        | zero => cases e; exact ⟨d, rfl, q1⟩
        | succ i => obtain ⟨d', z1, z2⟩ := toPs_get (ds := ds) (i := i) q2 (by simpa using e); exact ⟨d', by simpa using z1, z2⟩
theorem paired_get {α β : Type} {P : α → β → Prop} : ∀ {l : List α} {m : List β} {i : Nat} {y : β}, Paired P l m → m[i]? = some y → ∃ x, l[i]? = some x ∧ P x y
  | _, _, i, y, .nil, h => by simp at h
  | _, _, 0, y, .cons r t, h => by cases h; exact ⟨_, rfl, r⟩
  | _, _, i + 1, y, .cons r t, h => by obtain ⟨x, z1, z2⟩ := paired_get (i := i) t (by simpa using h); exact ⟨x, by simpa using z1, z2⟩
section
variable {G : Gx} {O : List V} {E : XK} {k : Nat} {X : Cx} {a b : Expr} {pos : Pos} {ma mb : M R} {gu : Bool}
/-! ### < of data -/
def nonP : PyData → Bool
  | .none => true
  | _ => false
theorem nonP_ne {p : PyData} (h : nonP p = false) : p ≠ .none := fun z => by subst z; cases h
def rLtP (K : PySem.W.Frag) : R2 := fun x y H Q => ∃ (p q : PyData), Dp K H x p ∧ Dp K H y q ∧ PySem.W.alike p q = true ∧ p ≠ .none ∧ p.depth ≤ 60 ∧ Q (.bl (PySem.W.dataLt p q)) H
theorem op_ltP (hu : X.A.units + 65 < cLine) : OpR X (compareOp .Lt) (rLtP X.K) := by
  intro pins s σ H x y v u Q I rx ry h
  obtain ⟨p, q, hp, hq, al, nn, dp, qq⟩ := h
  obtain ⟨as, r1⟩ := Dp.reads I p x v hp rx
  obtain ⟨bs, r2⟩ := Dp.reads I q y u hq ry
  have R := PySem.W.rcLt_alike p q X.A s v u as bs r1 r2 al nn (by omega)
  have z : wpAny (model X.prog X.w) X.A (compareOp .Lt v u) (EP X pins σ Q) X.xe s := R X.prog X.w X.xe (EP X pins σ Q) ⟨.bl _, H, I, rfl, qq⟩
  exact z
def ltP (x y : D) : Option (Fl × D) := match toP x, toP y with
  | some p, some q => if PySem.W.alike p q && !nonP p && decide (p.depth ≤ 60) then shB (PySem.W.dataLt p q) else none
  | _, _ => none
theorem ok_ltP : Ok2 G (rLtP G.K) ltP := by
  intro H F L v u x y Q gd hv hu m
  unfold ltP at m
  cases q1 : toP x with
  | none => rw [q1] at m; exact m.elim
  | some p =>
    cases q2 : toP y with
    | none => rw [q1, q2] at m; exact m.elim
    | some q =>
      rw [q1, q2] at m
      dsimp only at m
      split at m
      · rename_i hh
        simp only [Bool.and_eq_true, Bool.not_eq_true', decide_eq_true_eq] at hh
        exact ⟨p, q, dp_of gd x v p (gd.vw hv) q1, dp_of gd y u q (gd.vw hu) q2, hh.1.1, nonP_ne hh.1.2, hh.2, made_bl gd m⟩
      · exact m.elim
theorem opr_ltP (c : CxOk gu G E k X) : OpR X (compareOp .Lt) (rLtP G.K) := by have := op_ltP c.room.units65; rw [c.K] at this; exact this
def ltG (x y : D) : Option (Fl × D) := orE (ltI x y) (ltP x y)
theorem SE.ltG (c : CxOk gu G E k X) (ha : SE G O E X a ma) (hb : SE G O E X b mb) : SE G O E X (.Compare a [.Lt] [b] pos) (mOp2 PP.ltG ma mb) := SE.cmp (op_lt.or (opr_ltP c)) (ok_bD2.or ok_ltP) ha hb (nomark _)
theorem ST.ltG (c : CxOk gu G E k X) (ha : SE G O E X a ma) (hb : SE G O E X b mb) : ST G O E X (.Compare a [.Lt] [b] pos) (mTst (mOp2 PP.ltG ma mb)) := ST.cmp (op_lt.or (opr_ltP c)) (ok_bD2.or ok_ltP) ha hb (nomark _)
/-! ### min of data -/
def rMinP (K : PySem.W.Frag) : List V → Hp → VK → Prop := fun vs H Q => ∃ (a : Addr) (xs : List V) (p : PyData) (ps : List PyData), vs = [V.ref a] ∧ SqL K H a xs ∧ DpAll K H xs (p :: ps) ∧ PySem.W.AlikeAll (p :: ps) ∧ PyData.depthAll (p :: ps) ≤ 60 ∧
  ∀ (i : Nat) (x : V), xs[i]? = some x → (p :: ps)[i]? = some (PySem.W.minD p ps) → Q x H
theorem vals_get : ∀ {xs : List V} {us : List Value} {i : Nat} {u : Value}, Vals xs us → us[i]? = some u → ∃ x, xs[i]? = some x ∧ RelV x u
  | _, _, i, u, .nil, h => by simp at h
  | _, _, 0, u, .cons r t, h => by cases h; exact ⟨_, rfl, r⟩
  | _, _, i + 1, u, .cons r t, h => by obtain ⟨x, z1, z2⟩ := vals_get (i := i) t (by simpa using h); exact ⟨x, by simpa using z1, z2⟩
theorem cr_minP (hc : X.calm = true) (hu : X.A.units + 65 < cLine) : CallR X (.builtin "min") (rMinP X.K) := by
  intro pins s σ H vs us Q I r h
  obtain ⟨a, xs, p, ps, rfl, hs, hd, al, dp, q⟩ := h
  obtain ⟨its, rv, hl, _⟩ := I.list hs
  rw [Vals.ref1 r]
  obtain ⟨as, rd⟩ := Dp.readsAll I (p :: ps) xs its hd rv
  refine PySem.W.min_list_data (vs := its.toArray) (I.ok.hd hc) hl.isList (by simpa using rd) al (by omega) fun i v h' tk bs hv hr hk => ?_
  have hv' : its[i]? = some v := by simpa using hv
  obtain ⟨x, hx, rx⟩ := vals_get rv hv'
  obtain ⟨bs2, r2, hlt, _, _⟩ := PySem.W.readsAll_at rd i v hv'
  obtain ⟨e, _⟩ := PyProof.Rows.reads_det (fun b o z _ => hk b o z) r2 hr
  refine ⟨x, H, I.kept hk, rx, q i x hx ?_⟩
  rw [e, List.getElem?_eq_getElem hlt, List.getD_eq_getElem?_getD, List.getElem?_eq_getElem hlt]
  rfl
def alikeB (ps : List PyData) : Bool := ps.all fun x => !nonP x && ps.all fun y => PySem.W.alike x y
theorem alikeB_ok {ps : List PyData} (h : alikeB ps = true) : PySem.W.AlikeAll ps := by
  unfold alikeB at h
  rw [List.all_eq_true] at h
  refine ⟨fun x hx y hy => ?_, fun x hx => ?_⟩
  · have := h x hx
    simp only [Bool.and_eq_true] at this
    exact List.all_eq_true.1 this.2 y hy
  · have := h x hx
    simp only [Bool.and_eq_true, Bool.not_eq_true'] at this
    exact nonP_ne this.1
def minPD (x : D) : Option (Fl × D) := match x with
  | .lst ds => match toPs ds with
    | some (p :: ps) => if alikeB (p :: ps) && decide (PyData.depthAll (p :: ps) ≤ 60) then (ofP (PySem.W.minD p ps)).bind fun d => sh d else none
    | _ => none
  | _ => none
theorem SE.minP {p : Pos} (cx : CxOk gu G E k X) (hg : Gl X "min") (hm : X.mg "min" = none) (ha : SE G O E X a ma) (hs : PosOk a X := by rfl) (hpl : PosPl pos X := by rfl) : SE G O E X (.Call (.Name "min" p) [a] [] pos) (mOp1 minPD ma) := by
  have hr := cr_minP (X := X) cx.calm cx.room.units65
  rw [cx.K] at hr
  refine SE.b1 hr (fun H F L v x Q gd hv m => ?_) hg hm (by decide +kernel) ha hs hpl
  cases x with
  | lst ds =>
    simp only [minPD] at m
    obtain ⟨l, vs, ev, hs, rp⟩ := gd.vw hv
    cases q1 : toPs ds with
    | none => rw [q1] at m; exact m.elim
    | some pp =>
      rw [q1] at m
      cases pp with
      | nil => exact m.elim
      | cons p ps =>
        dsimp only at m
        split at m
        · rename_i hh
          simp only [Bool.and_eq_true, decide_eq_true_eq] at hh
          refine ⟨l, vs, p, ps, by rw [ev], SqL.of hs, dps_of gd ds vs (p :: ps) rp q1, alikeB_ok hh.1, hh.2, fun i x hx hi => ?_⟩
          obtain ⟨d, hd1, hd2⟩ := toPs_get q1 hi
          obtain ⟨x', hx', rx⟩ := paired_get rp hd1
          rw [hx] at hx'
          cases hx'
          rw [ofP_toP d _ hd2] at m
          exact made_rep gd rx m
        · exact m.elim
  | _ => simp only [minPD] at m; exact m.elim
/-! ### what is never reached -/
def mBad : M R := fun _ => .bad
theorem SE.bad {e : Expr} : SE G O E X e mBad := ⟨fun pins s σ H Q I ⟨ρ, T, F, st, w⟩ => w.elim⟩
/-! ### a def held by a name -/
def mCallV (i : Nat) (tbl : List (Nat × FM)) (as : M (List Ag)) : M R := fun ρ => match ρ[i]? with
  | some (some (_, .fn f)) => match tbl.lookup f with
    | some F => mCall F as ρ
    | none => .bad
  | _ => .bad
/-- the defs that may be held -/
structure VOk (G : Gx) (X : Cx) (k n : Nat) (f : Nat) (F : FM) : Prop where
  ex : ∃ (a : Addr) (fd : FuncData) (ps : List Str), G.fa f = some a ∧ FnOk X.prog X.w X.K X.mg X.base (L2.CX X.prog X.w) k a fd ps (spD G ps.length F) ∧ PySem.W.keepIn X.K (.ref a) = true ∧ Binds X.K fd ps [] ∧ ps.length = n
theorem VOk.nil {n : Nat} : ∀ f F, ([] : List (Nat × FM)).lookup f = some F → VOk G X k n f F := fun f F h => by cases h
theorem VOk.cons {n f0 : Nat} {F0 : FM} {tbl : List (Nat × FM)} (v : VOk G X k n f0 F0) (r : ∀ f F, tbl.lookup f = some F → VOk G X k n f F) : ∀ f F, ((f0, F0) :: tbl).lookup f = some F → VOk G X k n f F := fun f F h => by
  rw [List.lookup_cons] at h
  split at h
  · rename_i z
    cases h
    rw [eq_of_beq z]
    exact v
  · exact r f F h
theorem VOk.one {n f0 : Nat} {F0 : FM} {a : Addr} {fd : FuncData} {ps : List Str} {x qual : Str} {st : Stmt} (F : FnOk X.prog X.w X.K X.mg X.base (L2.CX X.prog X.w) k a fd ps (spD G ps.length F0)) (Fu : Fun X.K x qual st a fd) (hb : Binds X.K fd ps []) (h1 : G.fa f0 = some a) (hn : ps.length = n) : VOk G X k n f0 F0 :=
  ⟨⟨a, fd, ps, h1, F, Fu.kp, hb, hn⟩⟩
theorem SE.callV {i : Nat} {tbl : List (Nat × FM)} {x : Str} {p pos : Pos} {e : Expr} {es : List Expr} {ms : M (List Ag)} (cx : CxOk gu G E k X) (hV : ∀ f F, tbl.lookup f = some F → VOk G X k (e :: es).length f F) (ha : SGL G O E X (e :: es) ms)
    (hN : X.N[i]? = some x := by rfl) (hv : Vis X.env.scope x := by first | exact Or.inl rfl | exact Or.inr (Or.inl rfl) | exact Or.inr (Or.inr rfl)) (hd : (x == ("__debug__" : Str)) = false := by decide) (hcd : (x == ("__classdict__" : Str)) = false := by decide)
    (he : starEach (e :: es) X.env = (false, eval e X.env) :: starEach es X.env := by rfl) (hpl : (backTo pos (starEach es X.env)).any (·.1) = false := by rfl) : SE G O E X (.Call (.Name x p) (e :: es) [] pos) (mCallV i tbl ms) := by
  constructor
  intro pins s σ H Q I h
  obtain ⟨ρ, T, F0, st, w⟩ := h
  unfold mCallV at w
  split at w
  · rename_i fl f ef
    cases q : tbl.lookup f with
    | none => rw [q] at w; exact w.elim
    | some F =>
      rw [q] at w
      dsimp only at w
      obtain ⟨ad, fd, ps, h1, h2, h3, h4, h5⟩ := (hV f F q).ex
      obtain ⟨v, hs, _⟩ := st.sl.has i _ ef
      have vw : View G H F0 v (.fn f) := st.gd.view (x := (v, fl, .fn f)) (List.mem_append_left _ ((live_take hs ef).symm.subset List.mem_cons_self))
      obtain ⟨ad', rfl, ha'⟩ := vw
      rw [h1] at ha'
      cases ha'
      have rd := call_read (G := G) (O := O) (E := E) (ps := ps) (fm := F) (e := e) (es := es) h5 ha.2 (σ := σ) (H := H) (Q := Q) ⟨ρ, T, F0, st, w⟩
      exact (pe_callL (i := i) (f := ad) (sp := spD G ps.length F) (dvs := []) (E := E) h2 cx.room hN hv h3 h4 .nil cx.passes ha.1 hd hcd he hpl).run pins s σ H Q I ⟨hs, rd⟩
  · exact w.elim
end
end PP

set_option Elab.async false
set_option linter.all false
set_option maxRecDepth 100000
/-! Pure python, 24: chains of three comparisons. -/
namespace PP
open PySem PySem.Spec PyProof.Rows L2
section
variable {G : Gx} {O : List V} {E : XK} {k : Nat} {X : Cx} {H : Hp} {F : Fz} {L : List Cell} {Q : VK} {a b c d : Expr} {pos : Pos} {ma mb mc md : M R}
def tChain3 (r r' r'' : R2) (ta tb tc td : TE) : TE := fun σ H Q => ta σ H fun x H1 => tb σ H1 fun y H2 => r x y H2 fun z H3 => ∃ k, z = .bl k ∧
  (if k = true then tc σ H3 fun w' H4 => r' y w' H4 fun z' H5 => ∃ k', z' = .bl k' ∧ (if k' = true then td σ H5 fun w2 H6 => r'' w' w2 H6 Q else Q (.bl false) H5) else Q (.bl false) H3)
theorem pe_chain3 {op op' op'' : CmpOp} {r r' r'' : R2} {ta tb tc td : TE} (ho : OpR X (compareOp op) r) (ho' : OpR X (compareOp op') r') (ho'' : OpR X (compareOp op'') r'') (ha : PE X a ta) (hb : PE X b tb) (hc : PE X c tc) (hd : PE X d td)
    (hm : lastMarks [op, op', op''] [b, c, d] = false := by with_unfolding_all rfl) : PE X (.Compare a [op, op', op''] [b, c, d] pos) (tChain3 r r' r'' ta tb tc td) := by
  refine ⟨fun pins s σ H Q I h => ?_⟩
  refine Compare_chain (thn (ha.run pins s σ H _ I h) fun v s1 ⟨x, H1, I1, r1, q1⟩ => chain_link (thn (hb.run pins s1 σ H1 _ I1 q1) fun u s2 ⟨y, H2, I2, r2, q2⟩ =>
    thn (ho pins s2 σ H2 x y v u _ I2 r1 r2 q2) fun d s3 ⟨z, H3, I3, r3, k, e, q3⟩ => ?_)) hm
  subst e
  cases r3
  refine wpAny_truthy_bool ?_
  cases k with
  | false => exact ite_ff ⟨.bl false, H3, I3, rfl, q3⟩
  | true =>
    refine ite_tt (chain_link (thn (hc.run pins s3 σ H3 _ I3 q3) fun w' s4 ⟨z', H4, I4, r4, q4⟩ => thn (ho' pins s4 σ H4 y z' u w' _ I4 r2 r4 q4) fun d s5 ⟨z, H5, I5, r5, k, e, q5⟩ => ?_))
    subst e
    cases r5
    refine wpAny_truthy_bool ?_
    cases k with
    | false => exact ite_ff ⟨.bl false, H5, I5, rfl, q5⟩
    | true => exact ite_tt (chain_last (thn (hd.run pins s5 σ H5 _ I5 q5) fun w2 s6 ⟨z2, H6, I6, r6, q6⟩ => ho'' pins s6 σ H6 z' z2 w' w2 Q I6 r4 r6 q6))
theorem pt_chain3 {op op' op'' : CmpOp} {r r' r'' : R2} {ta tb tc td : TE} (ho : OpR X (compareOp op) r) (ho' : OpR X (compareOp op') r') (ho'' : OpR X (compareOp op'') r'') (ha : PE X a ta) (hb : PE X b tb) (hc : PE X c tc) (hd : PE X d td)
    (hm : lastMarks [op, op', op''] [b, c, d] = false := by with_unfolding_all rfl) : PT X (.Compare a [op, op', op''] [b, c, d] pos) (tTest (tChain3 r r' r'' ta tb tc td)) := by
  refine ⟨fun pins s σ H Q I h => ?_⟩
  refine isTrue_chain (thn (ha.run pins s σ H _ I h) fun v s1 ⟨x, H1, I1, r1, q1⟩ => test_link (thn (hb.run pins s1 σ H1 _ I1 q1) fun u s2 ⟨y, H2, I2, r2, q2⟩ =>
    thn (ho pins s2 σ H2 x y v u _ I2 r1 r2 q2) fun d s3 ⟨z, H3, I3, r3, k, e, q3⟩ => ?_)) hm
  subst e
  cases r3
  refine wpAny_truthy_bool ?_
  cases k with
  | false =>
    obtain ⟨k', e', q'⟩ := q3
    cases e'
    exact ite_ff ⟨H3, I3, q'⟩
  | true =>
    refine ite_tt (test_link (thn (hc.run pins s3 σ H3 _ I3 q3) fun w' s4 ⟨z', H4, I4, r4, q4⟩ => thn (ho' pins s4 σ H4 y z' u w' _ I4 r2 r4 q4) fun d' s5 ⟨z2, H5, I5, r5, k2, e2, q5⟩ => ?_))
    subst e2
    cases r5
    refine wpAny_truthy_bool ?_
    cases k2 with
    | false =>
      obtain ⟨k', e', q'⟩ := q5
      cases e'
      exact ite_ff ⟨H5, I5, q'⟩
    | true =>
      refine ite_tt (test_last (thn (hd.run pins s5 σ H5 _ I5 q5) fun w2 s6 ⟨z3, H6, I6, r6, q6⟩ => thn (ho'' pins s6 σ H6 z' z3 w' w2 _ I6 r4 r6 q6) fun d' s7 ⟨z4, H7, I7, r7, k3, e3, q7⟩ => ?_))
      subst e3
      cases r7
      exact wpAny_truthy_bool ⟨H7, I7, q7⟩
/-- a op b op' c op'' d, of whole numbers -/
def mLnk (f : D → D → Option Bool) (ra : R) (b : M R) (k : R → M R) : M R := bnd b fun rb ρ => match deref ρ ra, deref ρ rb with
  | some x, some y => match f x y with
    | some true => k rb ρ
    | some false => .ok (.v .sh (.bl false)) ρ
    | none => .bad
  | _, _ => .bad
def mChain3 (f g h : D → D → Option Bool) (a b c d : M R) : M R := bnd a fun ra => mLnk f ra b fun rb => mLnk g rb c fun rc => bnd d fun rd ρ => match deref ρ rc, deref ρ rd with
  | some x, some y => match h x y with
    | some k => .ok (.v .sh (.bl k)) ρ
    | none => .bad
  | _, _ => .bad
theorem chain3_read {r r' r'' : R2} {f g h : D → D → Option Bool} (hr : OkB G r f) (hr' : OkB G r' g) (hr'' : OkB G r'' h) {σ : L2.St} {H : Hp} {Q : VK} (hh : tE G O E (mChain3 f g h ma mb mc md) σ H Q) : tChain3 r r' r'' (tE G O E ma) (tE G O E mb) (tE G O E mc) (tE G O E md) σ H Q := by
  obtain ⟨ρ, T, F, st, w⟩ := hh
  unfold mChain3 at w
  refine tE_bnd st w fun ra ρ1 v H1 F1 rv st1 w1 => ?_
  unfold mLnk at w1
  refine tE_bnd (T := temp ra v ++ T) st1 (w1.ext fun _ _ x => x) fun rb ρ2 u H2 F2 ru st2 w2 => ?_
  try dsimp only at w2
  cases ex : deref ρ2 ra with
  | none => rw [ex] at w2; exact w2.elim
  | some x =>
    cases ey : deref ρ2 rb with
    | none => rw [ex, ey] at w2; exact w2.elim
    | some y =>
      rw [ex, ey] at w2
      try dsimp only at w2
      have mx := st2.mem rv (fun z hz => List.mem_append_right _ (mem_temp z hz)) ex
      have my := st2.mem ru mem_temp ey
      cases ef : f x y with
      | none => rw [ef] at w2; exact w2.elim
      | some k =>
        rw [ef] at w2
        refine hr H2 F2 _ v u x y _ k st2.gd mx my ef ⟨k, rfl, ?_⟩
        cases k with
        | false =>
          rw [if_neg Bool.false_ne_true]
          refine w2 (.bl false) H2 F2 trivial (St.push st2.sl ?_)
          exact (st2.gd.rep (x := (.bl false, .sh, .bl false)) rfl (.bl false)).sub ((List.Sublist.append_left ((List.sublist_append_right _ _).trans (List.sublist_append_right _ _)) _).cons_cons _)
        | true =>
          rw [if_pos rfl]
          try dsimp only at w2
          refine tE_bnd (T := temp rb u ++ (temp ra v ++ T)) st2 (w2.ext fun _ _ x => x) fun rc ρ3 t H3 F3 rt st3 w3 => ?_
          try dsimp only at w3
          cases ey : deref ρ3 rb with
          | none => rw [ey] at w3; exact w3.elim
          | some y =>
            cases ez : deref ρ3 rc with
            | none => rw [ey, ez] at w3; exact w3.elim
            | some z =>
              rw [ey, ez] at w3
              try dsimp only at w3
              have my3 := st3.mem ru (fun z hz => List.mem_append_right _ (mem_temp z hz)) ey
              have mz := st3.mem rt mem_temp ez
              cases eg : g y z with
              | none => rw [eg] at w3; exact w3.elim
              | some k =>
                rw [eg] at w3
                refine hr' H3 F3 _ u t y z _ k st3.gd my3 mz eg ⟨k, rfl, ?_⟩
                cases k with
                | false =>
                  rw [if_neg Bool.false_ne_true]
                  refine w3 (.bl false) H3 F3 trivial (St.push st3.sl ?_)
                  exact (st3.gd.rep (x := (.bl false, .sh, .bl false)) rfl (.bl false)).sub ((List.Sublist.append_left (((List.sublist_append_right _ _).trans (List.sublist_append_right _ _)).trans (List.sublist_append_right _ _)) _).cons_cons _)
                | true =>
                  rw [if_pos rfl]
                  try dsimp only at w3
                  refine tE_bnd (T := temp rc t ++ (temp rb u ++ (temp ra v ++ T))) st3 (w3.ext fun _ _ x => x) fun rd ρ4 s H4 F4 rs st4 w4 => ?_
                  try dsimp only at w4
                  cases ez : deref ρ4 rc with
                  | none => rw [ez] at w4; exact w4.elim
                  | some z =>
                    cases es : deref ρ4 rd with
                    | none => rw [ez, es] at w4; exact w4.elim
                    | some q =>
                      rw [ez, es] at w4
                      try dsimp only at w4
                      cases eh : h z q with
                      | none => rw [eh] at w4; exact w4.elim
                      | some k =>
                        rw [eh] at w4
                        refine hr'' H4 F4 _ t s z q _ k st4.gd (st4.mem rt (fun z hz => List.mem_append_right _ (mem_temp z hz)) ez) (st4.mem rs mem_temp es) eh ?_
                        refine w4 (.bl k) H4 F4 trivial (St.push st4.sl ?_)
                        exact (st4.gd.rep (x := (.bl k, .sh, .bl k)) rfl (.bl k)).sub ((List.Sublist.append_left ((((List.sublist_append_right _ _).trans (List.sublist_append_right _ _)).trans (List.sublist_append_right _ _)).trans (List.sublist_append_right _ _)) _).cons_cons _)
theorem SE.chain3 {op op' op'' : CmpOp} {r r' r'' : R2} {f g h : D → D → Option Bool} (ho : OpR X (compareOp op) r) (ho' : OpR X (compareOp op') r') (ho'' : OpR X (compareOp op'') r'') (hr : OkB G r f) (hr' : OkB G r' g) (hr'' : OkB G r'' h) (ha : SE G O E X a ma) (hb : SE G O E X b mb) (hc : SE G O E X c mc) (hd : SE G O E X d md)
    (hm : lastMarks [op, op', op''] [b, c, d] = false := by with_unfolding_all rfl) : SE G O E X (.Compare a [op, op', op''] [b, c, d] pos) (mChain3 f g h ma mb mc md) := 
  PE.imp (pe_chain3 ho ho' ho'' ha hb hc hd hm) fun σ H Q h => chain3_read hr hr' hr'' h
theorem ST.chain3 {op op' op'' : CmpOp} {r r' r'' : R2} {f g h : D → D → Option Bool} (ho : OpR X (compareOp op) r) (ho' : OpR X (compareOp op') r') (ho'' : OpR X (compareOp op'') r'') (hr : OkB G r f) (hr' : OkB G r' g) (hr'' : OkB G r'' h) (ha : SE G O E X a ma) (hb : SE G O E X b mb) (hc : SE G O E X c mc) (hd : SE G O E X d md)
    (hm : lastMarks [op, op', op''] [b, c, d] = false := by with_unfolding_all rfl) : ST G O E X (.Compare a [op, op', op''] [b, c, d] pos) (mTst (mChain3 f g h ma mb mc md)) :=  by
  refine PT.imp (pt_chain3 ho ho' ho'' ha hb hc hd hm) fun σ H Q ⟨ρ, T, F, st, w⟩ => ?_
  have h : tE G O E (mChain3 f g h ma mb mc md) σ H fun x H' => ∃ k, x = .bl k ∧ Q k H' := by
    unfold mTst at w
    refine tE_bnd st w fun r ρ1 v H1 F1 rv st1 w1 => ?_
    split at w1
    · rename_i b e1
      exact ⟨b, st1.view rv mem_temp e1, w1 H1 F1 st1.drop⟩
    · exact w1.elim
  exact chain3_read hr hr' hr'' h
theorem ST.geGeGe (ha : SE G O E X a ma) (hb : SE G O E X b mb) (hc : SE G O E X c mc) (hd : SE G O E X d md) (hm : lastMarks [.GtE, .GtE, .GtE] [b, c, d] = false := by with_unfolding_all rfl) : ST G O E X (.Compare a [.GtE, .GtE, .GtE] [b, c, d] pos) (mTst (mChain3 cGe cGe cGe ma mb mc md)) := ST.chain3 op_ge op_ge op_ge okB_int okB_int okB_int ha hb hc hd hm
theorem mLnk_t {f : D → D → Option Bool} {ra rb : R} {b : M R} {k : R → M R} {x y : D} (hb : b ρ = .ok rb ρ) (h1 : deref ρ ra = some x) (h2 : deref ρ rb = some y) (hf : f x y = some true) : mLnk f ra b k ρ = k rb ρ := by
  simp only [mLnk, bnd, hb, h1, h2, hf]
theorem mChain3_t {f g h : D → D → Option Bool} {a b c d : M R} {ra rb rc rd : R} {x y z w : D} {k : Bool} (ha : a ρ = .ok ra ρ) (hb : b ρ = .ok rb ρ) (hc : c ρ = .ok rc ρ) (hd : d ρ = .ok rd ρ)
    (h1 : deref ρ ra = some x) (h2 : deref ρ rb = some y) (h3 : deref ρ rc = some z) (h4 : deref ρ rd = some w) (hf : f x y = some true) (hg : g y z = some true) (hh : h z w = some k) : mChain3 f g h a b c d ρ = .ok (.v .sh (.bl k)) ρ := by
  unfold mChain3
  simp only [bnd, ha]
  rw [mLnk_t hb h1 h2 hf, mLnk_t hc h2 h3 hg]
  simp only [bnd, hd, h3, h4, hh]
end
end PP

set_option Elab.async false
set_option linter.all false
set_option maxRecDepth 100000
set_option maxHeartbeats 2000000
/-! Pure python, 25: enumerate of a tuple, of a text. -/
namespace PP
open PySem PySem.Spec PyProof.Rows L2
theorem meets_enumerate_new1B {v : Value} {o : Obj} {H : Heap → Prop} (B : Begins v o H) :
    Meets (Builtin.«enumerate.__new__» ⟨[.type "enumerate", v], []⟩) (fun _ R s => H s.heap ∧
      R (.ok (.ret (.ref (s.heap.push o).objs.size))) { s with heap := (s.heap.push o).push { cls := .type "enumerate", data := .fields #[.none, .bool false, .ref s.heap.objs.size, rawInt 0, .none, .none] } }) :=
  .of_wp fun prog w A R s h => by
    obtain ⟨hp, g, d, tk, os⟩ := s; obtain ⟨h1, h⟩ := h
    have hsub := sub_enumerate
    have q1 : ∀ {A' : Around} {E : Value → Shared → Prop} {Q : Value → Shared → Prop}, Q (.ref hp.objs.size) ⟨hp.push o, g, d, tk, os⟩ → wpAny (model prog w) A' (pyIter v) Q E ⟨hp, g, d, tk, os⟩ :=
      fun q => B.iter prog w _ _ ⟨hp, g, d, tk, os⟩ _ h1 q
    wp_walk using q1
    refine wpAny_stack_any fun st => wpAny_pure ?_
    split
    · rename_i c _ _ _ _ _
      cases (c == Value.type "enumerate")
      · wp_walk using q1
        exact ⟨_, rfl, h⟩
      · wp_walk using q1
        exact ⟨_, rfl, h⟩
    · wp_walk using q1
      exact ⟨_, rfl, h⟩
section
variable {prog : Program} {w : World} {A : Around} {E : Value → Shared → Prop} {s : Shared}
theorem call_enumerate_B {v : Value} {o : Obj} {H : Heap → Prop} (B : Begins v o H) (hH : H s.heap) {Q : Value → Shared → Prop}
    (h : ∀ h', IsEnum h' (s.heap.objs.size + 1) s.heap.objs.size 0 .none → h'.get? s.heap.objs.size = some o → h'.objs.size = s.heap.objs.size + 2 →
      (∀ b o, s.heap.get? b = some o → h'.get? b = some o) → Q (.ref (s.heap.objs.size + 1)) { s with heap := h' }) :
    wpAny (model prog w) A (call (.type "enumerate") [v]) Q E s := by
  refine callType_new F.called_enumerate (by decide) (F.typeCall_enumerate_1 _) (F.newCall_enumerate_1 _) (fun obj => F.args_object_init_2 obj _) F.entry_enumerate_new
    (meets_enumerate_new1B B) ⟨hH, ?_⟩
  have hz : (s.heap.push o).objs.size = s.heap.objs.size + 1 := Heap.size_push ..
  show _ ∧ _
  rw [hz]
  have he : IsEnum ((s.heap.push o).push { cls := .type "enumerate", data := .fields #[.none, .bool false, .ref s.heap.objs.size, rawInt 0, .none, .none] }) (s.heap.objs.size + 1) s.heap.objs.size 0 .none := by
    have := Heap.get?_push_size (s.heap.push o) (o := { cls := .type "enumerate", data := .fields #[.none, .bool false, .ref s.heap.objs.size, rawInt 0, .none, .none] }) rfl
    rw [hz] at this; exact this
  refine ⟨⟨_, he, rfl⟩, h _ he (Heap.get?_push_of_some _ (Heap.get?_push_size _ B.free)) (by rw [Heap.size_push, hz]) fun b o x => Heap.get?_push_of_some _ (Heap.get?_push_of_some _ x)⟩
theorem wpAny_pyNext_enumT_end {e it t : Addr} {i : Nat} {c : Int} {items : Array Value} {old : Value} {Q : Option Value → Shared → Prop} (hh : A.handled = none)
    (he : IsEnum s.heap e it c old) (hit : s.heap.IsTupleIter it t i) (hl : s.heap.IsTuple t items) (hx : items[i]? = none)
    (hQ : ∀ h', Heap.ExtBut it s.heap h' → Q none { s with heap := h' }) : wpAny (model prog w) A (pyNext (.ref e)) Q E s := by
  have hT : s.TypeIs (.ref e) "enumerate" := ⟨_, he, rfl⟩
  unfold pyNext
  refine wpAny_bind (wpAny_attempt (wpAny_callSpecial?_slot (name := Str.ofString "__next__") hT F.slot_enumerate_next
    (wpAny_call_entry F.slot_enumerate_next hT F.entry_enumerate_next ?_ (F.args_enumerate_next_1 _))))
  show wpAny _ _ (field (.ref e) 2 >>= _) _ _ _
  refine wpAny_bind (wpAny_field he rfl (x := .ref it) rfl ?_)
  refine wpAny_bind (wpAny_nextOf_tuple_end hh hit hl hx fun h' x he' hx' => ?_)
  obtain ⟨o, ho, hc⟩ := hx'
  refine wpAny_bind (wpAny_isInstance (T := "StopIteration") (b := true) ⟨o, ho, hc⟩ isSubtype_stop ?_)
  exact wpAny_pure (hQ _ he')
end
/-- the tuple at a, each item in a new pair -/
def Itet (K : PySem.W.Frag) (a : Addr) : It :=
  ⟨fun i H => ∃ (xs : List V) (x : V), SqT K H a xs ∧ xs[i]? = some x, fun i H v H' => ∃ T x, v = .ref T ∧ H T = none ∧ H' = upd H T (.tup [.int (i : Nat), x]) ∧ ∀ xs, SqT K H a xs → xs[i]? = some x, fun i H => ∃ xs : List V, SqT K H a xs ∧ xs.length ≤ i⟩
theorem turn_enumT {P : Program} {w : World} {K : PySem.W.Frag} {elts : List Expr} {kk : Nat} {tpos : Pos} (a e it : Addr) :
    Turn P w K (.Tuple elts kk tpos) (Itet K a) [e, it] e (fun i h => (∃ old, IsEnum h e it ((i : Nat) : Int) old) ∧ h.IsTupleIter it a i ∧ e ≠ it) where
  mem := by simp
  obj := fun i h st b hb => by
    obtain ⟨⟨old, he⟩, ⟨o, ho, hc, hd⟩, _⟩ := st
    have e' : b = e ∨ b = it := by simpa using hb
    rcases e' with z | z
    · rw [z]; exact ⟨_, he, fun v q => nomatch q⟩
    · rw [z]; exact ⟨o, ho, fun v q => by rw [hd] at q; cases q⟩
  keep := fun i h h' st k => let ⟨⟨old, he⟩, hi, hne⟩ := st; ⟨⟨old, k e (by simp) _ he⟩, hi.at fun o q => k it (by simp) o q, hne⟩
  item := by
    intro X hP hw hK hc i pins s σ H E I hf st hg
    subst hP hw hK
    obtain ⟨⟨old, he⟩, hit, hne⟩ := st
    obtain ⟨xs, x, hq, hx⟩ := hg
    obtain ⟨its, rv, p, hz⟩ := I.tuple hq
    obtain ⟨u, hu, ru⟩ := rv.get hx
    have hel : e < s.heap.objs.size := Heap.lt_size he
    have hil : it < s.heap.objs.size := by obtain ⟨_, q, _⟩ := hit; exact Heap.lt_size q
    have p' : s.heap.IsTuple a its.toArray := p
    have hai : a ≠ it := by
      rintro rfl
      obtain ⟨o, h1, h2, _⟩ := hit
      obtain ⟨o', h1', h2', _⟩ := p'
      rw [h1] at h1'; cases h1'
      rw [h2] at h2'; simp at h2'
    have hea : e ≠ a := by
      rintro rfl
      obtain ⟨o', h1', h2', _⟩ := p'
      have he' := he
      unfold IsEnum at he'
      rw [h1'] at he'; cases he'
      simp at h2'
    have hi : i < its.toArray.size := by
      have := lt_of_get hu
      simpa using this
    have D := Draws.tuple (prog := X.prog) (w := X.w) (A := X.A.in1) (I.ok.hd hc) it a hai its.toArray
    refine wpAny_pyNext_enum_itemC D he ⟨hit, p'⟩ hi hne (by simp [hne, hea]) fun x' h' tk hP ho hst hT hsz hk => ?_
    obtain rfl : u = x' := by
      have : its[i]? = some x' := by simpa using hP
      rw [hu] at this; exact Option.some.inj this
    obtain ⟨hit', _⟩ := hst
    refine ⟨_, rfl, wpAny_letOwnedTupleGo_enum (s := { s with heap := h', toks := tk + 1 }) ho fun h'' he' sb => ?_⟩
    have hT2 : h''.get? s.heap.objs.size = some { cls := .type "tuple", data := .seq #[.int i tk, u] } := (sb.2 _ (Nat.ne_of_gt hel)).trans hT
    have new : ObjOk X.prog X.w (upd H s.heap.objs.size (.tup [.int (i : Nat), x])) h'' s.heap.objs.size (.tup [.int (i : Nat), x]) :=
      ⟨by show 2 ≤ sizeLine; decide, [.int i tk, u], .cons ⟨_, rfl⟩ (.cons ru .nil), ⟨_, hT2, rfl, _, rfl⟩⟩
    have I1 : Inv X pins σ (upd H s.heap.objs.size (.tup [.int (i : Nat), x])) { s with heap := h'', toks := tk + 1 } :=
      I.turnedNew (ch := [e, it]) (fun b ob hb q => (sb.2 b (fun z => hb (by simp [z]))).trans (hk b ob (fun z => hb (by simp [z])) (fun z => hb (by simp [z])) q)) hf (Nat.le_refl _) new
    refine ⟨.ref s.heap.objs.size, _, I1, rfl, ⟨_, x, rfl, I.hok.fresh (Nat.le_refl _), rfl, fun ys hy => by rw [I.tuple_inj hy hq]; exact hx⟩, ⟨⟨u, ?_⟩, hit'.at fun o q => (sb.2 it (Ne.symm hne)).trans q, hne⟩, fun b hb => ?_⟩
    · have e1 : ((i + 1 : Nat) : Int) = (i : Int) + 1 := by omega
      rw [e1]; exact he'
    · have hb' : b < s.heap.objs.size := by
        have e' : b = e ∨ b = it := by simpa using hb
        rcases e' with z | z
        · rw [z]; exact hel
        · rw [z]; exact hil
      rw [upd_ne (Nat.ne_of_lt hb')]
      exact (hf b hb).1
  done := by
    intro X hP hw hK hc i pins s σ H E I hf st hg
    subst hP hw hK
    obtain ⟨⟨old, he⟩, hit, hne⟩ := st
    obtain ⟨xs, hq, hx⟩ := hg
    obtain ⟨its, rv, p, hz⟩ := I.tuple hq
    obtain ⟨f0, f1, f2, f3, f4, f5⟩ := hf it (by simp)
    have hl := rv.length
    exact wpAny_pyNext_enumT_end (I.ok.hd hc) he hit p (by simp; omega) fun h' eb => ⟨rfl, I.turned (t' := s.toks) (fun b o hb q => eb b o hb q) f0 f1 f3 f4 f5⟩
  self := fun A i s Q E st h => let ⟨⟨_, he⟩, _⟩ := st; wpAny_pyIter_enum he h
def iEnumT (K : PySem.W.Frag) (ta : TA) : TI := fun σ H R => ta σ H fun vs H1 => ∃ a xs, vs = [.ref a] ∧ ((SqL K H1 a xs ∧ R (Ite K a) H1) ∨ (SqT K H1 a xs ∧ R (Itet K a) H1))
theorem pi_enumT {X : Cx} {e : Expr} {ta : TA} {p pos tpos : Pos} {elts : List Expr} {kk : Nat} (hg : Gl X "enumerate") (hm : X.mg "enumerate" = none) (ha : PA X [e] ta) (hs : starEach [e] X.env = [(false, eval e X.env)] := by rfl) :
    PI X (.Tuple elts kk tpos) (.Call (.Name "enumerate" p) [e] [] pos) (iEnumT X.K ta) := by
  refine ⟨fun pins s σ H R I h => ?_⟩
  refine Call_ (ld_blt I hg hm boot_enumerate (PyProof.Rows.callWith_type1 (thn (ha.run pos pins s σ H _ I h) fun us s1 ⟨vs, H1, I1, r1, q1⟩ => ?_) hs rfl))
  obtain ⟨a, xs, ex, q1⟩ := q1
  subst ex
  cases r1 with
  | cons r rr =>
    cases rr
    cases r
    have fp : ∀ b, b ∈ [s1.heap.objs.size + 1, s1.heap.objs.size] → s1.heap.objs.size ≤ b := fun b hb => by
      have e' : b = s1.heap.objs.size + 1 ∨ b = s1.heap.objs.size := by simpa using hb
      rcases e' with z | z
      · rw [z]; exact Nat.le_add_right _ _
      · rw [z]; exact Nat.le_refl _
    rcases q1 with ⟨hq, q⟩ | ⟨hq, q⟩
    · obtain ⟨its, rv, p', hz⟩ := I1.list hq
      refine call_enumerate_list p'.isList fun h' he hit hsz hk => wpAny_pyIter_enum he ?_
      have I2 : Inv X pins σ H1 { s1 with heap := h' } := I1.kept (t' := s1.toks) hk
      exact ⟨s1.heap.objs.size + 1, [s1.heap.objs.size + 1, s1.heap.objs.size], _, _, H1, rfl, I2, turn_enum a (s1.heap.objs.size + 1) s1.heap.objs.size, ⟨⟨.none, he⟩, hit, Nat.succ_ne_self _⟩, fun b hb => I1.fpOk (fp b hb) (I1.hok.fresh (fp b hb)), q⟩
    · obtain ⟨its, rv, p', hz⟩ := I1.tuple hq
      refine call_enumerate_B (begins_tuple a its.toArray) p' fun h' he hit hsz hk => wpAny_pyIter_enum he ?_
      have I2 : Inv X pins σ H1 { s1 with heap := h' } := I1.kept (t' := s1.toks) hk
      exact ⟨s1.heap.objs.size + 1, [s1.heap.objs.size + 1, s1.heap.objs.size], _, _, H1, rfl, I2, turn_enumT a (s1.heap.objs.size + 1) s1.heap.objs.size, ⟨⟨.none, he⟩, ⟨_, hit, rfl, rfl⟩, Nat.succ_ne_self _⟩, fun b hb => I1.fpOk (fp b hb) (I1.hok.fresh (fp b hb)), q⟩
/-! enumerate of a text -/
theorem wpAny_pyNext_enumS_end {prog : Program} {w : World} {A : Around} {E : Value → Shared → Prop} {s : Shared} {e it : Addr} {x : Str} {t : Tok} {i : Nat} {c : Int} {old : Value} {Q : Option Value → Shared → Prop} (hh : A.handled = none)
    (he : IsEnum s.heap e it c old) (hit : s.heap.IsStrIter it (strIterType x) x t i) (hx : x.cps[i]? = none)
    (hQ : ∀ h', Heap.ExtBut it s.heap h' → Q none { s with heap := h' }) : wpAny (model prog w) A (pyNext (.ref e)) Q E s := by
  have hT : s.TypeIs (.ref e) "enumerate" := ⟨_, he, rfl⟩
  unfold pyNext
  refine wpAny_bind (wpAny_attempt (wpAny_callSpecial?_slot (name := Str.ofString "__next__") hT F.slot_enumerate_next
    (wpAny_call_entry F.slot_enumerate_next hT F.entry_enumerate_next ?_ (F.args_enumerate_next_1 _))))
  show wpAny _ _ (field (.ref e) 2 >>= _) _ _ _
  refine wpAny_bind (wpAny_field he rfl (x := .ref it) rfl ?_)
  cases ha : x.cps.all (· < 128)
  · have hit : s.heap.IsStrIter it "str_iterator" x t i := by simpa [strIterType, ha] using hit
    refine wpAny_bind (wpAny_nextOf_wide_end hh hit hx fun h' x' he' hx' => ?_)
    obtain ⟨o, ho, hc⟩ := hx'
    refine wpAny_bind (wpAny_isInstance (T := "StopIteration") (b := true) ⟨o, ho, hc⟩ isSubtype_stop ?_)
    exact wpAny_pure (hQ _ he')
  · have hit : s.heap.IsStrIter it "str_ascii_iterator" x t i := by simpa [strIterType, ha] using hit
    refine wpAny_bind (wpAny_nextOf_ascii_end hh hit hx fun h' x' he' hx' => ?_)
    obtain ⟨o, ho, hc⟩ := hx'
    refine wpAny_bind (wpAny_isInstance (T := "StopIteration") (b := true) ⟨o, ho, hc⟩ isSubtype_stop ?_)
    exact wpAny_pure (hQ _ he')
/-- the letters of a text, each in a new pair -/
def Ites (x : Str) : It := ⟨fun i _ => i < x.cps.size, fun i H v H' => ∃ T c, v = .ref T ∧ H T = none ∧ x.cps[i]? = some c ∧ H' = upd H T (.tup [.int (i : Nat), .str ⟨#[c]⟩]), fun i _ => x.cps.size ≤ i⟩
theorem turn_enumS {P : Program} {w : World} {K : PySem.W.Frag} {elts : List Expr} {kk : Nat} {tpos : Pos} (x : Str) (t : Tok) (e it : Addr) :
    Turn P w K (.Tuple elts kk tpos) (Ites x) [e, it] e (fun i h => (∃ old, IsEnum h e it ((i : Nat) : Int) old) ∧ h.IsStrIter it (strIterType x) x t i ∧ e ≠ it) where
  mem := by simp
  obj := fun i h st b hb => by
    obtain ⟨⟨old, he⟩, ⟨o, ho, hc, hd⟩, _⟩ := st
    have e' : b = e ∨ b = it := by simpa using hb
    rcases e' with z | z
    · rw [z]; exact ⟨_, he, fun v q => nomatch q⟩
    · rw [z]; exact ⟨o, ho, fun v q => by rw [hd] at q; cases q⟩
  keep := fun i h h' st k => let ⟨⟨old, he⟩, ⟨o, ho, r⟩, hne⟩ := st; ⟨⟨old, k e (by simp) _ he⟩, ⟨o, k it (by simp) _ ho, r⟩, hne⟩
  item := by
    intro X hP hw hK hc i pins s σ H E I hf st hg
    subst hP hw hK
    obtain ⟨⟨old, he⟩, hit, hne⟩ := st
    have hg : i < x.cps.size := hg
    have hel : e < s.heap.objs.size := Heap.lt_size he
    have hil : it < s.heap.objs.size := by obtain ⟨_, q, _⟩ := hit; exact Heap.lt_size q
    have D := Draws.text (prog := X.prog) (w := X.w) (A := X.A.in1) (I.ok.hd hc) it x t
    refine wpAny_pyNext_enum_itemC D he hit hg hne (by simp [hne]) fun x' h' tk hP ho hst hT hsz hk => ?_
    obtain ⟨c, u, hc', rfl⟩ := hP
    refine ⟨_, rfl, wpAny_letOwnedTupleGo_enum (s := { s with heap := h', toks := tk + 1 }) ho fun h'' he' sb => ?_⟩
    have hT2 : h''.get? s.heap.objs.size = some { cls := .type "tuple", data := .seq #[.int i tk, .str ⟨#[c]⟩ u] } := (sb.2 _ (Nat.ne_of_gt hel)).trans hT
    have new : ObjOk X.prog X.w (upd H s.heap.objs.size (.tup [.int (i : Nat), .str ⟨#[c]⟩])) h'' s.heap.objs.size (.tup [.int (i : Nat), .str ⟨#[c]⟩]) :=
      ⟨by show 2 ≤ sizeLine; decide, [.int i tk, .str ⟨#[c]⟩ u], .cons ⟨_, rfl⟩ (.cons ⟨_, rfl⟩ .nil), ⟨_, hT2, rfl, _, rfl⟩⟩
    have I1 : Inv X pins σ (upd H s.heap.objs.size (.tup [.int (i : Nat), .str ⟨#[c]⟩])) { s with heap := h'', toks := tk + 1 } :=
      I.turnedNew (ch := [e, it]) (fun b ob hb q => (sb.2 b (fun z => hb (by simp [z]))).trans (hk b ob (fun z => hb (by simp [z])) (fun z => hb (by simp [z])) q)) hf (Nat.le_refl _) new
    refine ⟨.ref s.heap.objs.size, _, I1, rfl, ⟨_, c, rfl, I.hok.fresh (Nat.le_refl _), hc', rfl⟩, ⟨⟨.str ⟨#[c]⟩ u, ?_⟩, ?_, hne⟩, fun b hb => ?_⟩
    · have e1 : ((i + 1 : Nat) : Int) = (i : Int) + 1 := by omega
      rw [e1]; exact he'
    · obtain ⟨o, ho2, r⟩ := hst
      exact ⟨o, (sb.2 it (Ne.symm hne)).trans ho2, r⟩
    · have hb' : b < s.heap.objs.size := by
        have e' : b = e ∨ b = it := by simpa using hb
        rcases e' with z | z
        · rw [z]; exact hel
        · rw [z]; exact hil
      rw [upd_ne (Nat.ne_of_lt hb')]
      exact (hf b hb).1
  done := by
    intro X hP hw hK hc i pins s σ H E I hf st hg
    subst hP hw hK
    obtain ⟨⟨old, he⟩, hit, hne⟩ := st
    have hg : x.cps.size ≤ i := hg
    obtain ⟨f0, f1, f2, f3, f4, f5⟩ := hf it (by simp)
    exact wpAny_pyNext_enumS_end (I.ok.hd hc) he hit (by simp; omega) fun h' eb => ⟨rfl, I.turned (t' := s.toks) (fun b o hb q => eb b o hb q) f0 f1 f3 f4 f5⟩
  self := fun A i s Q E st h => let ⟨⟨_, he⟩, _⟩ := st; wpAny_pyIter_enum he h
def iEnumS (ta : TA) : TI := fun σ H R => ta σ H fun vs H1 => ∃ x, vs = [.str x] ∧ R (Ites x) H1
theorem pi_enumS {X : Cx} {e : Expr} {ta : TA} {p pos tpos : Pos} {elts : List Expr} {kk : Nat} (hg : Gl X "enumerate") (hm : X.mg "enumerate" = none) (ha : PA X [e] ta) (hs : starEach [e] X.env = [(false, eval e X.env)] := by rfl) :
    PI X (.Tuple elts kk tpos) (.Call (.Name "enumerate" p) [e] [] pos) (iEnumS ta) := by
  refine ⟨fun pins s σ H R I h => ?_⟩
  refine Call_ (ld_blt I hg hm boot_enumerate (PyProof.Rows.callWith_type1 (thn (ha.run pos pins s σ H _ I h) fun us s1 ⟨vs, H1, I1, r1, q1⟩ => ?_) hs rfl))
  obtain ⟨x, ex, q⟩ := q1
  subst ex
  cases r1 with
  | cons r rr =>
    cases rr
    obtain ⟨t, rfl⟩ := r
    have fp : ∀ b, b ∈ [s1.heap.objs.size + 1, s1.heap.objs.size] → s1.heap.objs.size ≤ b := fun b hb => by
      have e' : b = s1.heap.objs.size + 1 ∨ b = s1.heap.objs.size := by simpa using hb
      rcases e' with z | z
      · rw [z]; exact Nat.le_add_right _ _
      · rw [z]; exact Nat.le_refl _
    refine call_enumerate_str fun h' he hit hsz hk => wpAny_pyIter_enum he ?_
    have I2 : Inv X pins σ H1 { s1 with heap := h' } := I1.kept (t' := s1.toks) hk
    exact ⟨s1.heap.objs.size + 1, [s1.heap.objs.size + 1, s1.heap.objs.size], _, _, H1, rfl, I2, turn_enumS x t (s1.heap.objs.size + 1) s1.heap.objs.size, ⟨⟨.none, he⟩, hit, Nat.succ_ne_self _⟩, fun b hb => I1.fpOk (fp b hb) (I1.hok.fresh (fp b hb)), q⟩
section
variable {G : Gx} {O : List V} {E : XK} {k : Nat} {X : Cx}
theorem jok_enumT {a : Addr} {xs : List D} : JOk G (Itet G.K a) (enumD xs) [(.ref a, .sh, .tup xs)] := by
  intro i H F L g
  obtain ⟨a', vs, e, hs, rp⟩ := View.tup (g.view (x := (.ref a, .sh, .tup xs)) List.mem_cons_self)
  cases e
  have hl := rp.length
  have hz : (enumD xs).length = xs.length := by simp [enumD]
  refine ⟨fun h => ?_, fun h => ⟨vs, hs, by omega⟩, fun x H' d hd y => ?_⟩
  · obtain ⟨v, h1, _⟩ := rp.get (List.getElem?_eq_getElem (show i < xs.length by omega))
    exact ⟨vs, v, hs, h1⟩
  · obtain ⟨T, x1, ex, nT, eH, f1⟩ := y
    subst ex eH
    have hi : i < (enumD xs).length := lt_of_get hd
    obtain ⟨v, h1, r1⟩ := rp.get (List.getElem?_eq_getElem (show i < xs.length by omega))
    have e1 := f1 vs hs
    rw [h1] at e1
    have z1 : v = x1 := Option.some.inj e1
    rw [z1] at r1
    have ed : d = .tup [.int (i : Nat), xs[i]'(by omega)] := by
      unfold enumD at hd
      rw [List.getElem?_zipWith, List.getElem?_eq_getElem (show i < xs.length by omega), List.getElem?_range (by omega)] at hd
      exact (Option.some.inj hd).symm
    rw [ed]
    obtain ⟨F', le, g'⟩ := g.newT (vs := [.int (i : Nat), x1]) (ds := [.int (i : Nat), xs[i]'(by omega)]) nT (.cons (.int _) (.cons r1 .nil))
    exact ⟨F', g'⟩
/-- enumerate(x): of a list, of a tuple -/
def iEnumG (a : M R) : M (List D) := bnd a fun ra => match ra with
  | .v _ (.lst xs) => pur (enumD xs)
  | .v _ (.tup xs) => pur (enumD xs)
  | _ => fun _ => .bad
/-- enumerate(x): of a text -/
def iEnumX (a : M R) : M (List D) := bnd a fun ra => match ra with
  | .v _ (.str x) => pur (enumD (signs x))
  | _ => fun _ => .bad
theorem jok_enumS {x : Str} {C : List Cell} : JOk G (Ites x) (enumD (signs x)) C := by
  intro i H F L g
  have hz : (enumD (signs x)).length = x.cps.size := by simp [enumD, signs]
  refine ⟨fun h => ?_, fun h => ?_, fun v H' d hd y => ?_⟩
  · show i < x.cps.size
    omega
  · show x.cps.size ≤ i
    omega
  · obtain ⟨T, c, ex, nT, hc, eH⟩ := y
    subst ex eH
    have hi : i < (enumD (signs x)).length := lt_of_get hd
    have ed : d = .tup [.int (i : Nat), .str ⟨#[c]⟩] := by
      unfold enumD at hd
      have hg : (signs x)[i]? = some (.str ⟨#[c]⟩) := by
        unfold signs
        rw [List.getElem?_map, Array.getElem?_toList, hc]; rfl
      rw [List.getElem?_zipWith, hg, List.getElem?_range (lt_of_get hg)] at hd
      exact (Option.some.inj hd).symm
    rw [ed]
    obtain ⟨F', le, g'⟩ := g.newT (vs := [.int (i : Nat), .str ⟨#[c]⟩]) (ds := [.int (i : Nat), .str ⟨#[c]⟩]) nT (.cons (.int _) (.cons (.str _) .nil))
    exact ⟨F', g'⟩
theorem SI.enumX {a : Expr} {p pos tpos : Pos} {elts : List Expr} {kk : Nat} {m : M R} (hK : X.K = G.K) (hg : Gl X "enumerate") (hm : X.mg "enumerate" = none) (ha : SE G O E X a m) (hs : starEach [a] X.env = [(false, eval a X.env)] := by rfl) :
    SI G O E X (.Tuple elts kk tpos) (.Call (.Name "enumerate" p) [a] [] pos) (iEnumX m) := by
  have h := pi_enumS (elts := elts) (kk := kk) (tpos := tpos) (p := p) (pos := pos) hg hm (pa_cons ha pa_nil hs) hs
  refine ⟨fun pins s σ H R I ⟨ρ, T, F, st, w⟩ => h.run pins s σ H R I ?_⟩
  unfold iEnumX at w
  refine tE_bnd st w fun r ρ1 v H1 F1 rv st1 w1 => ?_
  cases r with
  | s i => exact w1.elim
  | v fl x =>
    obtain ⟨F2, st2⟩ := freeze_top (T := T) (by exact st1)
    have vx := st2.good.view (x := (v, .sh, x)) List.mem_cons_self
    cases x with
    | str y =>
      have ev : v = .str y := vx
      subst ev
      exact ⟨y, rfl, w1 _ [(.str y, .sh, .str y)] H1 F2 jok_enumS st2⟩
    | _ => exact w1.elim
theorem SI.enumG {a : Expr} {p pos tpos : Pos} {elts : List Expr} {kk : Nat} {m : M R} (hK : X.K = G.K) (hg : Gl X "enumerate") (hm : X.mg "enumerate" = none) (ha : SE G O E X a m) (hs : starEach [a] X.env = [(false, eval a X.env)] := by rfl) :
    SI G O E X (.Tuple elts kk tpos) (.Call (.Name "enumerate" p) [a] [] pos) (iEnumG m) := by
  have h := pi_enumT (elts := elts) (kk := kk) (tpos := tpos) (p := p) (pos := pos) hg hm (pa_cons ha pa_nil hs) hs
  rw [hK] at h
  refine ⟨fun pins s σ H R I ⟨ρ, T, F, st, w⟩ => h.run pins s σ H R I ?_⟩
  unfold iEnumG at w
  refine tE_bnd st w fun r ρ1 v H1 F1 rv st1 w1 => ?_
  cases r with
  | s i => exact w1.elim
  | v fl x =>
    obtain ⟨F2, st2⟩ := freeze_top (T := T) (by exact st1)
    have vx := st2.good.view (x := (v, .sh, x)) List.mem_cons_self
    cases x with
    | lst xs =>
      obtain ⟨a, vs, e, hs, rp⟩ := vx
      dsimp only at e
      subst e
      exact ⟨a, vs, rfl, .inl ⟨SqL.of hs, w1 _ _ H1 F2 jok_enum st2⟩⟩
    | tup xs =>
      obtain ⟨a, vs, e, hs, rp⟩ := View.tup vx
      dsimp only at e
      subst e
      exact ⟨a, vs, rfl, .inr ⟨hs, w1 _ _ H1 F2 jok_enumT st2⟩⟩
    | _ => exact w1.elim
end
end PP

set_option Elab.async false
set_option linter.all false
set_option maxRecDepth 100000
set_option maxHeartbeats 2000000
/-! Pure python, 26: texts repeated; whatever is multiplied. -/
namespace PP
open PySem PySem.Spec PyProof.Rows L2
def timesS (x : Str) (n : Nat) : Str := ⟨(List.replicate n x.cps.toList).flatten.toArray⟩
section
variable {G : Gx} {O : List V} {E : XK} {k : Nat} {X : Cx} {a b : Expr} {pos : Pos} {ma mb : M R}
def rRepS : R2 := fun x y H Q => ∃ i k, x = .str i ∧ y = .int k ∧ 0 ≤ k ∧ k < 2 ^ 30 ∧ i.length * k.toNat ≤ sizeLine ∧ Q (.str (timesS i k.toNat)) H
theorem foldl_cps (c : Array Nat) : ∀ (n : Nat) (acc : Array Nat), (List.replicate n c).foldl (· ++ ·) acc = acc ++ (List.replicate n c.toList).flatten.toArray
  | 0, acc => by simp
  | n + 1, acc => by
    rw [List.replicate_succ, List.foldl_cons, foldl_cps c n, List.replicate_succ, List.flatten_cons]
    apply Array.ext'
    simp
theorem op_repS : OpR X (binaryOp .Mult) rRepS := by
  intro pins s σ H x y v u Q I rx ry h
  obtain ⟨i, k, rfl, rfl, h0, h1, hz, q⟩ := h
  obtain ⟨t, rfl⟩ := rx
  obtain ⟨t', rfl⟩ := ry
  have e1 : (List.replicate k.toNat i.cps).foldl (· ++ ·) #[] = (List.replicate k.toNat i.cps.toList).flatten.toArray := by
    rw [foldl_cps]; simp
  rw [sizeLine_eq] at hz
  refine PySem.P.mul_str ?_ (fun z1 z2 => ?_) (fun z1 z2 => ?_) ?_
  · rw [decide_eq_false (by omega), decide_eq_false (by omega)]; rfl
  · have hk : 1 ≤ k := by omega
    have hl : (i.length : Int) * k ≤ 16777216 := by
      have : ((i.length * k.toNat : Nat) : Int) ≤ 16777216 := by omega
      rw [Int.natCast_mul, Int.toNat_of_nonneg h0] at this
      exact this
    intro g
    have h3 : (i.length : Int) ≤ 16777216 := by
      have := Int.mul_le_mul_of_nonneg_left hk (show (0 : Int) ≤ i.length by omega)
      omega
    have h2 : (2 ^ 63 - 1) / (k : Int) ≥ 2 ^ 32 := by
      apply Int.le_ediv_of_mul_le (by omega)
      omega
    omega
  · unfold Builtin.Str.tooLong
    rw [sizeLine_eq]
    simp
    omega
  · split
    · rename_i hn
      have : k.toNat = 0 := by omega
      have q' : Q (.str Str.empty) H := by
        have e : timesS i k.toNat = Str.empty := by rw [this]; rfl
        rwa [e] at q
      exact ⟨by decide, .str _, H, I.tok _, ⟨_, rfl⟩, q'⟩
    · rename_i hn
      split
      · rename_i h1'
        have e : timesS i k.toNat = i := by
          simp only [Bool.or_eq_true, beq_iff_eq] at h1'
          rcases h1' with z | z
          · subst z
            show (⟨(List.replicate 1 i.cps.toList).flatten.toArray⟩ : Str) = i
            simp
          · have z : i.cps = #[] := Array.eq_empty_of_size_eq_zero z
            obtain ⟨c⟩ := i
            simp only at z
            subst z
            show (⟨(List.replicate k.toNat ([] : List Nat)).flatten.toArray⟩ : Str) = ⟨#[]⟩
            simp
        rw [e] at q
        exact ⟨.str _, H, I, ⟨_, rfl⟩, q⟩
      · refine ⟨?_, .str _, H, I.tok _, ⟨_, rfl⟩, ?_⟩
        · rw [e1]
          show (List.replicate k.toNat i.cps.toList).flatten.toArray.size ≤ sizeLine
          rw [sizeLine_eq]
          simp
          rw [Nat.mul_comm]
          exact hz
        · rw [e1]; exact q
def repSD (x y : D) : Option (Fl × D) := match x, y with
  | .str i, .int k => if 0 ≤ k ∧ k < 2 ^ 30 ∧ i.length * k.toNat ≤ sizeLine then sh (.str (timesS i k.toNat)) else none
  | _, _ => none
theorem ok_repSD : Ok2 G rRepS repSD := by
  intro H F L v u x y Q gd hv hu m
  unfold repSD at m
  split at m
  · rename_i i k
    split at m
    · rename_i hz
      exact ⟨i, k, gd.vw hv, gd.vw hu, hz.1, hz.2.1, hz.2.2, made_str gd m⟩
    · exact m.elim
  · exact m.elim
/-- a * b: whole numbers; a list, a tuple, a text so many times -/
def mulG (x y : D) : Option (Fl × D) := orE (mulI x y) (orE (repL x y) (orE (repTA x y) (repSD x y)))
theorem SE.mulG (hK : X.K = G.K) (ha : SE G O E X a ma) (hb : SE G O E X b mb) : SE G O E X (.BinOp a .Mult b pos) (mOp2 PP.mulG ma mb) :=
  SE.op ((op_mulW (X := X)).or ((op_rep (X := X)).or (((by have := op_repT (X := X); rw [hK] at this; exact this : OpR X (binaryOp .Mult) (rRepT G.K)).or ((by have := op_repT1 (X := X); rw [hK] at this; exact this : OpR X (binaryOp .Mult) (rRepT1 G.K)).or (by have := op_repT0 (X := X); rw [hK] at this; exact this))).or op_repS)))
    ((ok_iD2 fun _ _ h => (of_decide_eq_true h : _ < _)).or (ok_repL.or ((ok_repT.or (ok_repT1.or ok_repT0)).or ok_repSD))) ha hb
end
end PP

set_option Elab.async false
set_option linter.all false
set_option maxRecDepth 100000
/-! Pure python, 27: what a call is said to raise, its arguments raising nothing. -/
namespace PP
open PySem PySem.Spec PyProof.Rows L2
def mSaidF (say : Did → Option (Fl × D)) (f : FM) (as : M (List Ag)) : M R := fun ρ => match as ρ with
  | .ok _ _ => mSaid say (mCall f as) ρ
  | _ => .bad
section
variable {G : Gx} {O : List V} {E : XK} {X : Cx}
theorem SE.weak {e : Expr} {m m' : M R} (h : SE G O E X e m) (hm : ∀ ρ, m' ρ = .bad ∨ m' ρ = m ρ) : SE G O E X e m' := by
  refine PE.imp h fun σ H Q ⟨ρ, T, F, st, w⟩ => ⟨ρ, T, F, st, ?_⟩
  rcases hm ρ with e | e
  · rw [e] at w; exact w.elim
  · rw [e] at w; exact w
theorem SE.saidF {e : Expr} {say : Did → Option (Fl × D)} {f : FM} {as : M (List Ag)} (h : SE G O E X e (mSaid say (mCall f as))) : SE G O E X e (mSaidF say f as) := by
  refine SE.weak h fun ρ => ?_
  unfold mSaidF
  cases as ρ with
  | ok a b => exact .inr rfl
  | exc c p b => exact .inl rfl
  | bad => exact .inl rfl
end
end PP

set_option Elab.async false
set_option linter.all false
set_option maxRecDepth 100000
/-! Pure python, 28: dict comprehensions. -/
namespace PP
open PySem PySem.Spec PyProof.Rows L2
def loopK (vs : List Nat) (g : Tg) (c : M Bool) (ek ev : M R) : List D → List (Key × D) → M (List (Key × D))
  | [], acc => pur acc
  | d :: ds, acc => fun ρ => match g d ρ with
    | .ok _ ρ1 => (match c ρ1 with
      | .ok true ρ2 => (match ek ρ2 with
        | .ok (.v _ kd) ρ3 => (match keyOf kd with
          | some k => (match ev ρ3 with
            | .ok (.v _ y) ρ4 => if acc.length < sizeLine then loopK vs g c ek ev ds (putD acc k y) (wipeE ρ4 vs) else .bad
            | _ => .bad)
          | none => .bad)
        | _ => .bad)
      | .ok false ρ2 => loopK vs g c ek ev ds acc (wipeE ρ2 vs)
      | _ => .bad)
    | _ => .bad
/-- {k: v for .. if ..} -/
def mCompK (vs : List Nat) (it : M (List D)) (g : Tg) (c : M Bool) (ek ev : M R) : M R := bnd it fun ds ρ0 =>
  match loopK vs g c ek ev ds [] (wipeE ρ0 vs) with
  | .ok acc ρ => .ok (.v .ow (.dK acc)) (restore ρ0 vs ρ)
  | _ => .bad
section
variable {G : Gx} {O : List V} {E : XK} {k : Nat} {X : Cx} {gu : Bool}
theorem compK_read {vs ws : List Nat} {mi : M (List D)} {g : Tg} {mc : M Bool} {mk me : M R} {σ : L2.St} {H : Hp} {Q : VK} (nd : vs.Nodup) (hw : ∀ i ∈ ws, i ∈ vs) (h : tE G O E (mCompK vs mi g mc mk me) σ H Q) :
    tDc (tI G O E mi) (tTg G O ws g) (tT G O L2.E0 mc) (tE G O L2.E0 mk) (tE G O L2.E0 me) vs σ H Q := by
  obtain ⟨ρ, T, F, st, w⟩ := h
  unfold mCompK at w
  refine ⟨ρ, T, F, st, w.bnd.imp fun ds ρ1 w1 J C H1 F1 hJ st1 => fun A hA => ?_⟩
  have hfin : ∃ acc ρ9, loopK vs g mc mk me ds [] (wipeE ρ1 vs) = .ok acc ρ9 ∧ ∀ v H' F', St G O (restore ρ1 vs ρ9) σ ((v, .ow, .dK acc) :: T) H' F' → Q v H' := by
    cases q : loopK vs g mc mk me ds [] (wipeE ρ1 vs) with
    | ok acc ρ9 =>
      rw [q] at w1
      exact ⟨acc, ρ9, rfl, fun v H' F' s' => w1 v H' F' trivial s'⟩
    | exc c p ρ9 => rw [q] at w1; exact w1.elim
    | bad => rw [q] at w1; exact w1.elim
  obtain ⟨acc9, ρ9, hloop, fin⟩ := hfin
  have wiped : ∀ (ρ : Env), ∀ i ∈ vs, ∀ t, (wipeE ρ vs)[i]? ≠ some (some t) := fun ρ i hi t => wipeE_in hi
  refine ⟨fun i m H => m = ds.length - i ∧ i ≤ ds.length ∧ ∃ acc ρ F, St G O ρ (wipe σ vs) ((.ref A, .ow, .dK acc) :: (C ++ (saved σ ρ1 vs ++ T))) H F ∧ (∀ j ∈ vs, ∀ t, ρ[j]? ≠ some (some t)) ∧ loopK vs g mc mk me (ds.drop i) acc ρ = .ok acc9 ρ9, ?_, ?_⟩
  · refine ⟨ds.length, rfl, Nat.zero_le _, [], wipeE ρ1 vs, F1, ⟨wipe_slots (wipeE_slots st1.sl) (wiped ρ1), ?_⟩, wiped ρ1, by simpa using hloop⟩
    rw [live_wipe (wiped ρ1)]
    have g1 := wipeE_good (ρ0 := ρ1) nd (fun i hi => rfl) st1.gd
    have g2 := g1.new (fl := .ow) hA (show Own G (upd H1 A (.dK [])) F1 A (.dK []) from ⟨[], upd_same, .nil⟩) rfl
    refine (g2.perm (List.perm_middle (l₁ := live σ (wipeE ρ1 vs))).symm).perm (List.Perm.append_left _ (List.Perm.cons _ ?_))
    rw [← List.append_assoc, ← List.append_assoc]
    exact List.Perm.append_right _ List.perm_append_comm
  · rintro i m H ⟨rfl, hi, acc, ρ, F, st, hw0, hl⟩
    have gJ : Good G H F (C ++ (live (wipe σ vs) ρ ++ ((.ref A, .ow, .dK acc) :: (saved σ ρ1 vs ++ T)))) := by
      have g1 := st.gd
      refine g1.perm ?_
      have p1 : ((V.ref A, Fl.ow, D.dK acc) :: (C ++ (saved σ ρ1 vs ++ T))).Perm (C ++ ((V.ref A, Fl.ow, D.dK acc) :: (saved σ ρ1 vs ++ T))) := List.perm_middle.symm
      refine (List.Perm.append_left _ p1).trans ?_
      rw [← List.append_assoc, ← List.append_assoc]
      exact List.Perm.append_right _ List.perm_append_comm
    obtain ⟨j1, j2, j3⟩ := hJ i H F _ gJ
    by_cases hlt : i < ds.length
    · refine .inr ⟨j1 hlt, fun H' => ∃ acc ρ F, St G O ρ (wipe σ vs) ((.ref A, .ow, .dK acc) :: (C ++ (saved σ ρ1 vs ++ T))) H' F ∧ (∀ j ∈ vs, ∀ t, ρ[j]? ≠ some (some t)) ∧ loopK vs g mc mk me (ds.drop (i + 1)) acc ρ = .ok acc9 ρ9, fun H' h => ⟨ds.length - (i + 1), by omega, rfl, hlt, h⟩, fun x H' hy => ?_⟩
      obtain ⟨F', g'⟩ := j3 x H' ds[i] (List.getElem?_eq_getElem hlt) hy
      have st' : St G O ρ (wipe σ vs) ((x, .sh, ds[i]) :: ((.ref A, .ow, .dK acc) :: (C ++ (saved σ ρ1 vs ++ T)))) H' F' := by
        refine St.push st.sl (g'.perm (List.Perm.cons _ ?_))
        have p1 : (C ++ ((V.ref A, Fl.ow, D.dK acc) :: (saved σ ρ1 vs ++ T))).Perm ((V.ref A, Fl.ow, D.dK acc) :: (C ++ (saved σ ρ1 vs ++ T))) := List.perm_middle
        have p0 : (C ++ (live (wipe σ vs) ρ ++ ((V.ref A, Fl.ow, D.dK acc) :: (saved σ ρ1 vs ++ T)))).Perm (live (wipe σ vs) ρ ++ (C ++ ((V.ref A, Fl.ow, D.dK acc) :: (saved σ ρ1 vs ++ T)))) := by
          rw [← List.append_assoc, ← List.append_assoc]
          exact List.Perm.append_right _ List.perm_append_comm
        exact p0.trans (List.Perm.append_left _ p1)
      rw [List.drop_eq_getElem_cons hlt] at hl
      simp only [loopK] at hl
      refine ⟨ds[i], ρ, _, F', st', ?_⟩
      cases q : g ds[i] ρ with
      | bad => rw [q] at hl; cases hl
      | exc c p ρ' => rw [q] at hl; cases hl
      | ok u ρ2 =>
        rw [q] at hl
        intro σ2 H2 F2 kp st2
        have hwk := wipe_keep kp hw
        have hww : wipe (wipe σ vs) vs = wipe σ vs := wipe_keep (ws := vs) ⟨wipe_length _ _, fun i hi => by
          have : ∀ vs : List Nat, i ∉ vs → (wipe σ vs)[i]? = σ[i]? := by
            intro vs
            induction vs with
            | nil => intro _; rfl
            | cons a vs ih =>
              intro hn
              show ((wipe σ vs).set a none)[i]? = _
              rw [List.getElem?_set_ne (fun e => hn (by simp [e]))]
              exact ih fun z => hn (List.mem_cons_of_mem _ z)
          exact this vs hi⟩ fun i hi => hi
        rw [hww] at hwk
        refine ⟨hwk, ?_⟩
        have again : ∀ {ρ3 : Env} {H3 : Hp} {F3 : Fz} {acc : List (Key × D)}, St G O ρ3 σ2 ((.ref A, .ow, .dK acc) :: (C ++ (saved σ ρ1 vs ++ T))) H3 F3 → St G O (wipeE ρ3 vs) (wipe σ vs) ((.ref A, .ow, .dK acc) :: (C ++ (saved σ ρ1 vs ++ T))) H3 F3 := fun {ρ3 H3 F3 acc} s3 => by
          rw [← hwk]
          refine ⟨wipe_slots (wipeE_slots s3.sl) (wiped ρ3), ?_⟩
          rw [live_wipe (wiped ρ3)]
          exact s3.gd.sub (List.Sublist.append_right wipe_sub _)
        refine ⟨ρ2, _, F2, st2, ?_⟩
        dsimp only at hl
        cases q2 : mc ρ2 with
        | bad => rw [q2] at hl; cases hl
        | exc c p ρ' => rw [q2] at hl; cases hl
        | ok b ρ3 =>
          rw [q2] at hl
          intro H3 F3 st3
          cases b with
          | false =>
            rw [if_neg Bool.false_ne_true]
            exact ⟨acc, _, F3, again st3, wiped ρ3, hl⟩
          | true =>
            rw [if_pos rfl]
            refine ⟨ρ3, _, F3, st3, ?_⟩
            dsimp only at hl
            cases q3 : mk ρ3 with
            | bad => rw [q3] at hl; cases hl
            | exc c p ρ' => rw [q3] at hl; cases hl
            | ok r ρ4 =>
              rw [q3] at hl
              cases r with
              | s i => cases hl
              | v fl kd =>
                intro u H4 F4 _ st4
                dsimp only at hl
                cases ek : keyOf kd with
                | none => rw [ek] at hl; cases hl
                | some kk =>
                  rw [ek] at hl
                  dsimp only at hl
                  have g4 := (show St G O ρ4 σ2 ((u, fl, kd) :: ((.ref A, .ow, .dK acc) :: (C ++ (saved σ ρ1 vs ++ T)))) H4 F4 from st4).good
                  have eu : u = kV kk := by
                    have vw := g4.view (x := (u, fl, kd)) List.mem_cons_self
                    exact keyOf_view vw ek
                  refine ⟨ρ4, ((.ref A, .ow, .dK acc) :: (C ++ (saved σ ρ1 vs ++ T))), F4, ⟨st4.sl, g4.tail⟩, ?_⟩
                  cases q4 : me ρ4 with
                  | bad => rw [q4] at hl; cases hl
                  | exc c p ρ' => rw [q4] at hl; cases hl
                  | ok r ρ5 =>
                    rw [q4] at hl
                    cases r with
                    | s i => cases hl
                    | v fl y =>
                      dsimp only at hl
                      split at hl
                      · rename_i hz
                        intro z H5 F5 _ st5
                        have g5 := (show St G O ρ5 σ2 ((z, fl, y) :: ((.ref A, .ow, .dK acc) :: (C ++ (saved σ ρ1 vs ++ T)))) H5 F5 from st5).good
                        obtain ⟨F6, le, g6, rp⟩ := g5.freeze
                        have g7 := g6.tail.perm (List.perm_middle (l₁ := live σ2 ρ5))
                        obtain ⟨a', ea, hn, ow⟩ := g7.ownH (x := (.ref A, .ow, .dK acc)) rfl
                        cases ea
                        obtain ⟨ws, hH, rps⟩ := ow
                        refine ⟨ws, kk, eu, hH, by rw [rps.length]; exact hz, putD acc kk y, wipeE ρ5 vs, F6, ?_, wiped ρ5, hl⟩
                        refine again ⟨st5.sl, ?_⟩
                        have g8 := g7.write (o := .dK (putK ws kk z)) (d' := .dK (putD acc kk y)) rfl ⟨putK ws kk z, upd_same, repK_put rps rp⟩
                        exact g8.perm (List.perm_middle (l₁ := live σ2 ρ5)).symm
                      · cases hl
    · have e : i = ds.length := by omega
      subst e
      refine .inl ⟨j2 (Nat.le_refl _), ?_⟩
      rw [List.drop_length] at hl
      have hl : Res.ok acc ρ = Res.ok acc9 ρ9 := hl
      cases hl
      refine fin _ H F (St.push ?_ ?_)
      · exact (restore_good (L := []) (F := F) (H := H) st1.sl (unwipe_slots st.sl) (by
          have g1 := st.gd
          rw [live_wipe hw0] at g1
          refine g1.sub ?_
          rw [List.append_nil]
          exact List.Sublist.append_left (((List.sublist_append_left _ _).trans (List.sublist_append_right _ _)).trans (List.sublist_cons_self _ _)) _)).sl
      · have g1 := st.gd
        rw [live_wipe hw0] at g1
        have g2 : Good G H F (live σ ρ9 ++ (saved σ ρ1 vs ++ ((.ref A, .ow, .dK acc9) :: T))) := by
          refine (g1.sub (L' := live σ ρ9 ++ ((.ref A, .ow, .dK acc9) :: (saved σ ρ1 vs ++ T))) (List.Sublist.append_left ((List.sublist_append_right _ _).cons_cons _) _)).perm (List.Perm.append_left _ ?_)
          exact List.perm_middle.symm
        exact (restore_good st1.sl (unwipe_slots st.sl) g2).gd.perm List.perm_middle
theorem SE.compK {kx vx tg iter : Expr} {ifs : List Expr} {scope : Scope} {own : List (Str × Nat)} {vs ws : List Nat} {pos : Pos} {mi : M (List D)} {g : Tg} {mc : M Bool} {mk me : M R} (cx : CxOk gu G E k X) (ok : BlkOk X.N X.env.scope scope own) (hvs : own.map (·.2) = vs) (nd : vs.Nodup) (hw : ∀ i ∈ ws, i ∈ vs)
    (hi : SI G O E X tg iter mi)
    (hg : ∀ (s : Shared) (H : Hp) (C : Addr) (cl : List (Str × Addr)) (fp : List Addr), CxOk gu G L2.E0 k (X.blk s H scope (compEnvC scope cl C X.env) fp) → SP' G O (X.blk s H scope (compEnvC scope cl C X.env) fp) tg ws g)
    (hc : ∀ (s : Shared) (H : Hp) (C : Addr) (cl : List (Str × Addr)) (fp : List Addr), CxOk gu G L2.E0 k (X.blk s H scope (compEnvC scope cl C X.env) fp) → STs G O L2.E0 (X.blk s H scope (compEnvC scope cl C X.env) fp) ifs mc)
    (hk : ∀ (s : Shared) (H : Hp) (C : Addr) (cl : List (Str × Addr)) (fp : List Addr), CxOk gu G L2.E0 k (X.blk s H scope (compEnvC scope cl C X.env) fp) → SE G O L2.E0 (X.blk s H scope (compEnvC scope cl C X.env) fp) kx mk)
    (he : ∀ (s : Shared) (H : Hp) (C : Addr) (cl : List (Str × Addr)) (fp : List Addr), CxOk gu G L2.E0 k (X.blk s H scope (compEnvC scope cl C X.env) fp) → SE G O L2.E0 (X.blk s H scope (compEnvC scope cl C X.env) fp) vx me)
    (hs : ∀ x, foldedSetIterable iter X.env x = pure x := by intro _; rfl) : SE G O E X (.DictComp kx vx [⟨tg, iter, ifs, 0⟩] scope pos) (mCompK vs mi g mc mk me) := by
  refine PE.imp (pe_dc cx.calm cx.nd hi ok (fun s H C cl fp => hg s H C cl fp (cx.blk s H scope _ fp)) (fun s H C cl fp => hc s H C cl fp (cx.blk s H scope _ fp)) (fun s H C cl fp => hk s H C cl fp (cx.blk s H scope _ fp)) (fun s H C cl fp => he s H C cl fp (cx.blk s H scope _ fp)) hs) fun σ H Q h => ?_
  rw [hvs]
  exact compK_read nd hw h
/-- y = {k: v for ..} -/
theorem ps_setDc {i : Nat} {y : Str} {py : Pos} {kx vx tg iter : Expr} {ifs : List Expr} {scope : Scope} {own : List (Str × Nat)} {pos spos : Pos} {wi : TI} {g : TG} {tt : TT} {tk tv : TE} (hc : X.calm = true) (hN : X.N.Nodup) (hy : X.N[i]? = some y) (hyl : X.env.scope.names.lookup y = some .local)
    (hsw : swapsWith (.DictComp kx vx [⟨tg, iter, ifs, 0⟩] scope pos) (some (.Name y py)) spos.line X.env = pure true) (hi : PI X tg iter wi) (ok : BlkOk X.N X.env.scope scope own)
    (hg : ∀ (s : Shared) (H : Hp) (C : Addr) (cl : List (Str × Addr)) (fp : List Addr), PG (X.blk s H scope (compEnvC scope cl C X.env) fp) tg g) (ht : ∀ (s : Shared) (H : Hp) (C : Addr) (cl : List (Str × Addr)) (fp : List Addr), PTs (X.blk s H scope (compEnvC scope cl C X.env) fp) ifs tt)
    (hk : ∀ (s : Shared) (H : Hp) (C : Addr) (cl : List (Str × Addr)) (fp : List Addr), PE (X.blk s H scope (compEnvC scope cl C X.env) fp) kx tk)
    (he : ∀ (s : Shared) (H : Hp) (C : Addr) (cl : List (Str × Addr)) (fp : List Addr), PE (X.blk s H scope (compEnvC scope cl C X.env) fp) vx tv) (hs : ∀ x, foldedSetIterable iter X.env x = pure x := by intro _; rfl) :
    PS X (.Assign [.Name y py] (.DictComp kx vx [⟨tg, iter, ifs, 0⟩] scope pos) spos) (tAsg (tDc wi g tt tk tv (own.map (·.2))) (gName i)) := by
  refine ⟨fun pins s σ H D I h => ?_⟩
  rw [exec_Assign_Name_used _ _ _ _ hsw]
  refine wpAny_bind (wpAny_standAt (wpAny_bind ?_))
  show wpAny _ X.A (do let _ ← comprehension (.DictComp kx vx [⟨tg, iter, ifs, 0⟩] scope pos) scope X.env (firstIterPos [⟨tg, iter, ifs, 0⟩] pos) newDict false (eval iter X.env) (some (assign (.Name y py) X.env))) _ _ s
  have h : tDc wi g tt tk tv (own.map (·.2)) σ H (fun x H1 => gName i x σ H1 D.nx) := h
  refine wpAny_bind (thn (dc_core (Qf := fun _ s' => SP X pins D .next s') hc hN I hi ok hg ht hk he hs h fun L C s' m H' I' q hn f => ?_) fun _ s' hq => wpAny_pure (wpAny_pure hq))
  show wpAny _ _ (assign (.Name y py) X.env (.ref L)) _ _ _
  refine wpAny_assign_Name (store_ok2 (v := V.ref L) I' hN hy (.inl hyl) rfl (fun s2 I2 ⟨a, sb, ha⟩ => ?_) (.inr hyl))
  obtain ⟨f0, f1, f2, f3, f4, f5⟩ := f
  have haC : C ≠ a := by
    rcases ha with z | z
    · rw [z]; exact f1
    · exact fun e => f4 y a z e.symm
  refine ⟨m, hn.sameBut sb haC, fun h3 sb3 => ?_⟩
  exact ⟨_, H', I2.turned (t' := s2.toks) (fun b o hb e => (sb3.2 b hb).trans e) f0 f1 f3 f4 f5, q⟩
theorem swK_true {kx vx : Expr} {gs : List Comprehension} {scope : Scope} {pos py : Pos} {y : Str} {l : Nat} {env : PySem.Env} (hk : env.scope.kind = .function) (hy : env.scope.names.lookup y = some .local) (hl : (py.line == pos.line) = true)
    (ha : (scope.names.any fun (n, k) => n == y && (k == .local || k == .cell)) = false) : swapsWith (.DictComp kx vx gs scope pos) (some (.Name y py)) l env = pure true := by
  have ky : env.kindOf y = some .local := hy
  have hb : env.blockKind = .function := by unfold Env.blockKind; rw [hk]; rfl
  unfold swapsWith
  simp only [hb, ky, ha, Expr.pos, hl]
  rfl
theorem SS.setK {iy : Nat} {y : Str} {py spos : Pos} {kx vx tg iter : Expr} {ifs : List Expr} {scope : Scope} {own : List (Str × Nat)} {vs ws : List Nat} {pos : Pos} {mi : M (List D)} {g : Tg} {mc : M Bool} {mk me : M R} (cx : CxOk gu G E k X) (ok : BlkOk X.N X.env.scope scope own) (hvs : own.map (·.2) = vs) (nd : vs.Nodup) (hw : ∀ i ∈ ws, i ∈ vs)
    (hy : X.N[iy]? = some y) (hyl : X.env.scope.names.lookup y = some .local) (hln : (py.line == pos.line) = true) (hsc : (scope.names.any fun (n, k) => n == y && (k == .local || k == .cell)) = false) (hkd : X.env.scope.kind = .function)
    (hi : SI G O E X tg iter mi)
    (hg : ∀ (s : Shared) (H : Hp) (C : Addr) (cl : List (Str × Addr)) (fp : List Addr), CxOk gu G L2.E0 k (X.blk s H scope (compEnvC scope cl C X.env) fp) → SP' G O (X.blk s H scope (compEnvC scope cl C X.env) fp) tg ws g)
    (hc : ∀ (s : Shared) (H : Hp) (C : Addr) (cl : List (Str × Addr)) (fp : List Addr), CxOk gu G L2.E0 k (X.blk s H scope (compEnvC scope cl C X.env) fp) → STs G O L2.E0 (X.blk s H scope (compEnvC scope cl C X.env) fp) ifs mc)
    (hk : ∀ (s : Shared) (H : Hp) (C : Addr) (cl : List (Str × Addr)) (fp : List Addr), CxOk gu G L2.E0 k (X.blk s H scope (compEnvC scope cl C X.env) fp) → SE G O L2.E0 (X.blk s H scope (compEnvC scope cl C X.env) fp) kx mk)
    (he : ∀ (s : Shared) (H : Hp) (C : Addr) (cl : List (Str × Addr)) (fp : List Addr), CxOk gu G L2.E0 k (X.blk s H scope (compEnvC scope cl C X.env) fp) → SE G O L2.E0 (X.blk s H scope (compEnvC scope cl C X.env) fp) vx me)
    (hs : ∀ x, foldedSetIterable iter X.env x = pure x := by intro _; rfl) : SS G O E X (.Assign [.Name y py] (.DictComp kx vx [⟨tg, iter, ifs, 0⟩] scope pos) spos) (sSet iy (mCompK vs mi g mc mk me)) := by
  refine PS.imp (ps_setDc cx.calm cx.nd hy hyl (swK_true hkd hyl hln hsc) hi ok (fun s H C cl fp => hg s H C cl fp (cx.blk s H scope _ fp)) (fun s H C cl fp => hc s H C cl fp (cx.blk s H scope _ fp)) (fun s H C cl fp => hk s H C cl fp (cx.blk s H scope _ fp)) (fun s H C cl fp => he s H C cl fp (cx.blk s H scope _ fp)) hs) fun Dn σ H ⟨ρ, T, F, st, w⟩ => ?_
  rw [hvs]
  refine compK_read (Q := fun x H1 => gName iy x σ H1 Dn.nx) nd hw (tE_s st w fun r ρ1 v H1 F1 rv st1 w1 => ?_)
  exact sset_end w1 st1
end
end PP

set_option Elab.async false
set_option linter.all false
set_option maxRecDepth 100000
/-! Pure python, 29: d.get(k, x), dict(pairs), sorted(dict). -/
namespace PP
open PySem PySem.Spec PyProof.Rows L2
/-- d.get(k, x), x flat -/
def getOrD (x y z : D) : Option (Fl × D) := match getD' x y with
  | some (some d) => sh d
  | some none => (match z with
    | .int i => shI i
    | .bl b => shB b
    | .non => sh .non
    | _ => none)
  | none => none
def mGet2 (a b c : M R) : M R := bnd a fun ra ρ1 => match deref ρ1 ra with
  | some x0 => if isDct x0 then (bnd b fun rb => bnd c fun rc ρ => match deref ρ ra, deref ρ rb, deref ρ rc with
    | some x, some y, some z => opR ρ (getOrD x y z)
    | _, _, _ => .bad) ρ1 else .bad
  | none => .bad
/-- the pairs of a list of pairs -/
def pairsOf : List D → Option (List (Key × D))
  | [] => some []
  | .tup [k, v] :: ds => match keyOf k, pairsOf ds with
    | some k, some r => some ((k, v) :: r)
    | _, _ => none
  | _ => none
def dictPD (x : D) : Option (Fl × D) := match x with
  | .lst ds => (pairsOf ds).map fun kvs => (.ow, .dK (kvs.foldl (fun acc kv => putD acc kv.1 kv.2) []))
  | _ => none
def intKeys : List (Key × D) → Option (List Int)
  | [] => some []
  | (.inl i, _) :: r => match intKeys r with
    | some is => some (i :: is)
    | none => none
  | _ => none
/-- sorted(d) -/
def sortedKD (x : D) : Option (Fl × D) := match x with
  | .dK kvs => match intKeys kvs with
    | some is => if is.length < 64 then some (.ow, .lst ((sortI is).map D.int)) else none
    | none => none
  | x => sortedAD x
section
variable {G : Gx} {O : List V} {E : XK} {k : Nat} {X : Cx} {gu : Bool} {a b c : Expr} {pos apos : Pos} {ma mb mc : M R}
theorem isD_of {H : Hp} {F : Fz} {L : List Cell} {v : V} {x : D} (g : Good G H F L) (hv : View G H F v x) (h : isDct x = true) : ∃ a, v = .ref a ∧ IsD H a := by
  cases x <;> simp [isDct] at h
  · obtain ⟨a, vs, e, hs, _⟩ := hv
    exact ⟨a, e, .inl ⟨_, .inl hs⟩⟩
  · obtain ⟨a, vs, e, hs, _⟩ := hv
    exact ⟨a, e, .inr ⟨_, .inl hs⟩⟩
theorem SE.get2 (cx : CxOk gu G E k X) (ha : SE G O E X a ma) (hb : SE G O E X b mb) (hc : SE G O E X c mc)
    (hbase : attributeBase a "get" X.env (eval a X.env) = eval a X.env := by rfl)
    (hfew : ((backTo pos (starEach [b, c] X.env)).all (fun x => !x.1) && (backToKw pos (keywordEach [] X.env)).all (fun x => x.1.isSome) && decide (([b, c] : List Expr).length + ([] : List Keyword).length + (if ([] : List Keyword).isEmpty then 0 else 1) < 30)) = true := by rfl)
    (hline : (apos.endLine == pos.line) = true := by rfl) (htr : backTo pos (starEach [b, c] X.env) = [(false, eval b X.env), (false, eval c X.env)] := by rfl) :
    SE G O E X (.Call (.Attribute a "get" apos) [b, c] [] pos) (mGet2 ma mb mc) := by
  refine PE.imp (pe_dget2 cx.u1 ha hb hc ⟨hbase, hfew, hline, htr⟩) fun σ H Q ⟨ρ, T, F, st, w⟩ => ?_
  unfold mGet2 at w
  refine tE_bnd st w fun ra ρ1 v H1 F1 rv st1 w1 => ?_
  cases ex0 : deref ρ1 ra with
  | none => rw [ex0] at w1; exact w1.elim
  | some x0 =>
    rw [ex0] at w1
    dsimp only at w1
    split at w1
    · rename_i hd
      obtain ⟨ad, ev, isd⟩ := isD_of st1.gd (st1.gd.vw (st1.mem rv mem_temp ex0)) hd
      refine ⟨ad, ev, isd, ?_⟩
      refine tE_bnd (T := temp ra v ++ T) st1 (w1.ext fun _ _ x => x) fun rb ρ2 u H2 F2 ru st2 w2 => ?_
      refine tE_bnd (T := temp rb u ++ (temp ra v ++ T)) st2 (w2.ext fun _ _ x => x) fun rc ρ3 t H3 F3 rt st3 w3 => ?_
      cases ex : deref ρ3 ra with
      | none => rw [ex] at w3; exact w3.elim
      | some x =>
        cases ey : deref ρ3 rb with
        | none => rw [ex, ey] at w3; exact w3.elim
        | some y =>
          cases ez : deref ρ3 rc with
          | none => rw [ex, ey, ez] at w3; exact w3.elim
          | some z =>
            rw [ex, ey, ez] at w3
            dsimp only at w3
            have vx := st3.gd.vw (st3.mem rv (fun z hz => List.mem_append_right _ (List.mem_append_right _ (mem_temp z hz))) ex)
            have vy := st3.gd.vw (st3.mem ru (fun z hz => List.mem_append_right _ (mem_temp z hz)) ey)
            have vz := st3.gd.vw (st3.mem rt mem_temp ez)
            have m : Made G (live σ ρ3 ++ (temp rc t ++ (temp rb u ++ (temp ra v ++ T)))) (getOrD x y z) Q := Made.sub (List.Sublist.append_left ((List.sublist_append_right _ _).trans ((List.sublist_append_right _ _).trans (List.sublist_append_right _ _))) _) (made_of (T' := temp rb u ++ (temp ra v ++ T)) (T := T) st3.sl w3)
            have gd := st3.gd
            unfold getOrD at m
            cases e : getD' x y with
            | none => rw [e] at m; exact m.elim
            | some o =>
              obtain ⟨a', w', ev', hd', hw⟩ := dget_of gd vx vy e
              have ea : a' = ad := by rw [ev] at ev'; cases ev'; rfl
              subst ea
              refine ⟨w', hd', ?_⟩
              rcases hw with ⟨rfl, rfl⟩ | ⟨d, zz, rfl, rfl, rp⟩
              · rw [e] at m
                dsimp only at m
                cases z with
                | int i => rw [show t = .int i from vz]; exact made_int gd m
                | bl i => rw [show t = .bl i from vz]; exact made_bl gd m
                | non => rw [show t = .non from vz]; exact made_rep gd .non m
                | _ => exact m.elim
              · rw [e] at m
                exact made_rep gd rp m
    · exact w1.elim
theorem pairs_of {H : Hp} {F : Fz} {L : List Cell} (g : Good G H F L) : ∀ {vs : List V} {ds : List D} {kvs : List (Key × D)}, Reps G F vs ds → pairsOf ds = some kvs →
    ∃ (ps : List Addr) (kv : List (Key × V)), vs = ps.map V.ref ∧ Paired (fun p kv => SqT G.K H p [kV kv.1, kv.2]) ps kv ∧ RepK G F kv kvs
  | [], ds, kvs, r, e => by
    cases r
    cases e
    exact ⟨[], [], rfl, .nil, .nil⟩
  | x :: vs, ds, kvs, r, e => by
    cases r with
    | @cons _ d _ ds r1 t =>
      cases d with
      | tup xs =>
        match xs, r1, e with
        | [kd, vd], r1, e =>
          simp only [pairsOf] at e
          split at e
          · rename_i kk rest e1 e2
            cases e
            obtain ⟨ps, kv, h1, h2, h3⟩ := pairs_of g t e2
            obtain ⟨a, us, ex, hs, rp⟩ := (g.viewR r1).tup
            cases rp with
            | @cons u1 _ us _ q1 q2 =>
              cases q2 with
              | @cons u2 _ us _ q2 q3 =>
                cases q3
                have ek := keyOf_view (g.viewR q1) e1
                subst ek
                exact ⟨a :: ps, (kk, u2) :: kv, by rw [h1, ex]; rfl, .cons hs h2, .cons ⟨rfl, q2⟩ h3⟩
          · cases e
        | [], _, e => simp [pairsOf] at e
        | [_], _, e => simp [pairsOf] at e
        | _ :: _ :: _ :: _, _, e => simp [pairsOf] at e
      | _ => simp [pairsOf] at e
theorem SE.dictP {p : Pos} (cx : CxOk gu G E k X) (hg : Gl X "dict") (hm : X.mg "dict" = none) (ha : SE G O E X a ma) (hs : PosOk a X := by rfl) (hpl : PosPl pos X := by rfl) : SE G O E X (.Call (.Name "dict" p) [a] [] pos) (mOp1 dictPD ma) := by
  have hr := call_dictP (X := X) cx.calm
  rw [cx.K] at hr
  refine SE.t1 hr (fun H F L v x Q gd hv m => ?_) hg hm (by decide +kernel) ha hs hpl
  unfold dictPD at m
  split at m
  · rename_i ds
    cases e : pairsOf ds with
    | none => rw [e] at m; exact m.elim
    | some kvs =>
      rw [e] at m
      obtain ⟨ad, vs, ev, hsq, rp⟩ := gd.vw hv
      obtain ⟨ps, kv, h1, h2, h3⟩ := pairs_of gd rp e
      subst h1
      refine ⟨ad, ps, kv, by rw [ev], SqL.of hsq, h2, fun q hq => ?_⟩
      exact m (.ref q) _ F (gd.new (o := .dK (mergeK [] kv)) hq ⟨_, upd_same, repK_merge h3 .nil⟩ rfl)
  · exact m.elim
theorem intKeys_ok {F : Fz} : ∀ {kv : List (Key × V)} {kvs : List (Key × D)} {is : List Int}, RepK G F kv kvs → intKeys kvs = some is → kv.map (·.1) = is.map Sum.inl
  | [], kvs, is, r, e => by
    cases r
    cases e
    rfl
  | (q, v) :: kv, kvs, is, r, e => by
    cases r with
    | @cons _ d _ ds r1 t =>
      obtain ⟨q', d⟩ := d
      cases q' with
      | inl i =>
        simp only [intKeys] at e
        split at e
        · rename_i is' e2
          cases e
          have := intKeys_ok t e2
          rw [List.map_cons, List.map_cons, this]
          rw [show q = Sum.inl i from r1.1]
        · cases e
      | inr x => simp [intKeys] at e
theorem SE.sortedK {p : Pos} (cx : CxOk gu G E k X) (hg : Gl X "sorted") (hm : X.mg "sorted" = none) (ha : SE G O E X a ma) (hs : PosOk a X := by rfl) (hpl : PosPl pos X := by rfl) : SE G O E X (.Call (.Name "sorted" p) [a] [] pos) (mOp1 sortedKD ma) := by
  have hr : CallR X (.builtin "sorted") (fun vs H Q => (rSortAny X.K vs H Q) ∨ ∃ (a : Addr) (kvs : List (Key × V)) (ks : List Int), vs = [.ref a] ∧ Rd H a (.dK kvs) ∧ kvs.map (·.1) = ks.map Sum.inl ∧ ks.length < 64 ∧
    ∀ (ys : List Int) (p : Addr), ys.Perm ks → ys.Pairwise (· ≤ ·) → H p = none → Q (.ref p) (upd H p (.lst (ys.map V.int)))) := by
    intro pins s σ H vs us Q I r h
    rcases h with h | h
    · exact cr_sortedA pins s σ H vs us Q I r h
    · exact call_sortedDI cx.calm pins s σ H vs us Q I r h
  rw [cx.K] at hr
  refine SE.b1 hr (fun H F L v x Q gd hv m => ?_) hg hm (by decide +kernel) ha hs hpl
  have fin : ∀ (a : Addr) (ns : List Int), v = V.ref a → (SqL G.K H a (ns.map V.int) ∨ SqT G.K H a (ns.map V.int)) → sortedKD x = some (Fl.ow, .lst ((sortI ns).map D.int)) → rSortAny G.K [v] H Q := fun a ns ev hh e => by
    rw [e] at m
    refine ⟨a, ns, by rw [ev], hh, fun ns' q hp hsrt hq => ?_⟩
    rw [sorted_uniq (hp.trans (sortI_perm ns).symm) hsrt (sortI_sorted ns)]
    exact made_lst gd (reps_ints _) hq m
  cases x with
  | lst ds =>
    cases e : intsOf ds with
    | none => simp only [sortedKD, sortedAD, seqOf, e, Option.map_none] at m; exact m.elim
    | some ns =>
      obtain ⟨a, vs, ev, hs, rp⟩ := gd.vw hv
      rw [ints_reps rp e fun v d r => gd.viewR r] at hs
      exact .inl (fin a ns ev (.inl (SqL.of hs)) (by simp only [sortedKD, sortedAD, seqOf, e, Option.map_some]))
  | tup ds =>
    cases e : intsOf ds with
    | none => simp only [sortedKD, sortedAD, seqOf, e, Option.map_none] at m; exact m.elim
    | some ns =>
      obtain ⟨a, vs, ev, hs, rp⟩ := gd.vw hv
      rw [ints_reps rp e fun v d r => gd.viewR r] at hs
      exact .inl (fin a ns ev (.inr (SqT.of hs)) (by simp only [sortedKD, sortedAD, seqOf, e, Option.map_some]))
  | dK kvs =>
    cases e : intKeys kvs with
    | none => simp only [sortedKD, e] at m; exact m.elim
    | some is =>
      simp only [sortedKD, e] at m
      split at m
      · rename_i h64
        obtain ⟨a, vs, ev, hs, rp⟩ := gd.vw hv
        refine .inr ⟨a, vs, is, by rw [ev], .inl hs, intKeys_ok rp e, h64, fun ys q hp hsrt hq => ?_⟩
        rw [sorted_uniq (hp.trans (sortI_perm is).symm) hsrt (sortI_sorted is)]
        exact made_lst gd (reps_ints _) hq m
      · exact m.elim
  | _ => simp only [sortedKD, sortedAD, seqOf] at m; exact m.elim
end
end PP

set_option Elab.async false
set_option linter.all false
set_option maxRecDepth 100000
/-! Pure python, 30: xs[k] += e of ints. -/
namespace PP
open PySem PySem.Spec PyProof.Rows L2
/-- xs[k] += e, xs in the slot i, k from 0 on -/
def sAugS (i : Nat) (mk me : M R) : M Flow := fun ρ => match ρ[i]? with
  | some (some _) => (bnd mk fun rk ρ1 => match deref ρ1 rk, ρ1[i]? with
    | some (.int j), some (some (_, .lst ds)) => if 0 ≤ j then (match ds[j.toNat]? with
      | some (.int a) => (bnd me fun re ρ2 => match deref ρ2 re, ρ2[i]? with
        | some (.int y), some (some (fl, .lst es)) => if fl.own = true ∧ j.toNat < es.length then .ok .nx (ρ2.set i (some (fl, .lst (es.set j.toNat (.int (a + y)))))) else .bad
        | _, _ => .bad) ρ1
      | _ => .bad) else .bad
    | _, _ => .bad) ρ
  | _ => .bad
section
variable {G : Gx} {O : List V} {E : XK} {k : Nat} {X : Cx} {gu : Bool}
def rGetL (K : PySem.W.Frag) : V → V → Hp → VK → Prop := fun x y H Q => ∃ p xs i z, x = .ref p ∧ y = .int i ∧ SqL K H p xs ∧ 0 ≤ i ∧ xs[i.toNat]? = some z ∧ Q z H
theorem get_list : PGet X (rGetL X.K) := by
  intro pins s σ H x y v u Q I rx ry h
  obtain ⟨p, xs, i, z, rfl, rfl, hq, h0, hz, q⟩ := h
  cases rx
  obtain ⟨t, rfl⟩ := ry
  obtain ⟨its, r, pl, hl⟩ := I.list hq
  obtain ⟨w, ew, rw'⟩ := r.get hz
  exact PySem.wpAny_getItem_list pl.isList h0 (by have := lt_of_get ew; have := r.length; rw [sizeLine_eq] at hl; omega) (by simpa using ew) ⟨z, H, I, rw', q⟩
theorem SS.augS {i : Nat} {x : Str} {kx ex : Expr} {mk me : M R} {px p2 pos : Pos} (cx : CxOk gu G E k X) (hk : SE G O E X kx mk) (he : SE G O E X ex me) (hN : X.N[i]? = some x := by rfl) (hv : Vis X.env.scope x := by first | exact Or.inl rfl | exact Or.inr (Or.inl rfl) | exact Or.inr (Or.inr rfl)) (hd : (x == ("__debug__" : Str)) = false := by decide) (hcd : (x == ("__classdict__" : Str)) = false := by decide)
    (ha : ∀ ov iv new, augStore kx ov iv new = (do holding [new, ov, iv] (setItem ov iv new); release [new, ov, iv] []; pure .next) := by intros; rfl) :
    SS G O E X (.AugAssign (.Subscript (.Name x px) kx p2) .Add ex pos) (sAugS i mk me) := by
  have hg := get_list (X := X)
  rw [cx.K] at hg
  refine PS.imp (ps_augS (pe_var hN hv hd hcd) hk hg he ip_add set_list ha) fun Dn σ H ⟨ρ, T, F, st, w⟩ => ?_
  unfold sAugS at w
  split at w
  · rename_i s0 e0
    obtain ⟨o, ho, _⟩ := st.sl.has i s0 e0
    refine ⟨o, ho, ?_⟩
    refine tE_s st w fun rk ρ1 v H1 F1 rv st1 w1 => ?_
    cases ej : deref ρ1 rk with
    | none => rw [ej] at w1; exact w1.elim
    | some dj =>
      rw [ej] at w1
      split at w1
      · rename_i j fl1 ds q1 q2
        cases q1
        split at w1
        · rename_i h0
          split at w1
          · rename_i a ea
            obtain ⟨o', h1, _, g1⟩ := st1.front q2
            rw [ho] at h1
            cases h1
            obtain ⟨p, vs, ep, hs, rp⟩ := g1.view (x := (o, fl1, .lst ds)) List.mem_cons_self
            dsimp only at ep
            subst ep
            obtain ⟨z, hz, rz⟩ := rp.get ea
            have vj := st1.gd.vw (st1.mem rv mem_temp ej)
            refine ⟨p, vs, j, z, rfl, vj, SqL.of hs, h0, hz, ?_⟩
            have ez : z = .int a := g1.viewR rz
            subst ez
            refine ⟨ρ1, temp rk v ++ T, F1, st1, ((Ps.bnd w1).imp fun re ρ2 w2 u H2 F2 ru st2 => ?_ : Wp G O E σ T (me ρ1) _).ext (T' := temp rk v) fun _ _ q => q⟩
            cases ey : deref ρ2 re with
            | none => rw [ey] at w2; exact w2.elim
            | some dy =>
              rw [ey] at w2
              split at w2
              · rename_i y fl es q3 q4
                cases q3
                split at w2
                · rename_i hh
                  have vy := st2.gd.vw (st2.mem ru mem_temp ey)
                  refine ⟨a, y, rfl, vy, ?_⟩
                  obtain ⟨o', h1, h2, g2⟩ := st2.front q4
                  rw [ho] at h1
                  cases h1
                  obtain ⟨p', ep, _, ws, hs2, rp2⟩ := g2.ownH (x := (.ref p, fl, .lst es)) hh.1
                  cases ep
                  have hj : ixN ws.length j = some j.toNat := by
                    unfold ixN
                    rw [if_pos h0, if_pos (by rw [rp2.length]; have := hh.2; omega)]
                  refine ⟨p, ws, j, j.toNat, rfl, vj, hs2, hj, ?_⟩
                  have g3 := g2.write (o := .lst (ws.set j.toNat (.int (a + y)))) (d' := .lst (es.set j.toNat (.int (a + y)))) hh.1 ⟨_, upd_same, rp2.set _ (.int _)⟩
                  have g4 := g3.sub (L' := (.ref p, fl, .lst (es.set j.toNat (.int (a + y)))) :: (live σ (ρ2.set i none) ++ T)) ((List.Sublist.append_left ((List.sublist_append_right _ _).trans (List.sublist_append_right _ _)) _).cons_cons _)
                  exact w2 σ _ F2 ⟨st2.sl.upd q4 fun p => p, g4.perm ((live_put' (s := (fl, .lst (es.set j.toNat (.int (a + y))))) ho (lt_of_get q4)).symm.append_right _)⟩
                · exact w2.elim
              · exact w2.elim
          · exact w1.elim
        · exact w1.elim
      · exact w1.elim
  · exact w.elim
end
end PP

set_option Elab.async false
set_option linter.all false
set_option maxRecDepth 100000
/-! Pure python, 31: sum of a list or a tuple. -/
namespace PP
open PySem PySem.Spec PyProof.Rows L2
section
variable {prog : Program} {w : World} {A : Around} {E : Value → Shared → Prop} {s : Shared} {l : Addr} {xs : Array (Int × Tok)}
theorem sum_intTup {Q : Value → Shared → Prop} (hh : A.handled = none) (hl : s.heap.IsTuple l (intItems xs))
    (h : ∀ h' tk t', (∀ b o, s.heap.get? b = some o → h'.get? b = some o) → Q (.int (preSum (numAt xs) xs.size) t') { s with heap := h', toks := tk }) :
    wpAny (model prog w) A (call (.builtin "sum") [.ref l]) Q E s := by
  have hlt : l < s.heap.objs.size := by obtain ⟨o, e, _⟩ := hl; exact Heap.lt_size e
  refine call_sum_walkG (wpAny_pyIter_tuple hl ?_)
  refine ⟨_, _, _, _, _, _, numAt xs, rfl, Walks.tuple (A := A.in1) hh s.heap.objs.size l (Nat.ne_of_lt hlt) (intItems xs), ⟨⟨_, Heap.get?_push_size _ rfl, rfl, rfl⟩, ?_⟩, (fun b hb => ?_), (fun _ _ => intItems_at), fun h' tk t' hk => ?_⟩
  · obtain ⟨o, e, r⟩ := hl
    exact ⟨o, Heap.get?_push_of_some _ e, r⟩
  · show b < (s.heap.push _).objs.size
    rw [Heap.size_push]
    rcases List.mem_cons.mp hb with rfl | hb
    · exact Nat.lt_succ_self _
    · have : b = l := by simpa using hb
      subst this
      exact Nat.lt_succ_of_lt hlt
  · have := h h' tk t' (fun b o e => hk b o (by
      have hb := Heap.lt_size e
      rw [List.mem_singleton]
      exact Nat.ne_of_lt hb) (Heap.get?_push_of_some _ e))
    simpa [intItems] using this
theorem sumT_raw {its : List Value} {ns : List Int} {Q : Value → Shared → Prop} (hh : A.handled = none) (hl : s.heap.IsTuple l its.toArray) (hi : IntsAre its ns)
    (h : ∀ h' tk t', (∀ b o, s.heap.get? b = some o → h'.get? b = some o) → Q (.int ns.sum t') { s with heap := h', toks := tk }) : wpAny (model prog w) A (call (.builtin "sum") [.ref l]) Q E s := by
  obtain ⟨xs, e⟩ := hi.allInts.items
  have hn : numsOf (intItems xs).toList = ns := by rw [← e]; exact hi.numsOf
  rw [nums_intItems] at hn
  rw [e] at hl
  refine sum_intTup hh hl fun h' tk t' hk => ?_
  have := h h' tk t' hk
  rw [preSum_eq, List.take_of_length_le (by simp), hn]; exact this
end
section
variable {G : Gx} {O : List V} {E : XK} {k : Nat} {X : Cx} {gu : Bool} {a : Expr} {pos p : Pos} {ma : M R}
def rSumG (K : PySem.W.Frag) : List V → Hp → VK → Prop := fun vs H Q => ∃ (a : Addr) (ns : List Int), vs = [V.ref a] ∧ (SqL K H a (ns.map V.int) ∨ SqT K H a (ns.map V.int)) ∧ Q (.int ns.sum) H
theorem cr_sumG (hc : X.calm = true) : CallR X (.builtin "sum") (rSumG X.K) := by
  intro pins s σ H vs us Q I r h
  obtain ⟨a, ns, rfl, hs, q⟩ := h
  rcases hs with hs | hs
  · exact cr_sum hc pins s σ H _ us Q I r ⟨a, ns, rfl, hs, q⟩
  · rw [Vals.ref1 r]
    obtain ⟨its, rv, hl, hz⟩ := I.tuple hs
    refine sumT_raw (its := its) (I.ok.hd hc) (show s.heap.IsTuple a its.toArray from hl) rv.ints fun h' tk t' hk => ?_
    exact ⟨.int ns.sum, H, I.kept (t' := tk) hk, ⟨_, rfl⟩, q⟩
def sumGD (x : D) : Option (Fl × D) := match seqOf x with
  | some ds => (intsOf ds).map fun is => (.sh, .int is.sum)
  | none => none
theorem SE.sumG (cx : CxOk gu G E k X) (hg : Gl X "sum") (hm : X.mg "sum" = none) (ha : SE G O E X a ma) (hs : PosOk a X := by rfl) (hpl : PosPl pos X := by rfl) : SE G O E X (.Call (.Name "sum" p) [a] [] pos) (mOp1 sumGD ma) := by
  have hr := cr_sumG (X := X) cx.calm
  rw [cx.K] at hr
  refine SE.b1 hr (fun H F L v x Q gd hv m => ?_) hg hm (by decide +kernel) ha hs hpl
  have fin : ∀ (a : Addr) (ns : List Int), v = V.ref a → (SqL G.K H a (ns.map V.int) ∨ SqT G.K H a (ns.map V.int)) → sumGD x = some (Fl.sh, .int ns.sum) → rSumG G.K [v] H Q := fun a ns ev hh e => by
    rw [e] at m
    exact ⟨a, ns, by rw [ev], hh, made_int gd m⟩
  cases x with
  | lst ds =>
    cases e : intsOf ds with
    | none => simp only [sumGD, seqOf, e, Option.map_none] at m; exact m.elim
    | some ns =>
      obtain ⟨a, vs, ev, hs, rp⟩ := gd.vw hv
      rw [ints_reps rp e fun v d r => gd.viewR r] at hs
      exact fin a ns ev (.inl (SqL.of hs)) (by simp only [sumGD, seqOf, e, Option.map_some])
  | tup ds =>
    cases e : intsOf ds with
    | none => simp only [sumGD, seqOf, e, Option.map_none] at m; exact m.elim
    | some ns =>
      obtain ⟨a, vs, ev, hs, rp⟩ := gd.vw hv
      rw [ints_reps rp e fun v d r => gd.viewR r] at hs
      exact fin a ns ev (.inr (SqT.of hs)) (by simp only [sumGD, seqOf, e, Option.map_some])
  | _ => simp only [sumGD, seqOf] at m; exact m.elim
end
end PP

set_option Elab.async false
set_option linter.all false
set_option maxRecDepth 100000
/-! The law K62: what its defs denote. -/
namespace K62
open PySem PySem.Spec PyProof.Rows L2 PP
def isSub (a b : Nat) : Bool := [(4, 4), (5, 4), (5, 5), (6, 4), (6, 6), (7, 4), (7, 7)].contains (a, b)
/-- is_integer(thing): 0 thing -/
def D_is_integer : M PP.Flow :=
    (sRet (mAndV (mOp1 (isiD .int) (mB 0)) (mNotV (mOp1 (isiD .bool) (mB 0)))))
def F_is_integer : FM := runF 1 1 D_is_integer
/-- is_within(thing, least, most): 0 thing, 1 least, 2 most -/
def D_is_within : M PP.Flow :=
    (sRet (mAndV (mCall F_is_integer (aVal (mV 0) aNil)) (mChain cLe cLe (mB 1) (mB 0) (mB 2))))
def F_is_within : FM := runF 3 3 D_is_within
/-- is_parts(thing): 0 thing, 1 one, 2 other -/
def D_is_parts : M PP.Flow :=
    (sSeq (sIf (mOr (mNot (mTru (mOp1 (isiD .tuple) (mB 0)))) (mTst (mOp2 gtI (mOp1 lenD (mB 0)) (mC (.int 60))))) (sRet (mC (.bl false))) sNil)
    (sSeq (sIf (mNot (mTru (mOp1 allD (mComp [1] (iSeq (mV 0)) (gV 1) cYes (mCall F_is_within (aVal (mV 1) (aVal (mC (.int 1)) (aVal (mC (.int 60)) aNil)))))))) (sRet (mC (.bl false))) sNil)
    (sRet (mAndV (mOp2 leI (mOp1 sumGD (mB 0)) (mC (.int 60))) (mOp1 allD (mComp [1, 2] (iZip (mV 0) (mSlice (mB 0) (some (mC (.int 1))) none)) (gT [(gV 1), (gV 2)]) cYes (mOp2 geI (mB 1) (mB 2))))))))
def F_is_parts : FM := runF 1 3 D_is_parts
/-- check_parts(parts): 0 parts -/
def D_check_parts : M PP.Flow :=
    (sIf (mNot (mTru (mCall F_is_parts (aVal (mV 0) aNil)))) (sRaise 6 mNil) sNil)
def F_check_parts : FM := runF 1 1 D_check_parts
/-- check_number(number): 0 number -/
def D_check_number : M PP.Flow :=
    (sIf (mNot (mTru (mCall F_is_within (aVal (mV 0) (aVal (mC (.int 0)) (aVal (mC (.int 60)) aNil)))))) (sRaise 5 mNil) sNil)
def F_check_number : FM := runF 1 1 D_check_number
/-- raw_with_most(number, most): 0 number, 1 most, 2 found, 3 part, 4 whole -/
def D_raw_with_most : M PP.Flow :=
    (sSeq (sSet 2 (mOp2 addD (mLst (mCons (mC (.int 1)) mNil)) (mOp2 repL (mLst (mCons (mC (.int 0)) mNil)) (mB 0))))
    (sSeq (sFor (iRg2 (mC (.int 1)) (mOp2 addD (mOp2 min2I (mB 1) (mB 0)) (mC (.int 1)))) (gV 3) (sFor (iRg2 (mB 3) (mOp2 addD (mB 0) (mC (.int 1)))) (gV 4) (sAugS 2 (mB 4) (mOp2 ixD (mB 2) (mOp2 subI (mB 4) (mB 3))))))
    (sRet (mOp2 ixD (mB 2) (mB 0)))))
def F_raw_with_most : FM := runF 2 5 D_raw_with_most
/-- parts_many(number): 0 number -/
def D_parts_many : M PP.Flow :=
    (sSeq (sExp (mCall F_check_number (aVal (mV 0) aNil)))
    (sRet (mCall F_raw_with_most (aVal (mV 0) (aVal (mV 0) aNil)))))
def F_parts_many : FM := runF 1 1 D_parts_many
/-- raw_next(parts): 0 parts, 1 row, 2 ones, 3 part, 4 left -/
def D_raw_next : M PP.Flow :=
    (sSeq (sSet 1 (mOp1 listD (mB 0)))
    (sSeq (sSet 2 (mC (.int 0)))
    (sSeq (sWhile 100000 (mAnd (mTst (mOp2 gtI (mOp1 lenD (mB 1)) (mC (.int 0)))) (mTst (mOp2 eqD (mOp2 ixD (mB 1) (mOp1 negI (mC (.int 1)))) (mC (.int 1))))) (sSeq (sExp (mMut 1 isLst mNil popD))
    (sSet 2 (mOp2 addD (mB 2) (mC (.int 1))))))
    (sSeq (sIf (mTst (mOp2 eqD (mOp1 lenD (mB 1)) (mC (.int 0)))) (sRet (mC .non)) sNil)
    (sSeq (sSet 3 (mOp2 subI (mMut 1 isLst mNil popD) (mC (.int 1))))
    (sSeq (sSet 4 (mOp2 addD (mB 2) (mC (.int 1))))
    (sSeq (sExp (mMut 1 isLst (mCons (mV 3) mNil) appendD))
    (sSeq (sWhile 100000 (mTst (mOp2 gtI (mB 4) (mC (.int 0)))) (sSeq (sExp (mMut 1 isLst (mCons (mOp2 min2I (mB 3) (mB 4)) mNil) appendD))
    (sSet 4 (mOp2 subI (mB 4) (mOp2 ixD (mB 1) (mOp1 negI (mC (.int 1))))))))
    (sRet (mOp1 tupleD (mB 1)))))))))))
def F_raw_next : FM := runF 1 5 D_raw_next
/-- all_parts(number): 0 number, 1 found, 2 here -/
def D_all_parts : M PP.Flow :=
    (sSeq (sIf (mNot (mTru (mCall F_is_within (aVal (mV 0) (aVal (mC (.int 0)) (aVal (mC (.int 12)) aNil)))))) (sRaise 5 mNil) sNil)
    (sSeq (sIf (mTst (mOp2 eqD (mB 0) (mC (.int 0)))) (sRet (mTup (mCons (mTup mNil) mNil))) sNil)
    (sSeq (sPar [1, 2] [(mLst mNil), (mTup (mCons (mV 0) mNil))])
    (sSeq (sWhile 100000 (mTst (mOp2 notD (mB 2) (mC .non))) (sSeq (sExp (mMut 1 isLst (mCons (mV 2) mNil) appendD))
    (sSet 2 (mCall F_raw_next (aVal (mV 2) aNil)))))
    (sRet (mOp1 tupleD (mB 1)))))))
def F_all_parts : FM := runF 1 3 D_all_parts
/-- parts_at(number, place): 0 number, 1 place, 2 found, 3 left, 4 rest, 5 most, 6 part -/
def D_parts_at : M PP.Flow :=
    (sSeq (sExp (mCall F_check_number (aVal (mV 0) aNil)))
    (sSeq (sIf (mNot (mTru (mCall F_is_within (aVal (mV 1) (aVal (mC (.int 0)) (aVal (mOp2 subI (mCall F_raw_with_most (aVal (mV 0) (aVal (mV 0) aNil))) (mC (.int 1))) aNil)))))) (sRaise 7 mNil) sNil)
    (sSeq (sPar [2, 3, 4, 5] [(mLst mNil), (mV 1), (mV 0), (mV 0)])
    (sSeq (sWhile 100000 (mTst (mOp2 gtI (mB 4) (mC (.int 0)))) (sSeq (sSet 6 (mOp2 min2I (mB 5) (mB 4)))
    (sSeq (sWhile 100000 (mTst (mOp2 geI (mB 3) (mCall F_raw_with_most (aVal (mOp2 subI (mB 4) (mB 6)) (aVal (mV 6) aNil))))) (sSeq (sSet 3 (mOp2 subI (mB 3) (mCall F_raw_with_most (aVal (mOp2 subI (mB 4) (mB 6)) (aVal (mV 6) aNil)))))
    (sSet 6 (mOp2 subI (mB 6) (mC (.int 1))))))
    (sSeq (sExp (mMut 2 isLst (mCons (mV 6) mNil) appendD))
    (sPar [4, 5] [(mOp2 subI (mB 4) (mB 6)), (mV 6)])))))
    (sRet (mOp1 tupleD (mB 2)))))))
def F_parts_at : FM := runF 2 7 D_parts_at
/-- parts_place(parts): 0 parts, 1 rest, 2 found, 3 most, 4 part, 5 greater, 6 one -/
def D_parts_place : M PP.Flow :=
    (sSeq (sExp (mCall F_check_parts (aVal (mV 0) aNil)))
    (sSeq (sSet 1 (mOp1 sumGD (mB 0)))
    (sSeq (sPar [2, 3] [(mC (.int 0)), (mV 1)])
    (sSeq (sFor (iSeq (mV 0)) (gV 4) (sSeq (sSet 5 (mListRg (mRng (mOp2 addD (mB 4) (mC (.int 1))) (mOp2 addD (mOp2 min2I (mB 3) (mB 1)) (mC (.int 1))))))
    (sSeq (sSet 2 (mOp2 addD (mB 2) (mOp1 sumD (mComp [6] (iSeq (mV 5)) (gV 6) cYes (mCall F_raw_with_most (aVal (mOp2 subI (mB 1) (mB 6)) (aVal (mV 6) aNil)))))))
    (sPar [1, 3] [(mOp2 subI (mB 1) (mB 4)), (mV 4)]))))
    (sRetV 2)))))
def F_parts_place : FM := runF 1 7 D_parts_place
/-- raw_turned(parts): 0 parts, 1 most, 2 part, 3 size -/
def D_raw_turned : M PP.Flow :=
    (sSeq (sSet 1 (mIf (mTst (mOp2 gtI (mOp1 lenD (mB 0)) (mC (.int 0)))) (mOp2 ixD (mB 0) (mC (.int 0))) (mC (.int 0))))
    (sRet (mOp1 tupleD (mComp [3] (iRg2 (mC (.int 1)) (mOp2 addD (mB 1) (mC (.int 1)))) (gV 3) cYes (mOp1 lenD (mComp [2] (iSeq (mV 0)) (gV 2) (mTst (mOp2 geI (mB 2) (mB 3))) (mV 2)))))))
def F_raw_turned : FM := runF 1 4 D_raw_turned
/-- turned_parts(parts): 0 parts -/
def D_turned_parts : M PP.Flow :=
    (sSeq (sExp (mCall F_check_parts (aVal (mV 0) aNil)))
    (sRet (mCall F_raw_turned (aVal (mV 0) aNil))))
def F_turned_parts : FM := runF 1 1 D_turned_parts
/-- square_in(parts): 0 parts, 1 at, 2 part -/
def D_square_in : M PP.Flow :=
    (sSeq (sExp (mCall F_check_parts (aVal (mV 0) aNil)))
    (sRet (mOp1 lenD (mComp [1, 2] (iEnumG (mV 0)) (gT [(gV 1), (gV 2)]) (mTst (mOp2 geI (mB 2) (mOp2 addD (mB 1) (mC (.int 1))))) (mC (.int 1))))))
def F_square_in : FM := runF 1 3 D_square_in
/-- own_turned(parts): 0 parts -/
def D_own_turned : M PP.Flow :=
    (sSeq (sExp (mCall F_check_parts (aVal (mV 0) aNil)))
    (sRet (mOp2 eqD (mCall F_raw_turned (aVal (mV 0) aNil)) (mB 0))))
def F_own_turned : FM := runF 1 1 D_own_turned
/-- next_parts(parts): 0 parts -/
def D_next_parts : M PP.Flow :=
    (sSeq (sExp (mCall F_check_parts (aVal (mV 0) aNil)))
    (sRet (mCall F_raw_next (aVal (mV 0) aNil))))
def F_next_parts : FM := runF 1 1 D_next_parts
/-- hooks(parts): 0 parts, 1 down, 2 rows, 3 at, 4 part, 5 place -/
def D_hooks : M PP.Flow :=
    (sSeq (sExp (mCall F_check_parts (aVal (mV 0) aNil)))
    (sSeq (sSet 1 (mCall F_raw_turned (aVal (mV 0) aNil)))
    (sSeq (sSet 2 (mLst mNil))
    (sSeq (sFor (iEnumG (mV 0)) (gT [(gV 3), (gV 4)]) (sExp (mMut 2 isLst (mCons (mOp1 tupleD (mComp [5] (iRg1 (mB 4)) (gV 5) cYes (mOp2 subI (mOp2 subI (mOp2 addD (mOp2 subI (mB 4) (mB 5)) (mOp2 ixD (mB 1) (mB 5))) (mB 3)) (mC (.int 1))))) mNil) appendD)))
    (sRet (mOp1 tupleD (mB 2)))))))
def F_hooks : FM := runF 1 6 D_hooks
/-- _law_tape(script): 0 script, 1 cells, 2 cell -/
def D__law_tape : M PP.Flow :=
    (sSeq (sSet 1 (mComp [2] (iSeq (mSlice (mB 0) none (some (mC (.int 63))))) (gV 2) cYes (mOp1 absI (mOp1 intD (mB 2)))))
    (sRet (mLst (mCons (mV 1) (mCons (mC (.int 0)) (mCons (mC (.int 0)) (mCons (mOp2 addD (mC (.int 31)) (mOp1 lenD (mB 1))) (mCons (mC (.int 0)) mNil))))))))
def F__law_tape : FM := runF 1 3 D__law_tape
/-- _law_pick(tape, many): 0 tape, 1 many, 2 cell, 3 digit, 4 number -/
def D__law_pick : M PP.Flow :=
    (sSeq (sIf (mAnd (mTst (mOp2 eqD (mOp2 ixD (mB 0) (mC (.int 2))) (mC (.int 0)))) (mTst (mOp2 ltI (mOp2 ixD (mB 0) (mC (.int 1))) (mOp1 lenD (mOp2 ixD (mB 0) (mC (.int 0))))))) (sSeq (sSet 2 (mOp2 ixD (mOp2 ixD (mB 0) (mC (.int 0))) (mOp2 ixD (mB 0) (mC (.int 1)))))
    (sSeq (sPut 0 (mOp2 addD (mOp2 ixD (mB 0) (mC (.int 1))) (mC (.int 1))) (mC (.int 1)) putList)
    (sSeq (sPut 0 (mOp2 modI (mOp1 intD (mOp2 addD (mOp2 addD (mOp2 mulI (mOp2 ixD (mB 0) (mC (.int 3))) (mC (.int 69621))) (mB 2)) (mC (.int 11)))) (mC (.int 2147483629))) (mC (.int 3)) putList)
    (sIf (mTst (mOp2 geI (mB 2) (mOp2 powI (mC (.int 10)) (mC (.int 18))))) (sPut 0 (mV 2) (mC (.int 2)) putList) sNil)))) sNil)
    (sSeq (sIf (mTst (mOp2 gtI (mOp2 ixD (mB 0) (mC (.int 2))) (mC (.int 0)))) (sSeq (sSet 3 (mOp2 modI (mOp1 intD (mOp2 ixD (mB 0) (mC (.int 2)))) (mB 1)))
    (sSeq (sPut 0 (mOp2 fdivI (mOp2 ixD (mB 0) (mC (.int 2))) (mB 1)) (mC (.int 2)) putList)
    (sRetV 3))) sNil)
    (sSeq (sPut 0 (mOp2 addD (mOp2 ixD (mB 0) (mC (.int 4))) (mC (.int 1))) (mC (.int 4)) putList)
    (sSeq (sSet 4 (mOp2 modI (mOp1 intD (mOp2 mulI (mOp1 intD (mOp2 addD (mOp2 ixD (mB 0) (mC (.int 3))) (mOp2 mulI (mC (.int 7919)) (mOp2 ixD (mB 0) (mC (.int 4)))))) (mC (.int 48271)))) (mC (.int 2147483647))))
    (sSeq (sSet 4 (mOp2 modI (mOp1 intD (mOp2 mulI (mB 4) (mOp2 addD (mOp2 fdivI (mB 4) (mC (.int 1009))) (mC (.int 69621))))) (mC (.int 2147483647))))
    (sSeq (sSet 4 (mOp2 modI (mOp1 intD (mOp2 mulI (mB 4) (mOp2 addD (mOp2 fdivI (mB 4) (mC (.int 2003))) (mC (.int 40692))))) (mC (.int 2147483399))))
    (sRet (mOp2 modI (mOp1 intD (mOp2 fdivI (mB 4) (mC (.int 16)))) (mB 1)))))))))
def F__law_pick : FM := runF 2 5 D__law_pick
/-- _law_any(tape, things): 0 tape, 1 things -/
def D__law_any : M PP.Flow :=
    (sRet (mOp2 ixD (mB 1) (mCall F__law_pick (aLend 0 (aVal (mOp1 lenD (mB 1)) aNil)))))
def F__law_any : FM := runF 2 2 D__law_any
/-- _law_deep(tape): 0 tape, 1 thing, 2 step -/
def D__law_deep : M PP.Flow :=
    (sSeq (sSet 1 (mCall F__law_any (aLend 0 (aVal (mLst (mCons (mC .non) (mCons (mC (.str "?")) (mCons (mNewK) mNil)))) aNil))))
    (sSeq (sFor (iRg1 (mCall F__law_any (aLend 0 (aVal (mLst (mCons (mC (.int 6)) (mCons (mC (.int 9)) (mCons (mC (.int 30)) mNil)))) aNil)))) (gV 2) (sSet 1 (mCall F__law_any (aLend 0 (aVal (mLst (mCons (mTup (mCons (mV 1) mNil)) (mCons (mLst (mCons (mV 1) mNil)) mNil))) aNil)))))
    (sRetV 1)))
def F__law_deep : FM := runF 1 3 D__law_deep
/-- _law_all(number, most): 0 number, 1 most, 2 found, 3 waiting, 4 row, 5 left, 6 top, 7 part -/
def D__law_all : M PP.Flow :=
    (sSeq (sPar [2, 3] [(mLst mNil), (mLst (mCons (mTup (mCons (mTup mNil) (mCons (mV 0) (mCons (mV 1) mNil)))) mNil))])
    (sSeq (sWhile 100000 (mTst (mOp2 gtI (mOp1 lenD (mB 3)) (mC (.int 0)))) (sSeq (sAsg (mMut 3 isLst mNil popD) (gT [(gV 4), (gV 5), (gV 6)]))
    (sIf (mTst (mOp2 eqD (mB 5) (mC (.int 0)))) (sExp (mMut 2 isLst (mCons (mV 4) mNil) appendD)) (sExp (mMut 3 isLst (mCons (mComp [7] (iRg2 (mC (.int 1)) (mOp2 addD (mOp2 min2I (mB 5) (mB 6)) (mC (.int 1)))) (gV 7) cYes (mTup (mCons (mOp2 addD (mB 4) (mTup (mCons (mV 7) mNil))) (mCons (mOp2 subI (mB 5) (mB 7)) (mCons (mV 7) mNil))))) mNil) extendD)))))
    (sRetV 2)))
def F__law_all : FM := runF 2 8 D__law_all
/-- _law_table(most): 0 most, 1 found, 2 n, 3 row, 4 k -/
def D__law_table : M PP.Flow :=
    (sSeq (sSet 1 (mLst (mCons (mOp2 repL (mLst (mCons (mC (.int 1)) mNil)) (mOp2 addD (mB 0) (mC (.int 1)))) mNil)))
    (sSeq (sFor (iRg2 (mC (.int 1)) (mOp2 addD (mB 0) (mC (.int 1)))) (gV 2) (sSeq (sSet 3 (mLst (mCons (mC (.int 0)) mNil)))
    (sSeq (sFor (iRg2 (mC (.int 1)) (mOp2 addD (mB 0) (mC (.int 1)))) (gV 4) (sExp (mMut 3 isLst (mCons (mOp2 addD (mOp2 ixD (mB 3) (mOp1 negI (mC (.int 1)))) (mIf (mTst (mOp2 leI (mB 4) (mB 2))) (mOp2 ixD (mOp2 ixD (mB 1) (mOp2 subI (mB 2) (mB 4))) (mOp2 min2I (mB 4) (mOp2 subI (mB 2) (mB 4)))) (mC (.int 0)))) mNil) appendD)))
    (sExp (mMut 1 isLst (mCons (mV 3) mNil) appendD)))))
    (sRetV 1)))
def F__law_table : FM := runF 1 5 D__law_table
/-- _law_parts(tape, most): 0 tape, 1 most, 2 left, 3 found, 4 wide, 5 step, 6 part -/
def D__law_parts : M PP.Flow :=
    (sSeq (sPar [2, 3] [(mOp2 addD (mC (.int 1)) (mCall F__law_pick (aLend 0 (aVal (mV 1) aNil)))), (mLst mNil)])
    (sSeq (sSet 4 (mCall F__law_any (aLend 0 (aVal (mLst (mCons (mC (.int 2)) (mCons (mC (.int 4)) (mCons (mC (.int 9)) (mCons (mC (.int 60)) mNil))))) aNil))))
    (sSeq (sFor (iRg1 (mB 1)) (gV 5) (sIf (mTst (mOp2 gtI (mB 2) (mC (.int 0)))) (sSeq (sSet 6 (mOp2 addD (mC (.int 1)) (mCall F__law_pick (aLend 0 (aVal (mOp2 min2I (mB 2) (mB 4)) aNil)))))
    (sSeq (sExp (mMut 3 isLst (mCons (mV 6) mNil) appendD))
    (sSet 2 (mOp2 subI (mB 2) (mB 6))))) sNil))
    (sRet (mOp1 tupleD (mOp1 revD (mOp1 sortedAD (mB 3))))))))
def F__law_parts : FM := runF 2 7 D__law_parts
/-- _law_turned(parts): 0 parts, 1 part, 2 size -/
def D__law_turned : M PP.Flow :=
    (sRet (mOp1 tupleD (mComp [2] (iRg2 (mC (.int 1)) (mOp2 addD (mOp2 ixD (mB 0) (mC (.int 0))) (mC (.int 1)))) (gV 2) cYes (mOp1 lenD (mComp [1] (iSeq (mV 0)) (gV 1) (mTst (mOp2 geI (mB 1) (mB 2))) (mC (.int 1)))))))
def F__law_turned : FM := runF 1 3 D__law_turned
/-- _law_no_parts(tape): 0 tape, 1 some -/
def D__law_no_parts : M PP.Flow :=
    (sSeq (sSet 1 (mLst (mCons (mC .non) (mCons (mLst (mCons (mC (.int 1)) mNil)) (mCons (mTup (mCons (mC (.int 0)) mNil)) (mCons (mTup (mCons (mC (.int 1)) (mCons (mC (.int 2)) mNil))) (mCons (mTup (mCons (mOp1 negI (mC (.int 1))) mNil)) (mCons (mTup (mCons (mC (.bl true)) mNil)) (mCons (mTup (mCons (mC (.str "1")) mNil)) (mCons (mTup (mCons (mC (.int 61)) mNil)) (mCons (mOp2 repTA (mTup (mCons (mC (.int 1)) mNil)) (mC (.int 61))) (mCons (mTup (mCons (mC (.int 2)) (mCons (mC (.int 0)) mNil))) (mCons (mC (.int 0)) (mCons (mNewK) (mCons (mTup (mCons (mC .non) mNil)) (mCons (mC (.str "parts")) mNil))))))))))))))))
    (sSeq (sExp (mMut 1 isLst (mCons (mTup (mCons (mTup (mCons (mC (.int 1)) mNil)) mNil)) mNil) appendD))
    (sRet (mCall F__law_any (aLendL 0 (aVal (mOp2 addD (mB 1) (mLst (mCons (mCall F__law_deep (aLend 0 aNil)) mNil))) aNil))))))
def F__law_no_parts : FM := runF 1 2 D__law_no_parts
/-- _law_no_number(tape): 0 tape -/
def D__law_no_number : M PP.Flow :=
    (sRet (mCall F__law_any (aLendL 0 (aVal (mLst (mCons (mOp1 negI (mC (.int 1))) (mCons (mC (.int 61)) (mCons (mC .non) (mCons (mC (.bl true)) (mCons (mC (.str "1")) (mCons (mTup (mCons (mC (.int 1)) mNil)) (mCons (mLst mNil) (mCons (mNewK) (mCons (mCall F__law_deep (aLend 0 aNil)) mNil)))))))))) aNil))))
def F__law_no_number : FM := runF 1 1 D__law_no_number
/-- _law_word: the suite for an error of the class cl -/
def HB__law_word (cl : Nat) : M PP.Flow :=
    (sSeq (sSet 3 (mLst (mCons (mIsE 2 (isSub cl 5)) (mCons (mIsE 2 (isSub cl 6)) (mCons (mIsE 2 (isSub cl 7)) mNil)))))
    (sSeq (sSet 4 (mLst (mCons (mC (.str "number")) (mCons (mC (.str "parts")) (mCons (mC (.str "place")) mNil)))))
    (sSet 1 (mIf (mAnd (mTst (mOp2 eqD (mMet isLst countD (mB 3) (mC (.bl true))) (mC (.int 1)))) (mTru (mIsE 2 true))) (mOp2 ixD (mB 4) (mMet isLst indexD (mB 3) (mC (.bl true)))) (mC (.str "other"))))))
def H__law_word (cl : Nat) (p : Option D) : M PP.Flow := if p.isNone && [5, 6, 7].contains cl then HB__law_word cl else fun _ => .bad
def say__law_word : Did → Option (Fl × D) := saySet 5 2 1 "let" H__law_word
/-- _law_next(parts): 0 parts, 1 ones, 2 part, 3 at, 4 size, 5 left, 6 found, 7 step -/
def D__law_next : M PP.Flow :=
    (sSeq (sSet 1 (mOp1 lenD (mComp [2] (iSeq (mV 0)) (gV 2) (mTst (mOp2 eqD (mB 2) (mC (.int 1)))) (mC (.int 1)))))
    (sSeq (sIf (mTst (mOp2 eqD (mB 1) (mOp1 lenD (mB 0)))) (sRet (mC .non)) sNil)
    (sSeq (sSet 3 (mOp2 subI (mOp2 subI (mOp1 lenD (mB 0)) (mB 1)) (mC (.int 1))))
    (sSeq (sPar [4, 5] [(mOp2 subI (mOp2 ixD (mB 0) (mB 3)) (mC (.int 1))), (mOp2 addD (mB 1) (mOp2 ixD (mB 0) (mB 3)))])
    (sSeq (sSet 6 (mSlice (mB 0) none (some (mB 3))))
    (sSeq (sFor (iRg1 (mC (.int 61))) (gV 7) (sIf (mTst (mOp2 gtI (mB 5) (mC (.int 0)))) (sPar [6, 5] [(mOp2 addD (mB 6) (mTup (mCons (mOp2 min2I (mB 4) (mB 5)) mNil))), (mOp2 subI (mB 5) (mOp2 min2I (mB 4) (mB 5)))]) sNil))
    (sRetV 6)))))))
def F__law_next : FM := runF 1 8 D__law_next
/-- _law_place(parts, table): 0 parts, 1 table, 2 found, 3 left, 4 top, 5 part -/
def D__law_place : M PP.Flow :=
    (sSeq (sPar [2, 3, 4] [(mC (.int 0)), (mOp1 sumGD (mB 0)), (mOp1 sumGD (mB 0))])
    (sSeq (sFor (iSeq (mV 0)) (gV 5) (sSeq (sSet 2 (mOp2 subI (mOp2 addD (mB 2) (mOp2 ixD (mOp2 ixD (mB 1) (mB 3)) (mOp2 min2I (mB 4) (mB 3)))) (mOp2 ixD (mOp2 ixD (mB 1) (mB 3)) (mOp2 min2I (mB 5) (mB 3)))))
    (sPar [3, 4] [(mOp2 subI (mB 3) (mB 5)), (mV 5)])))
    (sRetV 2)))
def F__law_place : FM := runF 2 6 D__law_place
/-- _law_hooks(parts): 0 parts, 1 turned_row, 2 found, 3 row, 4 part, 5 column -/
def D__law_hooks : M PP.Flow :=
    (sSeq (sSet 1 (mCall F__law_turned (aVal (mV 0) aNil)))
    (sSeq (sSet 2 (mLst mNil))
    (sSeq (sFor (iEnumG (mV 0)) (gT [(gV 3), (gV 4)]) (sExp (mMut 2 isLst (mCons (mOp1 tupleD (mComp [5] (iRg1 (mB 4)) (gV 5) cYes (mOp2 subI (mOp2 subI (mOp2 addD (mOp2 subI (mB 4) (mB 5)) (mOp2 ixD (mB 1) (mB 5))) (mB 3)) (mC (.int 1))))) mNil) appendD)))
    (sRet (mOp1 tupleD (mB 2))))))
def F__law_hooks : FM := runF 1 6 D__law_hooks
/-- _law_is_right(tape): 0 tape, 1 table, 2 number, 3 few, 4 row, 5 parts, 6 whole, 7 place, 8 later_one, 9 turned_row, 10 square, 11 size, 12 part -/
def D__law_is_right : M PP.Flow :=
    (sSeq (sSet 1 (mCall F__law_table (aVal (mC (.int 60)) aNil)))
    (sSeq (sPar [2, 3] [(mCall F__law_pick (aLend 0 (aVal (mC (.int 61)) aNil))), (mCall F__law_pick (aLend 0 (aVal (mC (.int 13)) aNil)))])
    (sSeq (sIf (mTst (mOp2 neD (mOp1 reprD (mCall F_parts_many (aVal (mV 2) aNil))) (mOp1 reprD (mOp2 ixD (mOp2 ixD (mB 1) (mB 2)) (mB 2))))) (sRet (mC (.bl false))) sNil)
    (sSeq (sIf (mTst (mOp2 neD (mOp1 reprD (mComp [4] (iSeq (mCall F_all_parts (aVal (mV 3) aNil))) (gV 4) cYes (mOp1 tupleD (mB 4)))) (mOp1 reprD (mCall F__law_all (aVal (mV 3) (aVal (mV 3) aNil)))))) (sRet (mC (.bl false))) sNil)
    (sSeq (sSet 5 (mCall F__law_parts (aLend 0 (aVal (mC (.int 30)) aNil))))
    (sSeq (sPar [6, 7] [(mOp1 sumGD (mB 5)), (mCall F__law_place (aVal (mV 5) (aVal (mV 1) aNil)))])
    (sSeq (sIf (mOr (mTst (mOp2 neD (mOp1 reprD (mCall F_parts_place (aVal (mV 5) aNil))) (mOp1 reprD (mB 7)))) (mTst (mOp2 neD (mOp1 reprD (mCall F_parts_at (aVal (mV 6) (aVal (mV 7) aNil)))) (mOp1 reprD (mB 5))))) (sRet (mC (.bl false))) sNil)
    (sSeq (sSet 8 (mCall F__law_next (aVal (mV 5) aNil)))
    (sSeq (sIf (mTst (mOp2 neD (mOp1 reprD (mCall F_next_parts (aVal (mV 5) aNil))) (mOp1 reprD (mB 8)))) (sRet (mC (.bl false))) sNil)
    (sSeq (sIf (mAnd (mTst (mOp2 notD (mB 8) (mC .non))) (mTst (mOp2 neD (mOp1 reprD (mCall F_parts_at (aVal (mV 6) (aVal (mOp2 addD (mB 7) (mC (.int 1))) aNil)))) (mOp1 reprD (mB 8))))) (sRet (mC (.bl false))) sNil)
    (sSeq (sSet 9 (mCall F__law_turned (aVal (mV 5) aNil)))
    (sSeq (sIf (mTst (mOp2 neD (mOp1 reprD (mLst (mCons (mCall F_turned_parts (aVal (mV 5) aNil)) (mCons (mCall F_turned_parts (aVal (mV 9) aNil)) mNil)))) (mOp1 reprD (mLst (mCons (mV 9) (mCons (mV 5) mNil)))))) (sRet (mC (.bl false))) sNil)
    (sSeq (sIf (mTst (mOp2 neD (mOp1 reprD (mCall F_own_turned (aVal (mV 5) aNil))) (mOp1 reprD (mOp2 eqD (mB 5) (mB 9))))) (sRet (mC (.bl false))) sNil)
    (sSeq (sSet 10 (mOp1 maxD (mComp [11] (iRg1 (mOp2 addD (mOp1 lenD (mB 5)) (mC (.int 1)))) (gV 11) (mTst (mOp2 geI (mOp1 lenD (mComp [12] (iSeq (mV 5)) (gV 12) (mTst (mOp2 geI (mB 12) (mB 11))) (mC (.int 1)))) (mB 11))) (mV 11))))
    (sSeq (sIf (mTst (mOp2 neD (mOp1 reprD (mLst (mCons (mCall F_square_in (aVal (mV 5) aNil)) (mCons (mCall F_square_in (aVal (mV 9) aNil)) mNil)))) (mOp1 reprD (mLst (mCons (mV 10) (mCons (mV 10) mNil)))))) (sRet (mC (.bl false))) sNil)
    (sRet (mOp2 eqD (mOp1 reprD (mOp1 tupleD (mComp [4] (iSeq (mCall F_hooks (aVal (mV 5) aNil))) (gV 4) cYes (mOp1 tupleD (mB 4))))) (mOp1 reprD (mCall F__law_hooks (aVal (mV 5) aNil))))))))))))))))))))
def F__law_is_right : FM := runF 1 13 D__law_is_right
/-- _law_word_of(asked_one, thing): 0 asked_one, 1 thing -/
def D__law_word_of : M PP.Flow :=
    (sRet (mSaid say__law_word (mCallV 0 [(20, F_parts_place), (22, F_turned_parts), (23, F_square_in), (24, F_own_turned), (25, F_next_parts), (26, F_hooks), (18, F_all_parts), (16, F_parts_many)] (aVal (mV 1) aNil))))
def F__law_word_of : FM := runF 2 2 D__law_word_of
/-- _law_is_refused(tape): 0 tape, 1 none, 2 bad, 3 words, 4 asked_one, 5 odd -/
def D__law_is_refused : M PP.Flow :=
    (sSeq (sPar [1, 2, 3] [(mCall F__law_no_parts (aLend 0 aNil)), (mCall F__law_no_number (aLend 0 aNil)), (mLst mNil)])
    (sSeq (sFor (iSeq (mTup (mCons (mC (.fn 20)) (mCons (mC (.fn 22)) (mCons (mC (.fn 23)) (mCons (mC (.fn 24)) (mCons (mC (.fn 25)) (mCons (mC (.fn 26)) mNil)))))))) (gV 4) (sExp (mMut 3 isLst (mCons (mCall F__law_word_of (aVal (mV 4) (aVal (mV 1) aNil))) mNil) appendD)))
    (sSeq (sSet 3 (mOp2 addD (mB 3) (mLst (mCons (mCall F__law_word_of (aVal (mC (.fn 16)) (aVal (mV 2) aNil))) mNil))))
    (sSeq (sExp (mMut 3 isLst (mCons (mCall F__law_word_of (aVal (mC (.fn 18)) (aVal (mCall F__law_any (aLend 0 (aVal (mLst (mCons (mC (.int 13)) (mCons (mOp1 negI (mC (.int 1))) (mCons (mC .non) (mCons (mC (.bl true)) (mCons (mC (.str "1")) mNil)))))) aNil))) aNil))) mNil) appendD))
    (sSeq (sSet 5 (mCall F__law_any (aLendL 0 (aVal (mLst (mCons (mC (.int 5)) (mCons (mOp1 negI (mC (.int 1))) (mCons (mC .non) (mCons (mC (.bl true)) (mCons (mC (.str "1")) (mCons (mTup (mCons (mC (.int 1)) mNil)) (mCons (mLst mNil) (mCons (mCall F__law_deep (aLend 0 aNil)) mNil))))))))) aNil))))
    (sSeq (sExp (mMut 3 isLst (mCons (mSaidF say__law_word F_parts_at (aVal (mV 2) (aVal (mV 5) aNil))) mNil) appendD))
    (sSeq (sExp (mMut 3 isLst (mCons (mSaidF say__law_word F_parts_at (aVal (mC (.int 4)) (aVal (mV 5) aNil))) mNil) appendD))
    (sRet (mOp2 eqD (mB 3) (mOp2 addD (mOp2 addD (mOp2 repL (mLst (mCons (mC (.str "parts")) mNil)) (mC (.int 6))) (mOp2 repL (mLst (mCons (mC (.str "number")) mNil)) (mC (.int 3)))) (mLst (mCons (mC (.str "place")) mNil))))))))))))
def F__law_is_refused : FM := runF 1 6 D__law_is_refused
/-- law(script): 0 script, 1 tape, 2 said, 3 row, 4 step -/
def D_law : M PP.Flow :=
    (sSeq (sSet 1 (mCall F__law_tape (aVal (mV 0) aNil)))
    (sSeq (sSet 2 (mLst (mCons (mCall F_parts_many (aVal (mC (.int 0)) aNil)) (mCons (mCall F_parts_many (aVal (mC (.int 10)) aNil)) (mCons (mCall F_parts_many (aVal (mC (.int 60)) aNil)) (mCons (mCall F_parts_at (aVal (mC (.int 4)) (aVal (mC (.int 2)) aNil))) (mCons (mCall F_parts_place (aVal (mTup (mCons (mC (.int 2)) (mCons (mC (.int 1)) (mCons (mC (.int 1)) mNil)))) aNil)) mNil)))))))
    (sSeq (sSet 2 (mOp2 addD (mB 2) (mLst (mCons (mCall F_turned_parts (aVal (mTup (mCons (mC (.int 4)) (mCons (mC (.int 1)) mNil))) aNil)) (mCons (mCall F_square_in (aVal (mTup (mCons (mC (.int 3)) (mCons (mC (.int 2)) (mCons (mC (.int 2)) mNil)))) aNil)) mNil)))))
    (sSeq (sIf (mOr (mTst (mOp2 neD (mB 2) (mLst (mCons (mC (.int 1)) (mCons (mC (.int 42)) (mCons (mC (.int 966467)) (mCons (mTup (mCons (mC (.int 2)) (mCons (mC (.int 2)) mNil))) (mCons (mC (.int 3)) (mCons (mTup (mCons (mC (.int 2)) (mCons (mC (.int 1)) (mCons (mC (.int 1)) (mCons (mC (.int 1)) mNil))))) (mCons (mC (.int 2)) mNil)))))))))) (mTst (mOp2 neD (mCall F_next_parts (aVal (mTup (mCons (mC (.int 3)) (mCons (mC (.int 1)) (mCons (mC (.int 1)) mNil)))) aNil)) (mTup (mCons (mC (.int 2)) (mCons (mC (.int 2)) (mCons (mC (.int 1)) mNil))))))) (sRet (mC (.bl false))) sNil)
    (sSeq (sIf (mTst (mOp2 notD (mCall F_next_parts (aVal (mTup (mCons (mC (.int 1)) (mCons (mC (.int 1)) mNil))) aNil)) (mC .non))) (sRet (mC (.bl false))) sNil)
    (sSeq (sIf (mTst (mOp2 neD (mOp1 tupleD (mComp [3] (iSeq (mCall F_hooks (aVal (mTup (mCons (mC (.int 3)) (mCons (mC (.int 1)) mNil))) aNil))) (gV 3) cYes (mOp1 tupleD (mB 3)))) (mTup (mCons (mTup (mCons (mC (.int 4)) (mCons (mC (.int 2)) (mCons (mC (.int 1)) mNil)))) (mCons (mTup (mCons (mC (.int 1)) mNil)) mNil))))) (sRet (mC (.bl false))) sNil)
    (sSeq (sIf (mTst (mOp2 notD (mCall F_own_turned (aVal (mTup (mCons (mC (.int 2)) (mCons (mC (.int 1)) mNil))) aNil)) (mC (.bl true)))) (sRet (mC (.bl false))) sNil)
    (sSeq (sFor (iRg1 (mC (.int 5))) (gV 4) (sIf (mOr (mNot (mTru (mCall F__law_is_right (aLend 1 aNil)))) (mNot (mTru (mCall F__law_is_refused (aLend 1 aNil))))) (sRet (mC (.bl false))) sNil))
    (sRet (mC (.bl true)))))))))))
def F_law : FM := runF 1 5 D_law
end K62

set_option Elab.async false
set_option linter.all false
set_option maxRecDepth 100000
set_option maxHeartbeats 4000000
/-! The law K62: the walk. -/
namespace K62
open PySem PySem.Spec PyProof.Rows L2 PP
def topS (i : Nat) : Stmt := PySem.Challenge.pw_coverallrows_k62_whole_parts_in_their_ro.main.body.getD i (.Pass ⟨0, 0, 0, 0⟩)
abbrev s1 : Stmt := topS 1
abbrev N1 : List Str := ["thing"]
theorem sc1 : FnScope N1 ["thing"] (defScope s1) := ⟨rfl, rfl, rfl, by decide +kernel, rfl, by decide +kernel, by decide +kernel⟩
abbrev s2 : Stmt := topS 2
abbrev N2 : List Str := ["thing", "least", "most"]
theorem sc2 : FnScope N2 ["thing", "least", "most"] (defScope s2) := ⟨rfl, rfl, rfl, by decide +kernel, rfl, by decide +kernel, by decide +kernel⟩
abbrev s12 : Stmt := topS 12
abbrev N12 : List Str := ["thing", "one", "other"]
theorem sc12 : FnScope N12 ["thing"] (defScope s12) := ⟨rfl, rfl, rfl, by decide +kernel, rfl, by decide +kernel, by decide +kernel⟩
abbrev s13 : Stmt := topS 13
abbrev N13 : List Str := ["parts"]
theorem sc13 : FnScope N13 ["parts"] (defScope s13) := ⟨rfl, rfl, rfl, by decide +kernel, rfl, by decide +kernel, by decide +kernel⟩
abbrev s14 : Stmt := topS 14
abbrev N14 : List Str := ["number"]
theorem sc14 : FnScope N14 ["number"] (defScope s14) := ⟨rfl, rfl, rfl, by decide +kernel, rfl, by decide +kernel, by decide +kernel⟩
abbrev s15 : Stmt := topS 15
abbrev N15 : List Str := ["number", "most", "found", "part", "whole"]
theorem sc15 : FnScope N15 ["number", "most"] (defScope s15) := ⟨rfl, rfl, rfl, by decide +kernel, rfl, by decide +kernel, by decide +kernel⟩
abbrev s16 : Stmt := topS 16
abbrev N16 : List Str := ["number"]
theorem sc16 : FnScope N16 ["number"] (defScope s16) := ⟨rfl, rfl, rfl, by decide +kernel, rfl, by decide +kernel, by decide +kernel⟩
abbrev s17 : Stmt := topS 17
abbrev N17 : List Str := ["parts", "row", "ones", "part", "left"]
theorem sc17 : FnScope N17 ["parts"] (defScope s17) := ⟨rfl, rfl, rfl, by decide +kernel, rfl, by decide +kernel, by decide +kernel⟩
abbrev s18 : Stmt := topS 18
abbrev N18 : List Str := ["number", "found", "here"]
theorem sc18 : FnScope N18 ["number"] (defScope s18) := ⟨rfl, rfl, rfl, by decide +kernel, rfl, by decide +kernel, by decide +kernel⟩
abbrev s19 : Stmt := topS 19
abbrev N19 : List Str := ["number", "place", "found", "left", "rest", "most", "part"]
theorem sc19 : FnScope N19 ["number", "place"] (defScope s19) := ⟨rfl, rfl, rfl, by decide +kernel, rfl, by decide +kernel, by decide +kernel⟩
abbrev s20 : Stmt := topS 20
abbrev N20 : List Str := ["parts", "rest", "found", "most", "part", "greater", "one"]
theorem sc20 : FnScope N20 ["parts"] (defScope s20) := ⟨rfl, rfl, rfl, by decide +kernel, rfl, by decide +kernel, by decide +kernel⟩
abbrev s21 : Stmt := topS 21
abbrev N21 : List Str := ["parts", "most", "part", "size"]
theorem sc21 : FnScope N21 ["parts"] (defScope s21) := ⟨rfl, rfl, rfl, by decide +kernel, rfl, by decide +kernel, by decide +kernel⟩
abbrev s22 : Stmt := topS 22
abbrev N22 : List Str := ["parts"]
theorem sc22 : FnScope N22 ["parts"] (defScope s22) := ⟨rfl, rfl, rfl, by decide +kernel, rfl, by decide +kernel, by decide +kernel⟩
abbrev s23 : Stmt := topS 23
abbrev N23 : List Str := ["parts", "at", "part"]
theorem sc23 : FnScope N23 ["parts"] (defScope s23) := ⟨rfl, rfl, rfl, by decide +kernel, rfl, by decide +kernel, by decide +kernel⟩
abbrev s24 : Stmt := topS 24
abbrev N24 : List Str := ["parts"]
theorem sc24 : FnScope N24 ["parts"] (defScope s24) := ⟨rfl, rfl, rfl, by decide +kernel, rfl, by decide +kernel, by decide +kernel⟩
abbrev s25 : Stmt := topS 25
abbrev N25 : List Str := ["parts"]
theorem sc25 : FnScope N25 ["parts"] (defScope s25) := ⟨rfl, rfl, rfl, by decide +kernel, rfl, by decide +kernel, by decide +kernel⟩
abbrev s26 : Stmt := topS 26
abbrev N26 : List Str := ["parts", "down", "rows", "at", "part", "place"]
theorem sc26 : FnScope N26 ["parts"] (defScope s26) := ⟨rfl, rfl, rfl, by decide +kernel, rfl, by decide +kernel, by decide +kernel⟩
abbrev s28 : Stmt := topS 28
abbrev N28 : List Str := ["script", "cells", "cell"]
theorem sc28 : FnScope N28 ["script"] (defScope s28) := ⟨rfl, rfl, rfl, by decide +kernel, rfl, by decide +kernel, by decide +kernel⟩
abbrev s29 : Stmt := topS 29
abbrev N29 : List Str := ["tape", "many", "cell", "digit", "number"]
theorem sc29 : FnScope N29 ["tape", "many"] (defScope s29) := ⟨rfl, rfl, rfl, by decide +kernel, rfl, by decide +kernel, by decide +kernel⟩
abbrev s30 : Stmt := topS 30
abbrev N30 : List Str := ["tape", "things"]
theorem sc30 : FnScope N30 ["tape", "things"] (defScope s30) := ⟨rfl, rfl, rfl, by decide +kernel, rfl, by decide +kernel, by decide +kernel⟩
abbrev s31 : Stmt := topS 31
abbrev N31 : List Str := ["tape", "thing", "step"]
theorem sc31 : FnScope N31 ["tape"] (defScope s31) := ⟨rfl, rfl, rfl, by decide +kernel, rfl, by decide +kernel, by decide +kernel⟩
abbrev s32 : Stmt := topS 32
abbrev N32 : List Str := ["number", "most", "found", "waiting", "row", "left", "top", "part"]
theorem sc32 : FnScope N32 ["number", "most"] (defScope s32) := ⟨rfl, rfl, rfl, by decide +kernel, rfl, by decide +kernel, by decide +kernel⟩
abbrev s33 : Stmt := topS 33
abbrev N33 : List Str := ["most", "found", "n", "row", "k"]
theorem sc33 : FnScope N33 ["most"] (defScope s33) := ⟨rfl, rfl, rfl, by decide +kernel, rfl, by decide +kernel, by decide +kernel⟩
abbrev s34 : Stmt := topS 34
abbrev N34 : List Str := ["tape", "most", "left", "found", "wide", "step", "part"]
theorem sc34 : FnScope N34 ["tape", "most"] (defScope s34) := ⟨rfl, rfl, rfl, by decide +kernel, rfl, by decide +kernel, by decide +kernel⟩
abbrev s35 : Stmt := topS 35
abbrev N35 : List Str := ["parts", "part", "size"]
theorem sc35 : FnScope N35 ["parts"] (defScope s35) := ⟨rfl, rfl, rfl, by decide +kernel, rfl, by decide +kernel, by decide +kernel⟩
abbrev s36 : Stmt := topS 36
abbrev N36 : List Str := ["tape", "some"]
theorem sc36 : FnScope N36 ["tape"] (defScope s36) := ⟨rfl, rfl, rfl, by decide +kernel, rfl, by decide +kernel, by decide +kernel⟩
abbrev s37 : Stmt := topS 37
abbrev N37 : List Str := ["tape"]
theorem sc37 : FnScope N37 ["tape"] (defScope s37) := ⟨rfl, rfl, rfl, by decide +kernel, rfl, by decide +kernel, by decide +kernel⟩
abbrev s38 : Stmt := topS 38
abbrev N38 : List Str := ["asked_one", "found", "e", "flags", "tags"]
theorem sc38 : FnScope N38 ["asked_one"] (defScope s38) := ⟨rfl, rfl, rfl, by decide +kernel, rfl, by decide +kernel, by decide +kernel⟩
abbrev s39 : Stmt := topS 39
abbrev N39 : List Str := ["parts", "ones", "part", "at", "size", "left", "found", "step"]
theorem sc39 : FnScope N39 ["parts"] (defScope s39) := ⟨rfl, rfl, rfl, by decide +kernel, rfl, by decide +kernel, by decide +kernel⟩
abbrev s40 : Stmt := topS 40
abbrev N40 : List Str := ["parts", "table", "found", "left", "top", "part"]
theorem sc40 : FnScope N40 ["parts", "table"] (defScope s40) := ⟨rfl, rfl, rfl, by decide +kernel, rfl, by decide +kernel, by decide +kernel⟩
abbrev s41 : Stmt := topS 41
abbrev N41 : List Str := ["parts", "turned_row", "found", "row", "part", "column"]
theorem sc41 : FnScope N41 ["parts"] (defScope s41) := ⟨rfl, rfl, rfl, by decide +kernel, rfl, by decide +kernel, by decide +kernel⟩
abbrev s42 : Stmt := topS 42
abbrev N42 : List Str := ["tape", "table", "number", "few", "row", "parts", "whole", "place", "later_one", "turned_row", "square", "size", "part"]
theorem sc42 : FnScope N42 ["tape"] (defScope s42) := ⟨rfl, rfl, rfl, by decide +kernel, rfl, by decide +kernel, by decide +kernel⟩
abbrev s44 : Stmt := topS 44
abbrev N44 : List Str := ["asked_one", "thing"]
theorem sc44 : FnScope N44 ["asked_one", "thing"] (defScope s44) := ⟨rfl, rfl, rfl, by decide +kernel, rfl, by decide +kernel, by decide +kernel⟩
abbrev s43 : Stmt := topS 43
abbrev N43 : List Str := ["tape", "none", "bad", "words", "asked_one", "odd"]
theorem sc43 : FnScope N43 ["tape"] (defScope s43) := ⟨rfl, rfl, rfl, by decide +kernel, rfl, by decide +kernel, by decide +kernel⟩
abbrev s45 : Stmt := topS 45
abbrev N45 : List Str := ["script", "tape", "said", "row", "step"]
theorem sc45 : FnScope N45 ["script"] (defScope s45) := ⟨rfl, rfl, rfl, by decide +kernel, rfl, by decide +kernel, by decide +kernel⟩
/-- what the top has written -/
structure Fc (K : PySem.W.Frag) (mg : Str → Option Value) where
  f1 : Addr
  d1 : FuncData
  cd1 : Value
  F1 : FunC K "is_integer" "is_integer" s1 f1 d1 cd1
  b1 : Binds K d1 ["thing"] []
  g1 : mg "is_integer" = some (.ref f1)
  f2 : Addr
  d2 : FuncData
  cd2 : Value
  F2 : FunC K "is_within" "is_within" s2 f2 d2 cd2
  b2 : Binds K d2 ["thing", "least", "most"] []
  g2 : mg "is_within" = some (.ref f2)
  f12 : Addr
  d12 : FuncData
  cd12 : Value
  F12 : FunC K "is_parts" "is_parts" s12 f12 d12 cd12
  b12 : Binds K d12 ["thing"] []
  g12 : mg "is_parts" = some (.ref f12)
  f13 : Addr
  d13 : FuncData
  cd13 : Value
  F13 : FunC K "check_parts" "check_parts" s13 f13 d13 cd13
  b13 : Binds K d13 ["parts"] []
  g13 : mg "check_parts" = some (.ref f13)
  f14 : Addr
  d14 : FuncData
  cd14 : Value
  F14 : FunC K "check_number" "check_number" s14 f14 d14 cd14
  b14 : Binds K d14 ["number"] []
  g14 : mg "check_number" = some (.ref f14)
  f15 : Addr
  d15 : FuncData
  cd15 : Value
  F15 : FunC K "raw_with_most" "raw_with_most" s15 f15 d15 cd15
  b15 : Binds K d15 ["number", "most"] []
  g15 : mg "raw_with_most" = some (.ref f15)
  f16 : Addr
  d16 : FuncData
  cd16 : Value
  F16 : FunC K "parts_many" "parts_many" s16 f16 d16 cd16
  b16 : Binds K d16 ["number"] []
  g16 : mg "parts_many" = some (.ref f16)
  f17 : Addr
  d17 : FuncData
  cd17 : Value
  F17 : FunC K "raw_next" "raw_next" s17 f17 d17 cd17
  b17 : Binds K d17 ["parts"] []
  g17 : mg "raw_next" = some (.ref f17)
  f18 : Addr
  d18 : FuncData
  cd18 : Value
  F18 : FunC K "all_parts" "all_parts" s18 f18 d18 cd18
  b18 : Binds K d18 ["number"] []
  g18 : mg "all_parts" = some (.ref f18)
  f19 : Addr
  d19 : FuncData
  cd19 : Value
  F19 : FunC K "parts_at" "parts_at" s19 f19 d19 cd19
  b19 : Binds K d19 ["number", "place"] []
  g19 : mg "parts_at" = some (.ref f19)
  f20 : Addr
  d20 : FuncData
  cd20 : Value
  F20 : FunC K "parts_place" "parts_place" s20 f20 d20 cd20
  b20 : Binds K d20 ["parts"] []
  g20 : mg "parts_place" = some (.ref f20)
  f21 : Addr
  d21 : FuncData
  cd21 : Value
  F21 : FunC K "raw_turned" "raw_turned" s21 f21 d21 cd21
  b21 : Binds K d21 ["parts"] []
  g21 : mg "raw_turned" = some (.ref f21)
  f22 : Addr
  d22 : FuncData
  cd22 : Value
  F22 : FunC K "turned_parts" "turned_parts" s22 f22 d22 cd22
  b22 : Binds K d22 ["parts"] []
  g22 : mg "turned_parts" = some (.ref f22)
  f23 : Addr
  d23 : FuncData
  cd23 : Value
  F23 : FunC K "square_in" "square_in" s23 f23 d23 cd23
  b23 : Binds K d23 ["parts"] []
  g23 : mg "square_in" = some (.ref f23)
  f24 : Addr
  d24 : FuncData
  cd24 : Value
  F24 : FunC K "own_turned" "own_turned" s24 f24 d24 cd24
  b24 : Binds K d24 ["parts"] []
  g24 : mg "own_turned" = some (.ref f24)
  f25 : Addr
  d25 : FuncData
  cd25 : Value
  F25 : FunC K "next_parts" "next_parts" s25 f25 d25 cd25
  b25 : Binds K d25 ["parts"] []
  g25 : mg "next_parts" = some (.ref f25)
  f26 : Addr
  d26 : FuncData
  cd26 : Value
  F26 : FunC K "hooks" "hooks" s26 f26 d26 cd26
  b26 : Binds K d26 ["parts"] []
  g26 : mg "hooks" = some (.ref f26)
  f28 : Addr
  d28 : FuncData
  cd28 : Value
  F28 : FunC K "_law_tape" "_law_tape" s28 f28 d28 cd28
  b28 : Binds K d28 ["script"] []
  g28 : mg "_law_tape" = some (.ref f28)
  f29 : Addr
  d29 : FuncData
  cd29 : Value
  F29 : FunC K "_law_pick" "_law_pick" s29 f29 d29 cd29
  b29 : Binds K d29 ["tape", "many"] []
  g29 : mg "_law_pick" = some (.ref f29)
  f30 : Addr
  d30 : FuncData
  cd30 : Value
  F30 : FunC K "_law_any" "_law_any" s30 f30 d30 cd30
  b30 : Binds K d30 ["tape", "things"] []
  g30 : mg "_law_any" = some (.ref f30)
  f31 : Addr
  d31 : FuncData
  cd31 : Value
  F31 : FunC K "_law_deep" "_law_deep" s31 f31 d31 cd31
  b31 : Binds K d31 ["tape"] []
  g31 : mg "_law_deep" = some (.ref f31)
  f32 : Addr
  d32 : FuncData
  cd32 : Value
  F32 : FunC K "_law_all" "_law_all" s32 f32 d32 cd32
  b32 : Binds K d32 ["number", "most"] []
  g32 : mg "_law_all" = some (.ref f32)
  f33 : Addr
  d33 : FuncData
  cd33 : Value
  F33 : FunC K "_law_table" "_law_table" s33 f33 d33 cd33
  b33 : Binds K d33 ["most"] []
  g33 : mg "_law_table" = some (.ref f33)
  f34 : Addr
  d34 : FuncData
  cd34 : Value
  F34 : FunC K "_law_parts" "_law_parts" s34 f34 d34 cd34
  b34 : Binds K d34 ["tape", "most"] []
  g34 : mg "_law_parts" = some (.ref f34)
  f35 : Addr
  d35 : FuncData
  cd35 : Value
  F35 : FunC K "_law_turned" "_law_turned" s35 f35 d35 cd35
  b35 : Binds K d35 ["parts"] []
  g35 : mg "_law_turned" = some (.ref f35)
  f36 : Addr
  d36 : FuncData
  cd36 : Value
  F36 : FunC K "_law_no_parts" "_law_no_parts" s36 f36 d36 cd36
  b36 : Binds K d36 ["tape"] []
  g36 : mg "_law_no_parts" = some (.ref f36)
  f37 : Addr
  d37 : FuncData
  cd37 : Value
  F37 : FunC K "_law_no_number" "_law_no_number" s37 f37 d37 cd37
  b37 : Binds K d37 ["tape"] []
  g37 : mg "_law_no_number" = some (.ref f37)
  f38 : Addr
  d38 : FuncData
  cd38 : Value
  F38 : FunC K "_law_word" "_law_word" s38 f38 d38 cd38
  b38 : Binds K d38 ["asked_one"] []
  g38 : mg "_law_word" = some (.ref f38)
  f39 : Addr
  d39 : FuncData
  cd39 : Value
  F39 : FunC K "_law_next" "_law_next" s39 f39 d39 cd39
  b39 : Binds K d39 ["parts"] []
  g39 : mg "_law_next" = some (.ref f39)
  f40 : Addr
  d40 : FuncData
  cd40 : Value
  F40 : FunC K "_law_place" "_law_place" s40 f40 d40 cd40
  b40 : Binds K d40 ["parts", "table"] []
  g40 : mg "_law_place" = some (.ref f40)
  f41 : Addr
  d41 : FuncData
  cd41 : Value
  F41 : FunC K "_law_hooks" "_law_hooks" s41 f41 d41 cd41
  b41 : Binds K d41 ["parts"] []
  g41 : mg "_law_hooks" = some (.ref f41)
  f42 : Addr
  d42 : FuncData
  cd42 : Value
  F42 : FunC K "_law_is_right" "_law_is_right" s42 f42 d42 cd42
  b42 : Binds K d42 ["tape"] []
  g42 : mg "_law_is_right" = some (.ref f42)
  f44 : Addr
  d44 : FuncData
  cc44 : Addr
  P44 : Addr
  F44 : FunC K "_law_word_of" "_law_word_of" s44 f44 d44 (.ref cc44)
  b44 : Binds K d44 ["asked_one", "thing"] []
  g44 : mg "_law_word_of" = some (.ref f44)
  f43 : Addr
  d43 : FuncData
  cc43 : Addr
  P43 : Addr
  F43 : FunC K "_law_is_refused" "_law_is_refused" s43 f43 d43 (.ref cc43)
  b43 : Binds K d43 ["tape"] []
  g43 : mg "_law_is_refused" = some (.ref f43)
  f45 : Addr
  d45 : FuncData
  cd45 : Value
  F45 : FunC K "law" "law" s45 f45 d45 cd45
  b45 : Binds K d45 ["script"] []
  g45 : mg "law" = some (.ref f45)
  nP43_44 : P43 ≠ P44
  z_ValueError : mg "ValueError" = none
  z_abs : mg "abs" = none
  z_all : mg "all" = none
  z_bool : mg "bool" = none
  z_enumerate : mg "enumerate" = none
  z_int : mg "int" = none
  z_isinstance : mg "isinstance" = none
  z_len : mg "len" = none
  z_list : mg "list" = none
  z_max : mg "max" = none
  z_min : mg "min" = none
  z_range : mg "range" = none
  z_repr : mg "repr" = none
  z_sorted : mg "sorted" = none
  z_sum : mg "sum" = none
  z_tuple : mg "tuple" = none
  z_zip : mg "zip" = none
  c_MOST_LISTED : ∃ t, mg "MOST_LISTED" = some (.int 12 t)
  c_MOST_NUMBER : ∃ t, mg "MOST_NUMBER" = some (.int 60 t)
  c_MOST_PARTS : ∃ t, mg "MOST_PARTS" = some (.int 60 t)
  C5 : Addr
  gC5 : mg "NoNumber" = some (.ref C5)
  q5 : PySem.W.excIn K C5 [.type "ValueError", .type "Exception", .type "BaseException", .type "object"] "ValueError.__new__" = true
  kC5 : PySem.W.keepIn K (.ref C5) = true
  bC5 : PySem.W.subIn K (.ref C5) (.type "BaseException") = some true
  tC5 : PySem.W.typeIn K (.ref C5) = some (.type "type")
  C6 : Addr
  gC6 : mg "NoParts" = some (.ref C6)
  q6 : PySem.W.excIn K C6 [.type "ValueError", .type "Exception", .type "BaseException", .type "object"] "ValueError.__new__" = true
  kC6 : PySem.W.keepIn K (.ref C6) = true
  bC6 : PySem.W.subIn K (.ref C6) (.type "BaseException") = some true
  tC6 : PySem.W.typeIn K (.ref C6) = some (.type "type")
  C7 : Addr
  gC7 : mg "NoPlace" = some (.ref C7)
  q7 : PySem.W.excIn K C7 [.type "ValueError", .type "Exception", .type "BaseException", .type "object"] "ValueError.__new__" = true
  kC7 : PySem.W.keepIn K (.ref C7) = true
  bC7 : PySem.W.subIn K (.ref C7) (.type "BaseException") = some true
  tC7 : PySem.W.typeIn K (.ref C7) = some (.type "type")
  C4 : Addr
  gC4 : mg "RowError" = some (.ref C4)
  x5 : ExcC K C5
  v5 : PySem.W.kitOne K (.ref C5) (.type "ValueError") = some true
  m5 : PySem.W.exmOne K (.ref C5) (.ref C4) = some true
  x6 : ExcC K C6
  v6 : PySem.W.kitOne K (.ref C6) (.type "ValueError") = some true
  m6 : PySem.W.exmOne K (.ref C6) (.ref C4) = some true
  x7 : ExcC K C7
  v7 : PySem.W.kitOne K (.ref C7) (.type "ValueError") = some true
  m7 : PySem.W.exmOne K (.ref C7) (.ref C4) = some true
  k5_5 : PySem.W.kitOne K (.ref C5) (.ref C5) = some true
  k5_6 : PySem.W.kitOne K (.ref C5) (.ref C6) = some false
  k5_7 : PySem.W.kitOne K (.ref C5) (.ref C7) = some false
  k6_5 : PySem.W.kitOne K (.ref C6) (.ref C5) = some false
  k6_6 : PySem.W.kitOne K (.ref C6) (.ref C6) = some true
  k6_7 : PySem.W.kitOne K (.ref C6) (.ref C7) = some false
  k7_5 : PySem.W.kitOne K (.ref C7) (.ref C5) = some false
  k7_6 : PySem.W.kitOne K (.ref C7) (.ref C6) = some false
  k7_7 : PySem.W.kitOne K (.ref C7) (.ref C7) = some true
section
variable {P : Program} {w : World} {K : PySem.W.Frag} {mg : Str → Option Value} {base : Heap}
abbrev Gof (c : Fc K mg) : Gx := ⟨K, fun n => match n with | 16 => some c.f16 | 18 => some c.f18 | 20 => some c.f20 | 22 => some c.f22 | 23 => some c.f23 | 24 => some c.f24 | 25 => some c.f25 | 26 => some c.f26 | _ => none, fun n => match n with | 5 => c.C5 | 6 => c.C6 | 7 => c.C7 | 4 => c.C4 | _ => 0, [(c.P43, ((("_law_is_refused" : Str) ++ (".<locals>." : Str)) ++ ("<lambda>" : Str))), (c.P44, ((("_law_word_of" : Str) ++ (".<locals>." : Str)) ++ ("<lambda>" : Str)))]⟩
theorem tb_mem43 (c : Fc K mg) : (c.P43, ((("_law_is_refused" : Str) ++ (".<locals>." : Str)) ++ ("<lambda>" : Str))) ∈ (Gof c).tb := by simp [Gof]
theorem tb_uniq43 (c : Fc K mg) : ∀ p ∈ (Gof c).tb, p.1 = c.P43 → p.2 = ((("_law_is_refused" : Str) ++ (".<locals>." : Str)) ++ ("<lambda>" : Str)) := by
  intro p hp e
  simp only [Gof, List.mem_cons, List.not_mem_nil, or_false] at hp
  rcases hp with rfl | rfl
  · rfl
  · exact absurd e c.nP43_44.symm
theorem tb_mem44 (c : Fc K mg) : (c.P44, ((("_law_word_of" : Str) ++ (".<locals>." : Str)) ++ ("<lambda>" : Str))) ∈ (Gof c).tb := by simp [Gof]
theorem tb_uniq44 (c : Fc K mg) : ∀ p ∈ (Gof c).tb, p.1 = c.P44 → p.2 = ((("_law_word_of" : Str) ++ (".<locals>." : Str)) ++ ("<lambda>" : Str)) := by
  intro p hp e
  simp only [Gof, List.mem_cons, List.not_mem_nil, or_false] at hp
  rcases hp with rfl | rfl
  · exact absurd e c.nP43_44
  · rfl
def suiteOf : Stmt → List Stmt
  | .Try _ [.ExceptHandler _ _ b _] _ _ _ => b
  | _ => []
theorem suite__law_word (c : Fc K mg) {X : Cx} (hK : X.K = K) (hmg : X.mg = mg) {k : Nat} (hr : Room (k + 2) X.A) {g : Addr} {cdg : Value} (s : Shared) (H : Hp) :
    SuiteOk (Gof c) (sayCx X N38 "_law_word" (defScope s38) g cdg s H) 2 (suiteOf ((defBody s38).getD 1 (.Pass ⟨0, 0, 0, 0⟩))) H__law_word := by
  subst hK hmg
  intro a oe pn cl p d hz hf hd
  unfold H__law_word
  split
  · rename_i hh
    simp only [Bool.and_eq_true] at hh
    obtain ⟨hp, hc⟩ := hh
    obtain rfl : p = none := by cases p <;> first | rfl | cases hp
    obtain rfl := hd rfl
    have hu : ((sayCx X N38 "_law_word" (defScope s38) g cdg s H).suite a ((a, oe) :: pn)).A.units + 65 < cLine := by
      have := hr.un
      show X.A.units + 3 + 65 < cLine
      omega
    have hu4 : ((sayCx X N38 "_law_word" (defScope s38) g cdg s H).suite a ((a, oe) :: pn)).A.units + 64 < cLine := Nat.lt_of_succ_lt hu
    have facts : ExcC X.K ((Gof c).ca cl) ∧ PySem.W.kitOne X.K (.ref ((Gof c).ca cl)) (.type "ValueError") = some true ∧ ∀ j, j ∈ [5, 6, 7] → PySem.W.kitOne X.K (.ref ((Gof c).ca cl)) (.ref ((Gof c).ca j)) = some (isSub cl j) := by
      have hc : cl ∈ [5, 6, 7] := by simpa using hc
      simp only [List.mem_cons, List.not_mem_nil, or_false] at hc
      rcases hc with rfl | rfl | rfl
      · refine ⟨c.x5, c.v5, fun j hj => ?_⟩
        simp only [List.mem_cons, List.not_mem_nil, or_false] at hj
        rcases hj with rfl | rfl | rfl
        · exact c.k5_5
        · exact c.k5_6
        · exact c.k5_7
      · refine ⟨c.x6, c.v6, fun j hj => ?_⟩
        simp only [List.mem_cons, List.not_mem_nil, or_false] at hj
        rcases hj with rfl | rfl | rfl
        · exact c.k6_5
        · exact c.k6_6
        · exact c.k6_7
      · refine ⟨c.x7, c.v7, fun j hj => ?_⟩
        simp only [List.mem_cons, List.not_mem_nil, or_false] at hj
        rcases hj with rfl | rfl | rfl
        · exact c.k7_5
        · exact c.k7_6
        · exact c.k7_7
    obtain ⟨hE, hV, hkit⟩ := facts
    exact (SSs.cons (SS.set (i := 3) sc38.nd (SE.lst (SL.cons (SE.isE (i := 2) rfl hE hz hf (by rfl) (by rfl) (Or.inl rfl) (by rfl) c.z_isinstance (pe_glob (by rfl) c.gC5 (v := .ref c.C5) rfl) (fun _ z => z) (hkit 5 (by decide))) (SL.cons (SE.isE (i := 2) rfl hE hz hf (by rfl) (by rfl) (Or.inl rfl) (by rfl) c.z_isinstance (pe_glob (by rfl) c.gC6 (v := .ref c.C6) rfl) (fun _ z => z) (hkit 6 (by decide))) (SL.cons (SE.isE (i := 2) rfl hE hz hf (by rfl) (by rfl) (Or.inl rfl) (by rfl) c.z_isinstance (pe_glob (by rfl) c.gC7 (v := .ref c.C7) rfl) (fun _ z => z) (hkit 7 (by decide))) SL.nil)))))
    (SSs.cons (SS.set (i := 4) sc38.nd (SE.lst (SL.cons SE.str (SL.cons SE.str (SL.cons SE.str SL.nil)))))
    (SSs.one (SS.set (i := 1) sc38.nd (SE.ifx (ST.bool (ST.and (ST.cmp (op_eqD hu4) ok_eqD (SE.count rfl hu (SE.bor (i := 3)) SE.bl) SE.int (nomark _)) (ST.and1 (ST.tru rfl (SE.isE (i := 2) rfl hE hz hf (by rfl) (by rfl) (Or.inl rfl) (by rfl) c.z_isinstance (pe_bltn (v := .ty "ValueError") (by rfl) c.z_ValueError (by decide +kernel) rfl) (fun _ z => z) hV))))) (SE.at rfl (SE.bor (i := 4)) (SE.index rfl hu (SE.bor (i := 3)) SE.bl)) SE.str)))))
  · exact SSs.never fun _ => rfl
theorem says__law_word (c : Fc K mg) {X : Cx} (hK : X.K = K) (hmg : X.mg = mg) {k : Nat} (hr : Room (k + 2) X.A) {q : Str} :
    LamX.GivesTo X N38 "_law_word" (defScope s38) c.f38 c.cd38 (defBody s38) "asked_one" q (TSaid (Gof c) say__law_word) := by
  have hS := fun s H => suite__law_word c hK hmg hr (g := c.f38) (cdg := c.cd38) s H
  subst hK hmg
  have hca : ∀ cl p, H__law_word cl p (suiteE (N38 : List Str).length 2) ≠ .bad → PySem.W.exmOne X.K (.ref ((Gof c).ca cl)) (.ref c.C4) = some true := by
    intro cl p h
    unfold H__law_word at h
    split at h
    · rename_i hh
      simp only [Bool.and_eq_true] at hh
      have hc : cl ∈ [5, 6, 7] := by simpa using hh.2
      simp only [List.mem_cons, List.not_mem_nil, or_false] at hc
      rcases hc with rfl | rfl | rfl
      · exact c.m5
      · exact c.m6
      · exact c.m7
    · exact (h rfl).elim
  exact say_set hca sc38.nd rfl rfl (by rfl) (by rfl) c.gC4 (by decide) rfl (by rfl) (by decide) (by decide) (by decide) (by decide) (fun _ => rfl) hS
theorem w1 (c : Fc K mg) {k : Nat} :
    FnOk P w K mg base (L2.CX P w) (k + 1) c.f1 c.d1 ["thing"] (spD (Gof c) 1 F_is_integer) :=
  okDefC (G := Gof c) (N := N1) (ps := ["thing"]) (body := D_is_integer) c.F1 sc1 fun A outer s H E O cx =>
    (SSs.one (SS.ret (SE.and (SE.isi .int cx.K (by rfl) c.z_isinstance (by rfl) c.z_int (by decide +kernel) (SE.bor (i := 0))) (SE.one (SE.not (SE.isi .bool cx.K (by rfl) c.z_isinstance (by rfl) c.z_bool (by decide +kernel) (SE.bor (i := 0))))))))
theorem w2 (c : Fc K mg) {k : Nat}
    (h1 : FnOk P w K mg base (L2.CX P w) k c.f1 c.d1 ["thing"] (spD (Gof c) 1 F_is_integer)) :
    FnOk P w K mg base (L2.CX P w) (k + 1) c.f2 c.d2 ["thing", "least", "most"] (spD (Gof c) 3 F_is_within) :=
  okDefC (G := Gof c) (N := N2) (ps := ["thing", "least", "most"]) (body := D_is_within) c.F2 sc2 fun A outer s H E O cx =>
    (SSs.one (SS.ret (SE.and (SE.callL cx h1 c.F1.toFun c.g1 c.b1 (by rfl) rfl (SGL.val (SE.var (i := 0)) SGL.nil)) (SE.one (SE.leLe (SE.bor (i := 1)) (SE.bor (i := 0)) (SE.bor (i := 2)))))))
theorem w12 (c : Fc K mg) {k : Nat}
    (h2 : FnOk P w K mg base (L2.CX P w) k c.f2 c.d2 ["thing", "least", "most"] (spD (Gof c) 3 F_is_within)) :
    FnOk P w K mg base (L2.CX P w) (k + 1) c.f12 c.d12 ["thing"] (spD (Gof c) 1 F_is_parts) :=
  okDefC (G := Gof c) (N := N12) (ps := ["thing"]) (body := D_is_parts) c.F12 sc12 fun A outer s H E O cx =>
    (SSs.cons (SS.ite (ST.bool (ST.or (ST.not (ST.tru cx.K (SE.isi .tuple cx.K (by rfl) c.z_isinstance (by rfl) c.z_tuple (by decide +kernel) (SE.bor (i := 0))))) (ST.or1 (ST.gt (SE.len cx.K (by rfl) c.z_len (SE.bor (i := 0))) (SE.glob (v := .int 60) (by rfl) c.c_MOST_PARTS.choose_spec ⟨_, rfl⟩ (fun _ => .int _)))))) (SSs.one (SS.ret SE.bl)) SSs.nil)
    (SSs.cons (SS.ite (ST.not (ST.tru cx.K (SE.all cx (by rfl) c.z_all (SE.comp (own := [("one", 1)]) cx (blkOk_by (N := N12) (sc := defScope s12) (by decide +kernel)) rfl (by decide) (by decide) (SI.seq cx.K (SE.var (i := 0))) (fun _ _ _ _ _ cx => (SP'.name (i := 1) cx.nd)) (fun _ _ _ _ _ cx => STs.nil) (fun _ _ _ _ _ cx => (SE.callL cx h2 c.F2.toFun c.g2 c.b2 (by rfl) rfl (SGL.val (SE.var (i := 1)) (SGL.val SE.int (SGL.val (SE.glob (v := .int 60) (by rfl) c.c_MOST_NUMBER.choose_spec ⟨_, rfl⟩ (fun _ => .int _)) SGL.nil))))))))) (SSs.one (SS.ret SE.bl)) SSs.nil)
    (SSs.one (SS.ret (SE.and (SE.le (SE.sumG cx (by rfl) c.z_sum (SE.bor (i := 0))) (SE.glob (v := .int 60) (by rfl) c.c_MOST_NUMBER.choose_spec ⟨_, rfl⟩ (fun _ => .int _))) (SE.one (SE.all cx (by rfl) c.z_all (SE.comp (own := [("one", 1), ("other", 2)]) cx (blkOk_by (N := N12) (sc := defScope s12) (by decide +kernel)) rfl (by decide) (by decide) (SI.zip cx.K (by rfl) c.z_zip (SE.var (i := 0)) (SE.cut (ml := (some (mC (.int 1)))) (mh := none) cx.K (SE.bor (i := 0)) SE.int trivial)) (fun _ _ _ _ _ cx => (SP'.tup cx.K cx.calm (SPs.cons (SP'.name (i := 1) cx.nd) (SPs.cons (SP'.name (i := 2) cx.nd) SPs.nil)) rfl)) (fun _ _ _ _ _ cx => STs.nil) (fun _ _ _ _ _ cx => (SE.ge (SE.bor (i := 1)) (SE.bor (i := 2))))))))))))
theorem w13 (c : Fc K mg) {k : Nat}
    (h12 : FnOk P w K mg base (L2.CX P w) k c.f12 c.d12 ["thing"] (spD (Gof c) 1 F_is_parts)) :
    FnOk P w K mg base (L2.CX P w) (k + 1) c.f13 c.d13 ["parts"] (spD (Gof c) 1 F_check_parts) :=
  okDefC (G := Gof c) (N := N13) (ps := ["parts"]) (body := D_check_parts) c.F13 sc13 fun A outer s H E O cx =>
    (SSs.one (SS.ite (ST.not (ST.tru cx.K (SE.callL cx h12 c.F12.toFun c.g12 c.b12 (by rfl) rfl (SGL.val (SE.var (i := 0)) SGL.nil)))) (SSs.one (SS.raise0 cx.calm cx.tk PySem.F.excBase_ValueError c.q6 c.gC6 c.kC6 (raises_own c.bC6 c.tC6) (by rfl))) SSs.nil))
theorem w14 (c : Fc K mg) {k : Nat}
    (h2 : FnOk P w K mg base (L2.CX P w) k c.f2 c.d2 ["thing", "least", "most"] (spD (Gof c) 3 F_is_within)) :
    FnOk P w K mg base (L2.CX P w) (k + 1) c.f14 c.d14 ["number"] (spD (Gof c) 1 F_check_number) :=
  okDefC (G := Gof c) (N := N14) (ps := ["number"]) (body := D_check_number) c.F14 sc14 fun A outer s H E O cx =>
    (SSs.one (SS.ite (ST.not (ST.tru cx.K (SE.callL cx h2 c.F2.toFun c.g2 c.b2 (by rfl) rfl (SGL.val (SE.var (i := 0)) (SGL.val SE.int (SGL.val (SE.glob (v := .int 60) (by rfl) c.c_MOST_NUMBER.choose_spec ⟨_, rfl⟩ (fun _ => .int _)) SGL.nil)))))) (SSs.one (SS.raise0 cx.calm cx.tk PySem.F.excBase_ValueError c.q5 c.gC5 c.kC5 (raises_own c.bC5 c.tC5) (by rfl))) SSs.nil))
theorem w15 (c : Fc K mg) {k : Nat} :
    FnOk P w K mg base (L2.CX P w) (k + 1) c.f15 c.d15 ["number", "most"] (spD (Gof c) 2 F_raw_with_most) :=
  okDefC (G := Gof c) (N := N15) (ps := ["number", "most"]) (body := D_raw_with_most) c.F15 sc15 fun A outer s H E O cx =>
    (SSs.cons (SS.set (i := 2) cx.nd (SE.add cx.K (SE.lst (SL.cons SE.int SL.nil)) (SE.repL (SE.lst (SL.cons SE.int SL.nil)) (SE.bor (i := 0)))))
    (SSs.cons (SS.for cx.own cx.calm (SI.rg2 (by rfl) c.z_range SE.int (SE.add cx.K (SE.min2 cx (by rfl) c.z_min (SE.bor (i := 1)) (SE.bor (i := 0))) SE.int)) (SP'.name (i := 3) cx.nd) (SSs.one (SS.for cx.own cx.calm (SI.rg2 (by rfl) c.z_range (SE.bor (i := 3)) (SE.add cx.K (SE.bor (i := 0)) SE.int)) (SP'.name (i := 4) cx.nd) (SSs.one (SS.augS (i := 2) cx (SE.bor (i := 4)) (SE.at cx.K (SE.bor (i := 2)) (SE.sub (SE.bor (i := 4)) (SE.bor (i := 3)))))))))
    (SSs.one (SS.ret (SE.at cx.K (SE.bor (i := 2)) (SE.bor (i := 0)))))))
theorem w16 (c : Fc K mg) {k : Nat}
    (h14 : FnOk P w K mg base (L2.CX P w) k c.f14 c.d14 ["number"] (spD (Gof c) 1 F_check_number))
    (h15 : FnOk P w K mg base (L2.CX P w) k c.f15 c.d15 ["number", "most"] (spD (Gof c) 2 F_raw_with_most)) :
    FnOk P w K mg base (L2.CX P w) (k + 1) c.f16 c.d16 ["number"] (spD (Gof c) 1 F_parts_many) :=
  okDefC (G := Gof c) (N := N16) (ps := ["number"]) (body := D_parts_many) c.F16 sc16 fun A outer s H E O cx =>
    (SSs.cons (SS.expr (SE.callL cx h14 c.F14.toFun c.g14 c.b14 (by rfl) rfl (SGL.val (SE.var (i := 0)) SGL.nil)))
    (SSs.one (SS.ret (SE.callL cx h15 c.F15.toFun c.g15 c.b15 (by rfl) rfl (SGL.val (SE.var (i := 0)) (SGL.val (SE.var (i := 0)) SGL.nil))))))
theorem w17 (c : Fc K mg) {k : Nat} :
    FnOk P w K mg base (L2.CX P w) (k + 1) c.f17 c.d17 ["parts"] (spD (Gof c) 1 F_raw_next) :=
  okDefC (G := Gof c) (N := N17) (ps := ["parts"]) (body := D_raw_next) c.F17 sc17 fun A outer s H E O cx =>
    (SSs.cons (SS.set (i := 1) cx.nd (SE.listC cx.K (by rfl) c.z_list (SE.bor (i := 0))))
    (SSs.cons (SS.set (i := 2) cx.nd SE.int)
    (SSs.cons (SS.while 100000 cx.own (ST.bool (ST.and (ST.gt (SE.len cx.K (by rfl) c.z_len (SE.bor (i := 1))) SE.int) (ST.and1 (ST.eq cx (SE.at cx.K (SE.bor (i := 1)) (SE.neg SE.int)) SE.int)))) (SSs.cons (SS.expr (SE.pop (i := 1) cx.K))
    (SSs.one (SS.set (i := 2) cx.nd (SE.add cx.K (SE.bor (i := 2)) SE.int)))))
    (SSs.cons (SS.ite (ST.eq cx (SE.len cx.K (by rfl) c.z_len (SE.bor (i := 1))) SE.int) (SSs.one (SS.ret SE.non)) SSs.nil)
    (SSs.cons (SS.set (i := 3) cx.nd (SE.sub (SE.pop (i := 1) cx.K) SE.int))
    (SSs.cons (SS.set (i := 4) cx.nd (SE.add cx.K (SE.bor (i := 2)) SE.int))
    (SSs.cons (SS.expr (SE.append (i := 1) cx.K (SL.cons (SE.var (i := 3)) SL.nil)))
    (SSs.cons (SS.while 100000 cx.own (ST.gt (SE.bor (i := 4)) SE.int) (SSs.cons (SS.expr (SE.append (i := 1) cx.K (SL.cons (SE.min2 cx (by rfl) c.z_min (SE.bor (i := 3)) (SE.bor (i := 4))) SL.nil)))
    (SSs.one (SS.set (i := 4) cx.nd (SE.sub (SE.bor (i := 4)) (SE.at cx.K (SE.bor (i := 1)) (SE.neg SE.int)))))))
    (SSs.one (SS.ret (SE.tupleC cx.K (by rfl) c.z_tuple (SE.bor (i := 1)))))))))))))
theorem w18 (c : Fc K mg) {k : Nat}
    (h2 : FnOk P w K mg base (L2.CX P w) k c.f2 c.d2 ["thing", "least", "most"] (spD (Gof c) 3 F_is_within))
    (h17 : FnOk P w K mg base (L2.CX P w) k c.f17 c.d17 ["parts"] (spD (Gof c) 1 F_raw_next)) :
    FnOk P w K mg base (L2.CX P w) (k + 1) c.f18 c.d18 ["number"] (spD (Gof c) 1 F_all_parts) :=
  okDefC (G := Gof c) (N := N18) (ps := ["number"]) (body := D_all_parts) c.F18 sc18 fun A outer s H E O cx =>
    (SSs.cons (SS.ite (ST.not (ST.tru cx.K (SE.callL cx h2 c.F2.toFun c.g2 c.b2 (by rfl) rfl (SGL.val (SE.var (i := 0)) (SGL.val SE.int (SGL.val (SE.glob (v := .int 12) (by rfl) c.c_MOST_LISTED.choose_spec ⟨_, rfl⟩ (fun _ => .int _)) SGL.nil)))))) (SSs.one (SS.raise0 cx.calm cx.tk PySem.F.excBase_ValueError c.q5 c.gC5 c.kC5 (raises_own c.bC5 c.tC5) (by rfl))) SSs.nil)
    (SSs.cons (SS.ite (ST.eq cx (SE.bor (i := 0)) SE.int) (SSs.one (SS.ret (SE.tup (SL.cons (SE.tup SL.nil) SL.nil)))) SSs.nil)
    (SSs.cons (SS.par2 (i := 1) (j := 2) cx (SRs.cons (SE.lst SL.nil) (SRs.cons (SE.tup (SL.cons (SE.var (i := 0)) SL.nil)) SRs.nil)))
    (SSs.cons (SS.while 100000 cx.own (ST.isn (SE.bor (i := 2)) SE.non) (SSs.cons (SS.expr (SE.append (i := 1) cx.K (SL.cons (SE.var (i := 2)) SL.nil)))
    (SSs.one (SS.set (i := 2) cx.nd (SE.callL cx h17 c.F17.toFun c.g17 c.b17 (by rfl) rfl (SGL.val (SE.var (i := 2)) SGL.nil))))))
    (SSs.one (SS.ret (SE.tupleC cx.K (by rfl) c.z_tuple (SE.bor (i := 1)))))))))
theorem w19 (c : Fc K mg) {k : Nat}
    (h2 : FnOk P w K mg base (L2.CX P w) k c.f2 c.d2 ["thing", "least", "most"] (spD (Gof c) 3 F_is_within))
    (h14 : FnOk P w K mg base (L2.CX P w) k c.f14 c.d14 ["number"] (spD (Gof c) 1 F_check_number))
    (h15 : FnOk P w K mg base (L2.CX P w) k c.f15 c.d15 ["number", "most"] (spD (Gof c) 2 F_raw_with_most)) :
    FnOk P w K mg base (L2.CX P w) (k + 1) c.f19 c.d19 ["number", "place"] (spD (Gof c) 2 F_parts_at) :=
  okDefC (G := Gof c) (N := N19) (ps := ["number", "place"]) (body := D_parts_at) c.F19 sc19 fun A outer s H E O cx =>
    (SSs.cons (SS.expr (SE.callL cx h14 c.F14.toFun c.g14 c.b14 (by rfl) rfl (SGL.val (SE.var (i := 0)) SGL.nil)))
    (SSs.cons (SS.ite (ST.not (ST.tru cx.K (SE.callL cx h2 c.F2.toFun c.g2 c.b2 (by rfl) rfl (SGL.val (SE.var (i := 1)) (SGL.val SE.int (SGL.val (SE.sub (SE.callL cx h15 c.F15.toFun c.g15 c.b15 (by rfl) rfl (SGL.val (SE.var (i := 0)) (SGL.val (SE.var (i := 0)) SGL.nil))) SE.int) SGL.nil)))))) (SSs.one (SS.raise0 cx.calm cx.tk PySem.F.excBase_ValueError c.q7 c.gC7 c.kC7 (raises_own c.bC7 c.tC7) (by rfl))) SSs.nil)
    (SSs.cons (SS.parN (is := [2, 3, 4, 5]) cx (SRs.cons (SE.lst SL.nil) (SRs.cons (SE.var (i := 1)) (SRs.cons (SE.var (i := 0)) (SRs.cons (SE.var (i := 0)) SRs.nil)))) (pgs_cons (pg_name (i := 2) cx.nd (by rfl) (by first | exact Or.inl rfl | exact Or.inr rfl)) (pgs_cons (pg_name (i := 3) cx.nd (by rfl) (by first | exact Or.inl rfl | exact Or.inr rfl)) (pgs_cons (pg_name (i := 4) cx.nd (by rfl) (by first | exact Or.inl rfl | exact Or.inr rfl)) (pgs_cons (pg_name (i := 5) cx.nd (by rfl) (by first | exact Or.inl rfl | exact Or.inr rfl)) pgs_nil)))))
    (SSs.cons (SS.while 100000 cx.own (ST.gt (SE.bor (i := 4)) SE.int) (SSs.cons (SS.set (i := 6) cx.nd (SE.min2 cx (by rfl) c.z_min (SE.bor (i := 5)) (SE.bor (i := 4))))
    (SSs.cons (SS.while 100000 cx.own (ST.ge (SE.bor (i := 3)) (SE.callL cx h15 c.F15.toFun c.g15 c.b15 (by rfl) rfl (SGL.val (SE.sub (SE.bor (i := 4)) (SE.bor (i := 6))) (SGL.val (SE.var (i := 6)) SGL.nil)))) (SSs.cons (SS.set (i := 3) cx.nd (SE.sub (SE.bor (i := 3)) (SE.callL cx h15 c.F15.toFun c.g15 c.b15 (by rfl) rfl (SGL.val (SE.sub (SE.bor (i := 4)) (SE.bor (i := 6))) (SGL.val (SE.var (i := 6)) SGL.nil)))))
    (SSs.one (SS.set (i := 6) cx.nd (SE.sub (SE.bor (i := 6)) SE.int)))))
    (SSs.cons (SS.expr (SE.append (i := 2) cx.K (SL.cons (SE.var (i := 6)) SL.nil)))
    (SSs.one (SS.par2 (i := 4) (j := 5) cx (SRs.cons (SE.sub (SE.bor (i := 4)) (SE.bor (i := 6))) (SRs.cons (SE.var (i := 6)) SRs.nil))))))))
    (SSs.one (SS.ret (SE.tupleC cx.K (by rfl) c.z_tuple (SE.bor (i := 2)))))))))
theorem w20 (c : Fc K mg) {k : Nat}
    (h13 : FnOk P w K mg base (L2.CX P w) k c.f13 c.d13 ["parts"] (spD (Gof c) 1 F_check_parts))
    (h15 : FnOk P w K mg base (L2.CX P w) k c.f15 c.d15 ["number", "most"] (spD (Gof c) 2 F_raw_with_most)) :
    FnOk P w K mg base (L2.CX P w) (k + 1) c.f20 c.d20 ["parts"] (spD (Gof c) 1 F_parts_place) :=
  okDefC (G := Gof c) (N := N20) (ps := ["parts"]) (body := D_parts_place) c.F20 sc20 fun A outer s H E O cx =>
    (SSs.cons (SS.expr (SE.callL cx h13 c.F13.toFun c.g13 c.b13 (by rfl) rfl (SGL.val (SE.var (i := 0)) SGL.nil)))
    (SSs.cons (SS.set (i := 1) cx.nd (SE.sumG cx (by rfl) c.z_sum (SE.bor (i := 0))))
    (SSs.cons (SS.par2 (i := 2) (j := 3) cx (SRs.cons SE.int (SRs.cons (SE.var (i := 1)) SRs.nil)))
    (SSs.cons (SS.for cx.own cx.calm (SI.seq cx.K (SE.var (i := 0))) (SP'.name (i := 4) cx.nd) (SSs.cons (SS.set (i := 5) cx.nd (SE.listRg cx (by rfl) c.z_list (SRg.two (by rfl) c.z_range (SE.add cx.K (SE.bor (i := 4)) SE.int) (SE.add cx.K (SE.min2 cx (by rfl) c.z_min (SE.bor (i := 3)) (SE.bor (i := 1))) SE.int))))
    (SSs.cons (SS.set (i := 2) cx.nd (SE.add cx.K (SE.bor (i := 2)) (SE.sum cx (by rfl) c.z_sum (SE.comp (own := [("one", 6)]) cx (blkOk_by (N := N20) (sc := defScope s20) (by decide +kernel)) rfl (by decide) (by decide) (SI.seq cx.K (SE.var (i := 5))) (fun _ _ _ _ _ cx => (SP'.name (i := 6) cx.nd)) (fun _ _ _ _ _ cx => STs.nil) (fun _ _ _ _ _ cx => (SE.callL cx h15 c.F15.toFun c.g15 c.b15 (by rfl) rfl (SGL.val (SE.sub (SE.bor (i := 1)) (SE.bor (i := 6))) (SGL.val (SE.var (i := 6)) SGL.nil))))))))
    (SSs.one (SS.parN (is := [1, 3]) cx (SRs.cons (SE.sub (SE.bor (i := 1)) (SE.bor (i := 4))) (SRs.cons (SE.var (i := 4)) SRs.nil)) (pgs_cons (pg_name (i := 1) cx.nd (by rfl) (by first | exact Or.inl rfl | exact Or.inr rfl)) (pgs_cons (pg_name (i := 3) cx.nd (by rfl) (by first | exact Or.inl rfl | exact Or.inr rfl)) pgs_nil)))))))
    (SSs.one (SS.retV (i := 2)))))))
theorem w21 (c : Fc K mg) {k : Nat} :
    FnOk P w K mg base (L2.CX P w) (k + 1) c.f21 c.d21 ["parts"] (spD (Gof c) 1 F_raw_turned) :=
  okDefC (G := Gof c) (N := N21) (ps := ["parts"]) (body := D_raw_turned) c.F21 sc21 fun A outer s H E O cx =>
    (SSs.cons (SS.set (i := 1) cx.nd (SE.ifx (ST.gt (SE.len cx.K (by rfl) c.z_len (SE.bor (i := 0))) SE.int) (SE.at cx.K (SE.bor (i := 0)) SE.int) SE.int))
    (SSs.one (SS.ret (SE.tupleC cx.K (by rfl) c.z_tuple (SE.comp (own := [("size", 3)]) cx (blkOk_by (N := N21) (sc := defScope s21) (by decide +kernel)) rfl (by decide) (by decide) (SI.rg2 (by rfl) c.z_range SE.int (SE.add cx.K (SE.bor (i := 1)) SE.int)) (fun _ _ _ _ _ cx => (SP'.name (i := 3) cx.nd)) (fun _ _ _ _ _ cx => STs.nil) (fun _ _ _ _ _ cx => (SE.len cx.K (by rfl) c.z_len (SE.comp (own := [("part", 2)]) cx (blkOk_by (by rfl)) rfl (by decide) (by decide) (SI.seq cx.K (SE.var (i := 0))) (fun _ _ _ _ _ cx => (SP'.name (i := 2) cx.nd)) (fun _ _ _ _ _ cx => (STs.one (ST.ge (SE.bor (i := 2)) (SE.bor (i := 3))))) (fun _ _ _ _ _ cx => (SE.var (i := 2)))))))))))
theorem w22 (c : Fc K mg) {k : Nat}
    (h13 : FnOk P w K mg base (L2.CX P w) k c.f13 c.d13 ["parts"] (spD (Gof c) 1 F_check_parts))
    (h21 : FnOk P w K mg base (L2.CX P w) k c.f21 c.d21 ["parts"] (spD (Gof c) 1 F_raw_turned)) :
    FnOk P w K mg base (L2.CX P w) (k + 1) c.f22 c.d22 ["parts"] (spD (Gof c) 1 F_turned_parts) :=
  okDefC (G := Gof c) (N := N22) (ps := ["parts"]) (body := D_turned_parts) c.F22 sc22 fun A outer s H E O cx =>
    (SSs.cons (SS.expr (SE.callL cx h13 c.F13.toFun c.g13 c.b13 (by rfl) rfl (SGL.val (SE.var (i := 0)) SGL.nil)))
    (SSs.one (SS.ret (SE.callL cx h21 c.F21.toFun c.g21 c.b21 (by rfl) rfl (SGL.val (SE.var (i := 0)) SGL.nil)))))
theorem w23 (c : Fc K mg) {k : Nat}
    (h13 : FnOk P w K mg base (L2.CX P w) k c.f13 c.d13 ["parts"] (spD (Gof c) 1 F_check_parts)) :
    FnOk P w K mg base (L2.CX P w) (k + 1) c.f23 c.d23 ["parts"] (spD (Gof c) 1 F_square_in) :=
  okDefC (G := Gof c) (N := N23) (ps := ["parts"]) (body := D_square_in) c.F23 sc23 fun A outer s H E O cx =>
    (SSs.cons (SS.expr (SE.callL cx h13 c.F13.toFun c.g13 c.b13 (by rfl) rfl (SGL.val (SE.var (i := 0)) SGL.nil)))
    (SSs.one (SS.ret (SE.len cx.K (by rfl) c.z_len (SE.comp (own := [("at", 1), ("part", 2)]) cx (blkOk_by (N := N23) (sc := defScope s23) (by decide +kernel)) rfl (by decide) (by decide) (SI.enumG cx.K (by rfl) c.z_enumerate (SE.var (i := 0))) (fun _ _ _ _ _ cx => (SP'.tup cx.K cx.calm (SPs.cons (SP'.name (i := 1) cx.nd) (SPs.cons (SP'.name (i := 2) cx.nd) SPs.nil)) rfl)) (fun _ _ _ _ _ cx => (STs.one (ST.ge (SE.bor (i := 2)) (SE.add cx.K (SE.bor (i := 1)) SE.int)))) (fun _ _ _ _ _ cx => SE.int))))))
theorem w24 (c : Fc K mg) {k : Nat}
    (h13 : FnOk P w K mg base (L2.CX P w) k c.f13 c.d13 ["parts"] (spD (Gof c) 1 F_check_parts))
    (h21 : FnOk P w K mg base (L2.CX P w) k c.f21 c.d21 ["parts"] (spD (Gof c) 1 F_raw_turned)) :
    FnOk P w K mg base (L2.CX P w) (k + 1) c.f24 c.d24 ["parts"] (spD (Gof c) 1 F_own_turned) :=
  okDefC (G := Gof c) (N := N24) (ps := ["parts"]) (body := D_own_turned) c.F24 sc24 fun A outer s H E O cx =>
    (SSs.cons (SS.expr (SE.callL cx h13 c.F13.toFun c.g13 c.b13 (by rfl) rfl (SGL.val (SE.var (i := 0)) SGL.nil)))
    (SSs.one (SS.ret (SE.eq cx (SE.callL cx h21 c.F21.toFun c.g21 c.b21 (by rfl) rfl (SGL.val (SE.var (i := 0)) SGL.nil)) (SE.bor (i := 0))))))
theorem w25 (c : Fc K mg) {k : Nat}
    (h13 : FnOk P w K mg base (L2.CX P w) k c.f13 c.d13 ["parts"] (spD (Gof c) 1 F_check_parts))
    (h17 : FnOk P w K mg base (L2.CX P w) k c.f17 c.d17 ["parts"] (spD (Gof c) 1 F_raw_next)) :
    FnOk P w K mg base (L2.CX P w) (k + 1) c.f25 c.d25 ["parts"] (spD (Gof c) 1 F_next_parts) :=
  okDefC (G := Gof c) (N := N25) (ps := ["parts"]) (body := D_next_parts) c.F25 sc25 fun A outer s H E O cx =>
    (SSs.cons (SS.expr (SE.callL cx h13 c.F13.toFun c.g13 c.b13 (by rfl) rfl (SGL.val (SE.var (i := 0)) SGL.nil)))
    (SSs.one (SS.ret (SE.callL cx h17 c.F17.toFun c.g17 c.b17 (by rfl) rfl (SGL.val (SE.var (i := 0)) SGL.nil)))))
theorem w26 (c : Fc K mg) {k : Nat}
    (h13 : FnOk P w K mg base (L2.CX P w) k c.f13 c.d13 ["parts"] (spD (Gof c) 1 F_check_parts))
    (h21 : FnOk P w K mg base (L2.CX P w) k c.f21 c.d21 ["parts"] (spD (Gof c) 1 F_raw_turned)) :
    FnOk P w K mg base (L2.CX P w) (k + 1) c.f26 c.d26 ["parts"] (spD (Gof c) 1 F_hooks) :=
  okDefC (G := Gof c) (N := N26) (ps := ["parts"]) (body := D_hooks) c.F26 sc26 fun A outer s H E O cx =>
    (SSs.cons (SS.expr (SE.callL cx h13 c.F13.toFun c.g13 c.b13 (by rfl) rfl (SGL.val (SE.var (i := 0)) SGL.nil)))
    (SSs.cons (SS.set (i := 1) cx.nd (SE.callL cx h21 c.F21.toFun c.g21 c.b21 (by rfl) rfl (SGL.val (SE.var (i := 0)) SGL.nil)))
    (SSs.cons (SS.set (i := 2) cx.nd (SE.lst SL.nil))
    (SSs.cons (SS.for cx.own cx.calm (SI.enumG cx.K (by rfl) c.z_enumerate (SE.var (i := 0))) (SP'.tup cx.K cx.calm (SPs.cons (SP'.name (i := 3) cx.nd) (SPs.cons (SP'.name (i := 4) cx.nd) SPs.nil)) rfl) (SSs.one (SS.expr (SE.append (i := 2) cx.K (SL.cons (SE.tupleC cx.K (by rfl) c.z_tuple (SE.comp (own := [("place", 5)]) cx (blkOk_by (N := N26) (sc := defScope s26) (by decide +kernel)) rfl (by decide) (by decide) (SI.rg1 (by rfl) c.z_range (SE.bor (i := 4))) (fun _ _ _ _ _ cx => (SP'.name (i := 5) cx.nd)) (fun _ _ _ _ _ cx => STs.nil) (fun _ _ _ _ _ cx => (SE.sub (SE.sub (SE.add cx.K (SE.sub (SE.bor (i := 4)) (SE.bor (i := 5))) (SE.at cx.K (SE.bor (i := 1)) (SE.bor (i := 5)))) (SE.bor (i := 3))) SE.int)))) SL.nil)))))
    (SSs.one (SS.ret (SE.tupleC cx.K (by rfl) c.z_tuple (SE.bor (i := 2)))))))))
theorem w28 (c : Fc K mg) {k : Nat} :
    FnOk P w K mg base (L2.CX P w) (k + 1) c.f28 c.d28 ["script"] (spD (Gof c) 1 F__law_tape) :=
  okDefC (G := Gof c) (N := N28) (ps := ["script"]) (body := D__law_tape) c.F28 sc28 fun A outer s H E O cx =>
    (SSs.cons (SS.setC (iy := 1) (own := [("cell", 2)]) cx (blkOk_by (N := N28) (sc := defScope s28) (by decide +kernel)) rfl (by decide) (by decide) (by rfl) (by rfl) (by rfl) (by rfl) (by rfl) (SI.seq cx.K (SE.cut (ml := none) (mh := (some (mC (.int 63)))) cx.K (SE.bor (i := 0)) trivial SE.int)) (fun _ _ _ _ _ cx => (SP'.name (i := 2) cx.nd)) (fun _ _ _ _ _ cx => STs.nil) (fun _ _ _ _ _ cx => (SE.abs (by rfl) c.z_abs (SE.intC (by rfl) c.z_int (SE.bor (i := 2))))))
    (SSs.one (SS.ret (SE.lst (SL.cons (SE.var (i := 1)) (SL.cons SE.int (SL.cons SE.int (SL.cons (SE.add cx.K SE.int (SE.len cx.K (by rfl) c.z_len (SE.bor (i := 1)))) (SL.cons SE.int SL.nil)))))))))
theorem w29 (c : Fc K mg) {k : Nat} :
    FnOk P w K mg base (L2.CX P w) (k + 1) c.f29 c.d29 ["tape", "many"] (spD (Gof c) 2 F__law_pick) :=
  okDefC (G := Gof c) (N := N29) (ps := ["tape", "many"]) (body := D__law_pick) c.F29 sc29 fun A outer s H E O cx =>
    (SSs.cons (SS.ite (ST.bool (ST.and (ST.eq cx (SE.at cx.K (SE.bor (i := 0)) SE.int) SE.int) (ST.and1 (ST.lt (SE.at cx.K (SE.bor (i := 0)) SE.int) (SE.len cx.K (by rfl) c.z_len (SE.at cx.K (SE.bor (i := 0)) SE.int)))))) (SSs.cons (SS.set (i := 2) cx.nd (SE.at cx.K (SE.at cx.K (SE.bor (i := 0)) SE.int) (SE.at cx.K (SE.bor (i := 0)) SE.int)))
    (SSs.cons (SS.putL (i := 0) (SE.add cx.K (SE.at cx.K (SE.bor (i := 0)) SE.int) SE.int) SE.int)
    (SSs.cons (SS.putL (i := 0) (SE.mod (SE.intC (by rfl) c.z_int (SE.add cx.K (SE.add cx.K (SE.mul (SE.at cx.K (SE.bor (i := 0)) SE.int) SE.int) (SE.bor (i := 2))) SE.int)) SE.int) SE.int)
    (SSs.one (SS.ite (ST.ge (SE.bor (i := 2)) (SE.pow SE.int SE.int)) (SSs.one (SS.putL (i := 0) (SE.var (i := 2)) SE.int)) SSs.nil))))) SSs.nil)
    (SSs.cons (SS.ite (ST.gt (SE.at cx.K (SE.bor (i := 0)) SE.int) SE.int) (SSs.cons (SS.set (i := 3) cx.nd (SE.mod (SE.intC (by rfl) c.z_int (SE.at cx.K (SE.bor (i := 0)) SE.int)) (SE.bor (i := 1))))
    (SSs.cons (SS.putL (i := 0) (SE.fdiv (SE.at cx.K (SE.bor (i := 0)) SE.int) (SE.bor (i := 1))) SE.int)
    (SSs.one (SS.retV (i := 3))))) SSs.nil)
    (SSs.cons (SS.putL (i := 0) (SE.add cx.K (SE.at cx.K (SE.bor (i := 0)) SE.int) SE.int) SE.int)
    (SSs.cons (SS.set (i := 4) cx.nd (SE.mod (SE.intC (by rfl) c.z_int (SE.mul (SE.intC (by rfl) c.z_int (SE.add cx.K (SE.at cx.K (SE.bor (i := 0)) SE.int) (SE.mul SE.int (SE.at cx.K (SE.bor (i := 0)) SE.int)))) SE.int)) SE.int))
    (SSs.cons (SS.set (i := 4) cx.nd (SE.mod (SE.intC (by rfl) c.z_int (SE.mul (SE.bor (i := 4)) (SE.add cx.K (SE.fdiv (SE.bor (i := 4)) SE.int) SE.int))) SE.int))
    (SSs.cons (SS.set (i := 4) cx.nd (SE.mod (SE.intC (by rfl) c.z_int (SE.mul (SE.bor (i := 4)) (SE.add cx.K (SE.fdiv (SE.bor (i := 4)) SE.int) SE.int))) SE.int))
    (SSs.one (SS.ret (SE.mod (SE.intC (by rfl) c.z_int (SE.fdiv (SE.bor (i := 4)) SE.int)) (SE.bor (i := 1)))))))))))
theorem w30 (c : Fc K mg) {k : Nat}
    (h29 : FnOk P w K mg base (L2.CX P w) k c.f29 c.d29 ["tape", "many"] (spD (Gof c) 2 F__law_pick)) :
    FnOk P w K mg base (L2.CX P w) (k + 1) c.f30 c.d30 ["tape", "things"] (spD (Gof c) 2 F__law_any) :=
  okDefC (G := Gof c) (N := N30) (ps := ["tape", "things"]) (body := D__law_any) c.F30 sc30 fun A outer s H E O cx =>
    (SSs.one (SS.ret (SE.at cx.K (SE.bor (i := 1)) (SE.callL cx h29 c.F29.toFun c.g29 c.b29 (by rfl) rfl (SGL.lend (i := 0) (SGL.val (SE.len cx.K (by rfl) c.z_len (SE.bor (i := 1))) SGL.nil))))))
theorem w31 (c : Fc K mg) {k : Nat}
    (h30 : FnOk P w K mg base (L2.CX P w) k c.f30 c.d30 ["tape", "things"] (spD (Gof c) 2 F__law_any)) :
    FnOk P w K mg base (L2.CX P w) (k + 1) c.f31 c.d31 ["tape"] (spD (Gof c) 1 F__law_deep) :=
  okDefC (G := Gof c) (N := N31) (ps := ["tape"]) (body := D__law_deep) c.F31 sc31 fun A outer s H E O cx =>
    (SSs.cons (SS.set (i := 1) cx.nd (SE.callL cx h30 c.F30.toFun c.g30 c.b30 (by rfl) rfl (SGL.lend (i := 0) (SGL.val (SE.lst (SL.cons SE.non (SL.cons SE.str (SL.cons SE.newK SL.nil)))) SGL.nil))))
    (SSs.cons (SS.for cx.own cx.calm (SI.rg1 (by rfl) c.z_range (SE.callL cx h30 c.F30.toFun c.g30 c.b30 (by rfl) rfl (SGL.lend (i := 0) (SGL.val (SE.lst (SL.cons SE.int (SL.cons SE.int (SL.cons SE.int SL.nil)))) SGL.nil)))) (SP'.name (i := 2) cx.nd) (SSs.one (SS.set (i := 1) cx.nd (SE.callL cx h30 c.F30.toFun c.g30 c.b30 (by rfl) rfl (SGL.lend (i := 0) (SGL.val (SE.lst (SL.cons (SE.tup (SL.cons (SE.var (i := 1)) SL.nil)) (SL.cons (SE.lst (SL.cons (SE.var (i := 1)) SL.nil)) SL.nil))) SGL.nil))))))
    (SSs.one (SS.retV (i := 1)))))
theorem w32 (c : Fc K mg) {k : Nat} :
    FnOk P w K mg base (L2.CX P w) (k + 1) c.f32 c.d32 ["number", "most"] (spD (Gof c) 2 F__law_all) :=
  okDefC (G := Gof c) (N := N32) (ps := ["number", "most"]) (body := D__law_all) c.F32 sc32 fun A outer s H E O cx =>
    (SSs.cons (SS.par2 (i := 2) (j := 3) cx (SRs.cons (SE.lst SL.nil) (SRs.cons (SE.lst (SL.cons (SE.tup (SL.cons (SE.tup SL.nil) (SL.cons (SE.var (i := 0)) (SL.cons (SE.var (i := 1)) SL.nil)))) SL.nil)) SRs.nil)))
    (SSs.cons (SS.while 100000 cx.own (ST.gt (SE.len cx.K (by rfl) c.z_len (SE.bor (i := 3))) SE.int) (SSs.cons (SS.asg (SE.pop (i := 3) cx.K) (SP'.tup cx.K cx.calm (SPs.cons (SP'.name (i := 4) cx.nd) (SPs.cons (SP'.name (i := 5) cx.nd) (SPs.cons (SP'.name (i := 6) cx.nd) SPs.nil))) rfl))
    (SSs.one (SS.ite (ST.eq cx (SE.bor (i := 5)) SE.int) (SSs.one (SS.expr (SE.append (i := 2) cx.K (SL.cons (SE.var (i := 4)) SL.nil)))) (SSs.one (SS.expr (SE.extend (i := 3) cx.K (SL.cons (SE.comp (own := [("part", 7)]) cx (blkOk_by (N := N32) (sc := defScope s32) (by decide +kernel)) rfl (by decide) (by decide) (SI.rg2 (by rfl) c.z_range SE.int (SE.add cx.K (SE.min2 cx (by rfl) c.z_min (SE.bor (i := 5)) (SE.bor (i := 6))) SE.int)) (fun _ _ _ _ _ cx => (SP'.name (i := 7) cx.nd)) (fun _ _ _ _ _ cx => STs.nil) (fun _ _ _ _ _ cx => (SE.tup (SL.cons (SE.add cx.K (SE.bor (i := 4)) (SE.tup (SL.cons (SE.var (i := 7)) SL.nil))) (SL.cons (SE.sub (SE.bor (i := 5)) (SE.bor (i := 7))) (SL.cons (SE.var (i := 7)) SL.nil)))))) SL.nil))))))))
    (SSs.one (SS.retV (i := 2)))))
theorem w33 (c : Fc K mg) {k : Nat} :
    FnOk P w K mg base (L2.CX P w) (k + 1) c.f33 c.d33 ["most"] (spD (Gof c) 1 F__law_table) :=
  okDefC (G := Gof c) (N := N33) (ps := ["most"]) (body := D__law_table) c.F33 sc33 fun A outer s H E O cx =>
    (SSs.cons (SS.set (i := 1) cx.nd (SE.lst (SL.cons (SE.repL (SE.lst (SL.cons SE.int SL.nil)) (SE.add cx.K (SE.bor (i := 0)) SE.int)) SL.nil)))
    (SSs.cons (SS.for cx.own cx.calm (SI.rg2 (by rfl) c.z_range SE.int (SE.add cx.K (SE.bor (i := 0)) SE.int)) (SP'.name (i := 2) cx.nd) (SSs.cons (SS.set (i := 3) cx.nd (SE.lst (SL.cons SE.int SL.nil)))
    (SSs.cons (SS.for cx.own cx.calm (SI.rg2 (by rfl) c.z_range SE.int (SE.add cx.K (SE.bor (i := 0)) SE.int)) (SP'.name (i := 4) cx.nd) (SSs.one (SS.expr (SE.append (i := 3) cx.K (SL.cons (SE.add cx.K (SE.at cx.K (SE.bor (i := 3)) (SE.neg SE.int)) (SE.ifx (ST.le (SE.bor (i := 4)) (SE.bor (i := 2))) (SE.at cx.K (SE.at cx.K (SE.bor (i := 1)) (SE.sub (SE.bor (i := 2)) (SE.bor (i := 4)))) (SE.min2 cx (by rfl) c.z_min (SE.bor (i := 4)) (SE.sub (SE.bor (i := 2)) (SE.bor (i := 4))))) SE.int)) SL.nil)))))
    (SSs.one (SS.expr (SE.append (i := 1) cx.K (SL.cons (SE.var (i := 3)) SL.nil)))))))
    (SSs.one (SS.retV (i := 1)))))
theorem w34 (c : Fc K mg) {k : Nat}
    (h29 : FnOk P w K mg base (L2.CX P w) k c.f29 c.d29 ["tape", "many"] (spD (Gof c) 2 F__law_pick))
    (h30 : FnOk P w K mg base (L2.CX P w) k c.f30 c.d30 ["tape", "things"] (spD (Gof c) 2 F__law_any)) :
    FnOk P w K mg base (L2.CX P w) (k + 1) c.f34 c.d34 ["tape", "most"] (spD (Gof c) 2 F__law_parts) :=
  okDefC (G := Gof c) (N := N34) (ps := ["tape", "most"]) (body := D__law_parts) c.F34 sc34 fun A outer s H E O cx =>
    (SSs.cons (SS.par2 (i := 2) (j := 3) cx (SRs.cons (SE.add cx.K SE.int (SE.callL cx h29 c.F29.toFun c.g29 c.b29 (by rfl) rfl (SGL.lend (i := 0) (SGL.val (SE.var (i := 1)) SGL.nil)))) (SRs.cons (SE.lst SL.nil) SRs.nil)))
    (SSs.cons (SS.set (i := 4) cx.nd (SE.callL cx h30 c.F30.toFun c.g30 c.b30 (by rfl) rfl (SGL.lend (i := 0) (SGL.val (SE.lst (SL.cons SE.int (SL.cons SE.int (SL.cons SE.int (SL.cons SE.int SL.nil))))) SGL.nil))))
    (SSs.cons (SS.for cx.own cx.calm (SI.rg1 (by rfl) c.z_range (SE.bor (i := 1))) (SP'.name (i := 5) cx.nd) (SSs.one (SS.ite (ST.gt (SE.bor (i := 2)) SE.int) (SSs.cons (SS.set (i := 6) cx.nd (SE.add cx.K SE.int (SE.callL cx h29 c.F29.toFun c.g29 c.b29 (by rfl) rfl (SGL.lend (i := 0) (SGL.val (SE.min2 cx (by rfl) c.z_min (SE.bor (i := 2)) (SE.bor (i := 4))) SGL.nil)))))
    (SSs.cons (SS.expr (SE.append (i := 3) cx.K (SL.cons (SE.var (i := 6)) SL.nil)))
    (SSs.one (SS.set (i := 2) cx.nd (SE.sub (SE.bor (i := 2)) (SE.bor (i := 6))))))) SSs.nil)))
    (SSs.one (SS.ret (SE.tupleC cx.K (by rfl) c.z_tuple (SE.rev cx.K (SE.sortedA cx.K (by rfl) c.z_sorted (SE.bor (i := 3))))))))))
theorem w35 (c : Fc K mg) {k : Nat} :
    FnOk P w K mg base (L2.CX P w) (k + 1) c.f35 c.d35 ["parts"] (spD (Gof c) 1 F__law_turned) :=
  okDefC (G := Gof c) (N := N35) (ps := ["parts"]) (body := D__law_turned) c.F35 sc35 fun A outer s H E O cx =>
    (SSs.one (SS.ret (SE.tupleC cx.K (by rfl) c.z_tuple (SE.comp (own := [("size", 2)]) cx (blkOk_by (N := N35) (sc := defScope s35) (by decide +kernel)) rfl (by decide) (by decide) (SI.rg2 (by rfl) c.z_range SE.int (SE.add cx.K (SE.at cx.K (SE.bor (i := 0)) SE.int) SE.int)) (fun _ _ _ _ _ cx => (SP'.name (i := 2) cx.nd)) (fun _ _ _ _ _ cx => STs.nil) (fun _ _ _ _ _ cx => (SE.len cx.K (by rfl) c.z_len (SE.comp (own := [("part", 1)]) cx (blkOk_by (by rfl)) rfl (by decide) (by decide) (SI.seq cx.K (SE.var (i := 0))) (fun _ _ _ _ _ cx => (SP'.name (i := 1) cx.nd)) (fun _ _ _ _ _ cx => (STs.one (ST.ge (SE.bor (i := 1)) (SE.bor (i := 2))))) (fun _ _ _ _ _ cx => SE.int))))))))
theorem w36 (c : Fc K mg) {k : Nat}
    (h30 : FnOk P w K mg base (L2.CX P w) k c.f30 c.d30 ["tape", "things"] (spD (Gof c) 2 F__law_any))
    (h31 : FnOk P w K mg base (L2.CX P w) k c.f31 c.d31 ["tape"] (spD (Gof c) 1 F__law_deep)) :
    FnOk P w K mg base (L2.CX P w) (k + 1) c.f36 c.d36 ["tape"] (spD (Gof c) 1 F__law_no_parts) :=
  okDefC (G := Gof c) (N := N36) (ps := ["tape"]) (body := D__law_no_parts) c.F36 sc36 fun A outer s H E O cx =>
    (SSs.cons (SS.set (i := 1) cx.nd (SE.lst (SL.cons SE.non (SL.cons (SE.lst (SL.cons SE.int SL.nil)) (SL.cons (SE.tup (SL.cons SE.int SL.nil)) (SL.cons (SE.tup (SL.cons SE.int (SL.cons SE.int SL.nil))) (SL.cons (SE.tup (SL.cons (SE.neg SE.int) SL.nil)) (SL.cons (SE.tup (SL.cons SE.bl SL.nil)) (SL.cons (SE.tup (SL.cons SE.str SL.nil)) (SL.cons (SE.tup (SL.cons SE.int SL.nil)) (SL.cons (SE.repTA cx.K (SE.tup (SL.cons SE.int SL.nil)) SE.int) (SL.cons (SE.tup (SL.cons SE.int (SL.cons SE.int SL.nil))) (SL.cons SE.int (SL.cons SE.newK (SL.cons (SE.tup (SL.cons SE.non SL.nil)) (SL.cons SE.str SL.nil))))))))))))))))
    (SSs.cons (SS.expr (SE.append (i := 1) cx.K (SL.cons (SE.tup (SL.cons (SE.tup (SL.cons SE.int SL.nil)) SL.nil)) SL.nil)))
    (SSs.one (SS.ret (SE.callL cx h30 c.F30.toFun c.g30 c.b30 (by rfl) rfl (SGL.lendL (i := 0) (SGL.val (SE.add cx.K (SE.bor (i := 1)) (SE.lst (SL.cons (SE.callL cx h31 c.F31.toFun c.g31 c.b31 (by rfl) rfl (SGL.lend (i := 0) SGL.nil)) SL.nil))) SGL.nil)))))))
theorem w37 (c : Fc K mg) {k : Nat}
    (h30 : FnOk P w K mg base (L2.CX P w) k c.f30 c.d30 ["tape", "things"] (spD (Gof c) 2 F__law_any))
    (h31 : FnOk P w K mg base (L2.CX P w) k c.f31 c.d31 ["tape"] (spD (Gof c) 1 F__law_deep)) :
    FnOk P w K mg base (L2.CX P w) (k + 1) c.f37 c.d37 ["tape"] (spD (Gof c) 1 F__law_no_number) :=
  okDefC (G := Gof c) (N := N37) (ps := ["tape"]) (body := D__law_no_number) c.F37 sc37 fun A outer s H E O cx =>
    (SSs.one (SS.ret (SE.callL cx h30 c.F30.toFun c.g30 c.b30 (by rfl) rfl (SGL.lendL (i := 0) (SGL.val (SE.lst (SL.cons (SE.neg SE.int) (SL.cons SE.int (SL.cons SE.non (SL.cons SE.bl (SL.cons SE.str (SL.cons (SE.tup (SL.cons SE.int SL.nil)) (SL.cons (SE.lst SL.nil) (SL.cons SE.newK (SL.cons (SE.callL cx h31 c.F31.toFun c.g31 c.b31 (by rfl) rfl (SGL.lend (i := 0) SGL.nil)) SL.nil)))))))))) SGL.nil)))))
theorem w39 (c : Fc K mg) {k : Nat} :
    FnOk P w K mg base (L2.CX P w) (k + 1) c.f39 c.d39 ["parts"] (spD (Gof c) 1 F__law_next) :=
  okDefC (G := Gof c) (N := N39) (ps := ["parts"]) (body := D__law_next) c.F39 sc39 fun A outer s H E O cx =>
    (SSs.cons (SS.set (i := 1) cx.nd (SE.len cx.K (by rfl) c.z_len (SE.comp (own := [("part", 2)]) cx (blkOk_by (N := N39) (sc := defScope s39) (by decide +kernel)) rfl (by decide) (by decide) (SI.seq cx.K (SE.var (i := 0))) (fun _ _ _ _ _ cx => (SP'.name (i := 2) cx.nd)) (fun _ _ _ _ _ cx => (STs.one (ST.eq cx (SE.bor (i := 2)) SE.int))) (fun _ _ _ _ _ cx => SE.int))))
    (SSs.cons (SS.ite (ST.eq cx (SE.bor (i := 1)) (SE.len cx.K (by rfl) c.z_len (SE.bor (i := 0)))) (SSs.one (SS.ret SE.non)) SSs.nil)
    (SSs.cons (SS.set (i := 3) cx.nd (SE.sub (SE.sub (SE.len cx.K (by rfl) c.z_len (SE.bor (i := 0))) (SE.bor (i := 1))) SE.int))
    (SSs.cons (SS.par2 (i := 4) (j := 5) cx (SRs.cons (SE.sub (SE.at cx.K (SE.bor (i := 0)) (SE.bor (i := 3))) SE.int) (SRs.cons (SE.add cx.K (SE.bor (i := 1)) (SE.at cx.K (SE.bor (i := 0)) (SE.bor (i := 3)))) SRs.nil)))
    (SSs.cons (SS.set (i := 6) cx.nd (SE.cut (ml := none) (mh := (some (mB 3))) cx.K (SE.bor (i := 0)) trivial (SE.bor (i := 3))))
    (SSs.cons (SS.for cx.own cx.calm (SI.rg1 (by rfl) c.z_range SE.int) (SP'.name (i := 7) cx.nd) (SSs.one (SS.ite (ST.gt (SE.bor (i := 5)) SE.int) (SSs.one (SS.par2 (i := 6) (j := 5) cx (SRs.cons (SE.add cx.K (SE.bor (i := 6)) (SE.tup (SL.cons (SE.min2 cx (by rfl) c.z_min (SE.bor (i := 4)) (SE.bor (i := 5))) SL.nil))) (SRs.cons (SE.sub (SE.bor (i := 5)) (SE.min2 cx (by rfl) c.z_min (SE.bor (i := 4)) (SE.bor (i := 5)))) SRs.nil)))) SSs.nil)))
    (SSs.one (SS.retV (i := 6)))))))))
theorem w40 (c : Fc K mg) {k : Nat} :
    FnOk P w K mg base (L2.CX P w) (k + 1) c.f40 c.d40 ["parts", "table"] (spD (Gof c) 2 F__law_place) :=
  okDefC (G := Gof c) (N := N40) (ps := ["parts", "table"]) (body := D__law_place) c.F40 sc40 fun A outer s H E O cx =>
    (SSs.cons (SS.par3 (i := 2) (j := 3) (l := 4) cx (SRs.cons SE.int (SRs.cons (SE.sumG cx (by rfl) c.z_sum (SE.bor (i := 0))) (SRs.cons (SE.sumG cx (by rfl) c.z_sum (SE.bor (i := 0))) SRs.nil))))
    (SSs.cons (SS.for cx.own cx.calm (SI.seq cx.K (SE.var (i := 0))) (SP'.name (i := 5) cx.nd) (SSs.cons (SS.set (i := 2) cx.nd (SE.sub (SE.add cx.K (SE.bor (i := 2)) (SE.at cx.K (SE.at cx.K (SE.bor (i := 1)) (SE.bor (i := 3))) (SE.min2 cx (by rfl) c.z_min (SE.bor (i := 4)) (SE.bor (i := 3))))) (SE.at cx.K (SE.at cx.K (SE.bor (i := 1)) (SE.bor (i := 3))) (SE.min2 cx (by rfl) c.z_min (SE.bor (i := 5)) (SE.bor (i := 3))))))
    (SSs.one (SS.par2 (i := 3) (j := 4) cx (SRs.cons (SE.sub (SE.bor (i := 3)) (SE.bor (i := 5))) (SRs.cons (SE.var (i := 5)) SRs.nil))))))
    (SSs.one (SS.retV (i := 2)))))
theorem w41 (c : Fc K mg) {k : Nat}
    (h35 : FnOk P w K mg base (L2.CX P w) k c.f35 c.d35 ["parts"] (spD (Gof c) 1 F__law_turned)) :
    FnOk P w K mg base (L2.CX P w) (k + 1) c.f41 c.d41 ["parts"] (spD (Gof c) 1 F__law_hooks) :=
  okDefC (G := Gof c) (N := N41) (ps := ["parts"]) (body := D__law_hooks) c.F41 sc41 fun A outer s H E O cx =>
    (SSs.cons (SS.set (i := 1) cx.nd (SE.callL cx h35 c.F35.toFun c.g35 c.b35 (by rfl) rfl (SGL.val (SE.var (i := 0)) SGL.nil)))
    (SSs.cons (SS.set (i := 2) cx.nd (SE.lst SL.nil))
    (SSs.cons (SS.for cx.own cx.calm (SI.enumG cx.K (by rfl) c.z_enumerate (SE.var (i := 0))) (SP'.tup cx.K cx.calm (SPs.cons (SP'.name (i := 3) cx.nd) (SPs.cons (SP'.name (i := 4) cx.nd) SPs.nil)) rfl) (SSs.one (SS.expr (SE.append (i := 2) cx.K (SL.cons (SE.tupleC cx.K (by rfl) c.z_tuple (SE.comp (own := [("column", 5)]) cx (blkOk_by (N := N41) (sc := defScope s41) (by decide +kernel)) rfl (by decide) (by decide) (SI.rg1 (by rfl) c.z_range (SE.bor (i := 4))) (fun _ _ _ _ _ cx => (SP'.name (i := 5) cx.nd)) (fun _ _ _ _ _ cx => STs.nil) (fun _ _ _ _ _ cx => (SE.sub (SE.sub (SE.add cx.K (SE.sub (SE.bor (i := 4)) (SE.bor (i := 5))) (SE.at cx.K (SE.bor (i := 1)) (SE.bor (i := 5)))) (SE.bor (i := 3))) SE.int)))) SL.nil)))))
    (SSs.one (SS.ret (SE.tupleC cx.K (by rfl) c.z_tuple (SE.bor (i := 2))))))))
theorem w42 (c : Fc K mg) {k : Nat}
    (h16 : FnOk P w K mg base (L2.CX P w) k c.f16 c.d16 ["number"] (spD (Gof c) 1 F_parts_many))
    (h18 : FnOk P w K mg base (L2.CX P w) k c.f18 c.d18 ["number"] (spD (Gof c) 1 F_all_parts))
    (h19 : FnOk P w K mg base (L2.CX P w) k c.f19 c.d19 ["number", "place"] (spD (Gof c) 2 F_parts_at))
    (h20 : FnOk P w K mg base (L2.CX P w) k c.f20 c.d20 ["parts"] (spD (Gof c) 1 F_parts_place))
    (h22 : FnOk P w K mg base (L2.CX P w) k c.f22 c.d22 ["parts"] (spD (Gof c) 1 F_turned_parts))
    (h23 : FnOk P w K mg base (L2.CX P w) k c.f23 c.d23 ["parts"] (spD (Gof c) 1 F_square_in))
    (h24 : FnOk P w K mg base (L2.CX P w) k c.f24 c.d24 ["parts"] (spD (Gof c) 1 F_own_turned))
    (h25 : FnOk P w K mg base (L2.CX P w) k c.f25 c.d25 ["parts"] (spD (Gof c) 1 F_next_parts))
    (h26 : FnOk P w K mg base (L2.CX P w) k c.f26 c.d26 ["parts"] (spD (Gof c) 1 F_hooks))
    (h29 : FnOk P w K mg base (L2.CX P w) k c.f29 c.d29 ["tape", "many"] (spD (Gof c) 2 F__law_pick))
    (h32 : FnOk P w K mg base (L2.CX P w) k c.f32 c.d32 ["number", "most"] (spD (Gof c) 2 F__law_all))
    (h33 : FnOk P w K mg base (L2.CX P w) k c.f33 c.d33 ["most"] (spD (Gof c) 1 F__law_table))
    (h34 : FnOk P w K mg base (L2.CX P w) k c.f34 c.d34 ["tape", "most"] (spD (Gof c) 2 F__law_parts))
    (h35 : FnOk P w K mg base (L2.CX P w) k c.f35 c.d35 ["parts"] (spD (Gof c) 1 F__law_turned))
    (h39 : FnOk P w K mg base (L2.CX P w) k c.f39 c.d39 ["parts"] (spD (Gof c) 1 F__law_next))
    (h40 : FnOk P w K mg base (L2.CX P w) k c.f40 c.d40 ["parts", "table"] (spD (Gof c) 2 F__law_place))
    (h41 : FnOk P w K mg base (L2.CX P w) k c.f41 c.d41 ["parts"] (spD (Gof c) 1 F__law_hooks)) :
    FnG P w K mg base (L2.CX P w) (k + 1) c.f42 c.d42 ["tape"] (spD (Gof c) 1 F__law_is_right) :=
  okDefG (G := Gof c) (N := N42) (ps := ["tape"]) (body := D__law_is_right) c.F42 sc42 fun A outer s H E O cx =>
    (SSs.cons (SS.set (i := 1) cx.nd (SE.callL cx h33 c.F33.toFun c.g33 c.b33 (by rfl) rfl (SGL.val SE.int SGL.nil)))
    (SSs.cons (SS.par2 (i := 2) (j := 3) cx (SRs.cons (SE.callL cx h29 c.F29.toFun c.g29 c.b29 (by rfl) rfl (SGL.lend (i := 0) (SGL.val SE.int SGL.nil))) (SRs.cons (SE.callL cx h29 c.F29.toFun c.g29 c.b29 (by rfl) rfl (SGL.lend (i := 0) (SGL.val SE.int SGL.nil))) SRs.nil)))
    (SSs.cons (SS.ite (ST.ne cx (SE.repr cx (by rfl) c.z_repr (SE.callL cx h16 c.F16.toFun c.g16 c.b16 (by rfl) rfl (SGL.val (SE.var (i := 2)) SGL.nil))) (SE.repr cx (by rfl) c.z_repr (SE.at cx.K (SE.at cx.K (SE.bor (i := 1)) (SE.bor (i := 2))) (SE.bor (i := 2))))) (SSs.one (SS.ret SE.bl)) SSs.nil)
    (SSs.cons (SS.ite (ST.ne cx (SE.repr cx (by rfl) c.z_repr (SE.comp (own := [("row", 4)]) cx (blkOk_by (N := N42) (sc := defScope s42) (by decide +kernel)) rfl (by decide) (by decide) (SI.seq cx.K (SE.callL cx h18 c.F18.toFun c.g18 c.b18 (by rfl) rfl (SGL.val (SE.var (i := 3)) SGL.nil))) (fun _ _ _ _ _ cx => (SP'.name (i := 4) cx.nd)) (fun _ _ _ _ _ cx => STs.nil) (fun _ _ _ _ _ cx => (SE.tupleC cx.K (by rfl) c.z_tuple (SE.bor (i := 4)))))) (SE.repr cx (by rfl) c.z_repr (SE.callL cx h32 c.F32.toFun c.g32 c.b32 (by rfl) rfl (SGL.val (SE.var (i := 3)) (SGL.val (SE.var (i := 3)) SGL.nil))))) (SSs.one (SS.ret SE.bl)) SSs.nil)
    (SSs.cons (SS.set (i := 5) cx.nd (SE.callL cx h34 c.F34.toFun c.g34 c.b34 (by rfl) rfl (SGL.lend (i := 0) (SGL.val SE.int SGL.nil))))
    (SSs.cons (SS.par2 (i := 6) (j := 7) cx (SRs.cons (SE.sumG cx (by rfl) c.z_sum (SE.bor (i := 5))) (SRs.cons (SE.callL cx h40 c.F40.toFun c.g40 c.b40 (by rfl) rfl (SGL.val (SE.var (i := 5)) (SGL.val (SE.var (i := 1)) SGL.nil))) SRs.nil)))
    (SSs.cons (SS.ite (ST.bool (ST.or (ST.ne cx (SE.repr cx (by rfl) c.z_repr (SE.callL cx h20 c.F20.toFun c.g20 c.b20 (by rfl) rfl (SGL.val (SE.var (i := 5)) SGL.nil))) (SE.repr cx (by rfl) c.z_repr (SE.bor (i := 7)))) (ST.or1 (ST.ne cx (SE.repr cx (by rfl) c.z_repr (SE.callL cx h19 c.F19.toFun c.g19 c.b19 (by rfl) rfl (SGL.val (SE.var (i := 6)) (SGL.val (SE.var (i := 7)) SGL.nil)))) (SE.repr cx (by rfl) c.z_repr (SE.bor (i := 5))))))) (SSs.one (SS.ret SE.bl)) SSs.nil)
    (SSs.cons (SS.set (i := 8) cx.nd (SE.callL cx h39 c.F39.toFun c.g39 c.b39 (by rfl) rfl (SGL.val (SE.var (i := 5)) SGL.nil)))
    (SSs.cons (SS.ite (ST.ne cx (SE.repr cx (by rfl) c.z_repr (SE.callL cx h25 c.F25.toFun c.g25 c.b25 (by rfl) rfl (SGL.val (SE.var (i := 5)) SGL.nil))) (SE.repr cx (by rfl) c.z_repr (SE.bor (i := 8)))) (SSs.one (SS.ret SE.bl)) SSs.nil)
    (SSs.cons (SS.ite (ST.bool (ST.and (ST.isn (SE.bor (i := 8)) SE.non) (ST.and1 (ST.ne cx (SE.repr cx (by rfl) c.z_repr (SE.callL cx h19 c.F19.toFun c.g19 c.b19 (by rfl) rfl (SGL.val (SE.var (i := 6)) (SGL.val (SE.add cx.K (SE.bor (i := 7)) SE.int) SGL.nil)))) (SE.repr cx (by rfl) c.z_repr (SE.bor (i := 8))))))) (SSs.one (SS.ret SE.bl)) SSs.nil)
    (SSs.cons (SS.set (i := 9) cx.nd (SE.callL cx h35 c.F35.toFun c.g35 c.b35 (by rfl) rfl (SGL.val (SE.var (i := 5)) SGL.nil)))
    (SSs.cons (SS.ite (ST.ne cx (SE.repr cx (by rfl) c.z_repr (SE.lst (SL.cons (SE.callL cx h22 c.F22.toFun c.g22 c.b22 (by rfl) rfl (SGL.val (SE.var (i := 5)) SGL.nil)) (SL.cons (SE.callL cx h22 c.F22.toFun c.g22 c.b22 (by rfl) rfl (SGL.val (SE.var (i := 9)) SGL.nil)) SL.nil)))) (SE.repr cx (by rfl) c.z_repr (SE.lst (SL.cons (SE.var (i := 9)) (SL.cons (SE.var (i := 5)) SL.nil))))) (SSs.one (SS.ret SE.bl)) SSs.nil)
    (SSs.cons (SS.ite (ST.ne cx (SE.repr cx (by rfl) c.z_repr (SE.callL cx h24 c.F24.toFun c.g24 c.b24 (by rfl) rfl (SGL.val (SE.var (i := 5)) SGL.nil))) (SE.repr cx (by rfl) c.z_repr (SE.eq cx (SE.bor (i := 5)) (SE.bor (i := 9))))) (SSs.one (SS.ret SE.bl)) SSs.nil)
    (SSs.cons (SS.set (i := 10) cx.nd (SE.max cx (by rfl) c.z_max (SE.comp (own := [("size", 11)]) cx (blkOk_by (N := N42) (sc := defScope s42) (by decide +kernel)) rfl (by decide) (by decide) (SI.rg1 (by rfl) c.z_range (SE.add cx.K (SE.len cx.K (by rfl) c.z_len (SE.bor (i := 5))) SE.int)) (fun _ _ _ _ _ cx => (SP'.name (i := 11) cx.nd)) (fun _ _ _ _ _ cx => (STs.one (ST.ge (SE.len cx.K (by rfl) c.z_len (SE.comp (own := [("part", 12)]) cx (blkOk_by (by rfl)) rfl (by decide) (by decide) (SI.seq cx.K (SE.var (i := 5))) (fun _ _ _ _ _ cx => (SP'.name (i := 12) cx.nd)) (fun _ _ _ _ _ cx => (STs.one (ST.ge (SE.bor (i := 12)) (SE.bor (i := 11))))) (fun _ _ _ _ _ cx => SE.int))) (SE.bor (i := 11))))) (fun _ _ _ _ _ cx => (SE.var (i := 11))))))
    (SSs.cons (SS.ite (ST.ne cx (SE.repr cx (by rfl) c.z_repr (SE.lst (SL.cons (SE.callL cx h23 c.F23.toFun c.g23 c.b23 (by rfl) rfl (SGL.val (SE.var (i := 5)) SGL.nil)) (SL.cons (SE.callL cx h23 c.F23.toFun c.g23 c.b23 (by rfl) rfl (SGL.val (SE.var (i := 9)) SGL.nil)) SL.nil)))) (SE.repr cx (by rfl) c.z_repr (SE.lst (SL.cons (SE.var (i := 10)) (SL.cons (SE.var (i := 10)) SL.nil))))) (SSs.one (SS.ret SE.bl)) SSs.nil)
    (SSs.one (SS.ret (SE.eq cx (SE.repr cx (by rfl) c.z_repr (SE.tupleC cx.K (by rfl) c.z_tuple (SE.comp (own := [("row", 4)]) cx (blkOk_by (N := N42) (sc := defScope s42) (by decide +kernel)) rfl (by decide) (by decide) (SI.seq cx.K (SE.callL cx h26 c.F26.toFun c.g26 c.b26 (by rfl) rfl (SGL.val (SE.var (i := 5)) SGL.nil))) (fun _ _ _ _ _ cx => (SP'.name (i := 4) cx.nd)) (fun _ _ _ _ _ cx => STs.nil) (fun _ _ _ _ _ cx => (SE.tupleC cx.K (by rfl) c.z_tuple (SE.bor (i := 4))))))) (SE.repr cx (by rfl) c.z_repr (SE.callL cx h41 c.F41.toFun c.g41 c.b41 (by rfl) rfl (SGL.val (SE.var (i := 5)) SGL.nil)))))))))))))))))))))
theorem w44 (c : Fc K mg) {k : Nat}
    (h16 : FnOk P w K mg base (L2.CX P w) k c.f16 c.d16 ["number"] (spD (Gof c) 1 F_parts_many))
    (h18 : FnOk P w K mg base (L2.CX P w) k c.f18 c.d18 ["number"] (spD (Gof c) 1 F_all_parts))
    (h20 : FnOk P w K mg base (L2.CX P w) k c.f20 c.d20 ["parts"] (spD (Gof c) 1 F_parts_place))
    (h22 : FnOk P w K mg base (L2.CX P w) k c.f22 c.d22 ["parts"] (spD (Gof c) 1 F_turned_parts))
    (h23 : FnOk P w K mg base (L2.CX P w) k c.f23 c.d23 ["parts"] (spD (Gof c) 1 F_square_in))
    (h24 : FnOk P w K mg base (L2.CX P w) k c.f24 c.d24 ["parts"] (spD (Gof c) 1 F_own_turned))
    (h25 : FnOk P w K mg base (L2.CX P w) k c.f25 c.d25 ["parts"] (spD (Gof c) 1 F_next_parts))
    (h26 : FnOk P w K mg base (L2.CX P w) k c.f26 c.d26 ["parts"] (spD (Gof c) 1 F_hooks))
    (TB : LamX.TabB base mg c.cc44 c.P44) :
    FnOk P w K mg base (L2.CX P w) ((k + 2) + 1) c.f44 c.d44 ["asked_one", "thing"] (spD (Gof c) 2 F__law_word_of) :=
  okDefC (G := Gof c) (N := N44) (ps := ["asked_one", "thing"]) (body := D__law_word_of) c.F44 sc44 fun A outer s H E O cx =>
    (SSs.one (SS.ret (SE.lam (cc := c.cc44) (P := c.P44) cx c.F38 c.g38 c.b38 sc38 rfl (Or.inl rfl) (fun hr => says__law_word c rfl rfl hr) (by rfl) TB rfl (tb_mem44 c) (tb_uniq44 c) (LamX.lamS_by (sc := defScope s44) (by decide +kernel)) (fun _ _ _ _ _ _ _ cx => (SE.callV (i := 0) cx (VOk.cons (VOk.one h20 c.F20.toFun c.b20 rfl rfl) (VOk.cons (VOk.one h22 c.F22.toFun c.b22 rfl rfl) (VOk.cons (VOk.one h23 c.F23.toFun c.b23 rfl rfl) (VOk.cons (VOk.one h24 c.F24.toFun c.b24 rfl rfl) (VOk.cons (VOk.one h25 c.F25.toFun c.b25 rfl rfl) (VOk.cons (VOk.one h26 c.F26.toFun c.b26 rfl rfl) (VOk.cons (VOk.one h18 c.F18.toFun c.b18 rfl rfl) (VOk.cons (VOk.one h16 c.F16.toFun c.b16 rfl rfl) VOk.nil)))))))) (SGL.val (SE.var (i := 1)) SGL.nil))))))
theorem w43 (c : Fc K mg) {k : Nat}
    (h19 : FnOk P w K mg base (L2.CX P w) k c.f19 c.d19 ["number", "place"] (spD (Gof c) 2 F_parts_at))
    (h30 : FnOk P w K mg base (L2.CX P w) k c.f30 c.d30 ["tape", "things"] (spD (Gof c) 2 F__law_any))
    (h31 : FnOk P w K mg base (L2.CX P w) k c.f31 c.d31 ["tape"] (spD (Gof c) 1 F__law_deep))
    (h36 : FnOk P w K mg base (L2.CX P w) k c.f36 c.d36 ["tape"] (spD (Gof c) 1 F__law_no_parts))
    (h37 : FnOk P w K mg base (L2.CX P w) k c.f37 c.d37 ["tape"] (spD (Gof c) 1 F__law_no_number))
    (h44 : FnOk P w K mg base (L2.CX P w) k c.f44 c.d44 ["asked_one", "thing"] (spD (Gof c) 2 F__law_word_of))
    (TB : LamX.TabB base mg c.cc43 c.P43) :
    FnOk P w K mg base (L2.CX P w) ((k + 2) + 1) c.f43 c.d43 ["tape"] (spD (Gof c) 1 F__law_is_refused) :=
  okDefC (G := Gof c) (N := N43) (ps := ["tape"]) (body := D__law_is_refused) c.F43 sc43 fun A outer s H E O cx =>
    (SSs.cons (SS.parN (is := [1, 2, 3]) cx (SRs.cons (SE.callL cx (h36.mono (Nat.le_add_right _ _)) c.F36.toFun c.g36 c.b36 (by rfl) rfl (SGL.lend (i := 0) SGL.nil)) (SRs.cons (SE.callL cx (h37.mono (Nat.le_add_right _ _)) c.F37.toFun c.g37 c.b37 (by rfl) rfl (SGL.lend (i := 0) SGL.nil)) (SRs.cons (SE.lst SL.nil) SRs.nil))) (pgs_cons (pg_name (i := 1) cx.nd (by rfl) (by first | exact Or.inl rfl | exact Or.inr rfl)) (pgs_cons (pg_name (i := 2) cx.nd (by rfl) (by first | exact Or.inl rfl | exact Or.inr rfl)) (pgs_cons (pg_name (i := 3) cx.nd (by rfl) (by first | exact Or.inl rfl | exact Or.inr rfl)) pgs_nil))))
    (SSs.cons (SS.for cx.own cx.calm (SI.seq cx.K (SE.tup (SL.cons (SE.fn (by rfl) c.g20 rfl) (SL.cons (SE.fn (by rfl) c.g22 rfl) (SL.cons (SE.fn (by rfl) c.g23 rfl) (SL.cons (SE.fn (by rfl) c.g24 rfl) (SL.cons (SE.fn (by rfl) c.g25 rfl) (SL.cons (SE.fn (by rfl) c.g26 rfl) SL.nil)))))))) (SP'.name (i := 4) cx.nd) (SSs.one (SS.expr (SE.append (i := 3) cx.K (SL.cons (SE.callL cx (h44.mono (Nat.le_add_right _ _)) c.F44.toFun c.g44 c.b44 (by rfl) rfl (SGL.val (SE.var (i := 4)) (SGL.val (SE.var (i := 1)) SGL.nil))) SL.nil)))))
    (SSs.cons (SS.set (i := 3) cx.nd (SE.add cx.K (SE.bor (i := 3)) (SE.lst (SL.cons (SE.callL cx (h44.mono (Nat.le_add_right _ _)) c.F44.toFun c.g44 c.b44 (by rfl) rfl (SGL.val (SE.fn (by rfl) c.g16 rfl) (SGL.val (SE.var (i := 2)) SGL.nil))) SL.nil))))
    (SSs.cons (SS.expr (SE.append (i := 3) cx.K (SL.cons (SE.callL cx (h44.mono (Nat.le_add_right _ _)) c.F44.toFun c.g44 c.b44 (by rfl) rfl (SGL.val (SE.fn (by rfl) c.g18 rfl) (SGL.val (SE.callL cx (h30.mono (Nat.le_add_right _ _)) c.F30.toFun c.g30 c.b30 (by rfl) rfl (SGL.lend (i := 0) (SGL.val (SE.lst (SL.cons SE.int (SL.cons (SE.neg SE.int) (SL.cons SE.non (SL.cons SE.bl (SL.cons SE.str SL.nil)))))) SGL.nil))) SGL.nil))) SL.nil)))
    (SSs.cons (SS.set (i := 5) cx.nd (SE.callL cx (h30.mono (Nat.le_add_right _ _)) c.F30.toFun c.g30 c.b30 (by rfl) rfl (SGL.lendL (i := 0) (SGL.val (SE.lst (SL.cons SE.int (SL.cons (SE.neg SE.int) (SL.cons SE.non (SL.cons SE.bl (SL.cons SE.str (SL.cons (SE.tup (SL.cons SE.int SL.nil)) (SL.cons (SE.lst SL.nil) (SL.cons (SE.callL cx (h31.mono (Nat.le_add_right _ _)) c.F31.toFun c.g31 c.b31 (by rfl) rfl (SGL.lend (i := 0) SGL.nil)) SL.nil))))))))) SGL.nil))))
    (SSs.cons (SS.expr (SE.append (i := 3) cx.K (SL.cons (SE.saidF (SE.lam (cc := c.cc43) (P := c.P43) cx c.F38 c.g38 c.b38 sc38 rfl (Or.inl rfl) (fun hr => says__law_word c rfl rfl hr) (by rfl) TB rfl (tb_mem43 c) (tb_uniq43 c) (LamX.lamS_by (sc := defScope s43) (by decide +kernel)) (fun _ _ _ _ _ _ _ cx => (SE.callL cx h19 c.F19.toFun c.g19 c.b19 (by rfl) rfl (SGL.val (SE.var (i := 2)) (SGL.val (SE.var (i := 5)) SGL.nil)))))) SL.nil)))
    (SSs.cons (SS.expr (SE.append (i := 3) cx.K (SL.cons (SE.saidF (SE.lam (cc := c.cc43) (P := c.P43) cx c.F38 c.g38 c.b38 sc38 rfl (Or.inl rfl) (fun hr => says__law_word c rfl rfl hr) (by rfl) TB rfl (tb_mem43 c) (tb_uniq43 c) (LamX.lamS_by (sc := defScope s43) (by decide +kernel)) (fun _ _ _ _ _ _ _ cx => (SE.callL cx h19 c.F19.toFun c.g19 c.b19 (by rfl) rfl (SGL.val SE.int (SGL.val (SE.var (i := 5)) SGL.nil)))))) SL.nil)))
    (SSs.one (SS.ret (SE.eq cx (SE.bor (i := 3)) (SE.add cx.K (SE.add cx.K (SE.repL (SE.lst (SL.cons SE.str SL.nil)) SE.int) (SE.repL (SE.lst (SL.cons SE.str SL.nil)) SE.int)) (SE.lst (SL.cons SE.str SL.nil)))))))))))))
theorem w45 (c : Fc K mg) {k : Nat}
    (h16 : FnOk P w K mg base (L2.CX P w) k c.f16 c.d16 ["number"] (spD (Gof c) 1 F_parts_many))
    (h19 : FnOk P w K mg base (L2.CX P w) k c.f19 c.d19 ["number", "place"] (spD (Gof c) 2 F_parts_at))
    (h20 : FnOk P w K mg base (L2.CX P w) k c.f20 c.d20 ["parts"] (spD (Gof c) 1 F_parts_place))
    (h22 : FnOk P w K mg base (L2.CX P w) k c.f22 c.d22 ["parts"] (spD (Gof c) 1 F_turned_parts))
    (h23 : FnOk P w K mg base (L2.CX P w) k c.f23 c.d23 ["parts"] (spD (Gof c) 1 F_square_in))
    (h24 : FnOk P w K mg base (L2.CX P w) k c.f24 c.d24 ["parts"] (spD (Gof c) 1 F_own_turned))
    (h25 : FnOk P w K mg base (L2.CX P w) k c.f25 c.d25 ["parts"] (spD (Gof c) 1 F_next_parts))
    (h26 : FnOk P w K mg base (L2.CX P w) k c.f26 c.d26 ["parts"] (spD (Gof c) 1 F_hooks))
    (h28 : FnOk P w K mg base (L2.CX P w) k c.f28 c.d28 ["script"] (spD (Gof c) 1 F__law_tape))
    (h42 : FnG P w K mg base (L2.CX P w) k c.f42 c.d42 ["tape"] (spD (Gof c) 1 F__law_is_right))
    (h43 : FnOk P w K mg base (L2.CX P w) k c.f43 c.d43 ["tape"] (spD (Gof c) 1 F__law_is_refused)) :
    FnG P w K mg base (L2.CX P w) (k + 1) c.f45 c.d45 ["script"] (spD (Gof c) 1 F_law) :=
  okDefG (G := Gof c) (N := N45) (ps := ["script"]) (body := D_law) c.F45 sc45 fun A outer s H E O cx =>
    (SSs.cons (SS.set (i := 1) cx.nd (SE.callL cx h28 c.F28.toFun c.g28 c.b28 (by rfl) rfl (SGL.val (SE.var (i := 0)) SGL.nil)))
    (SSs.cons (SS.set (i := 2) cx.nd (SE.lst (SL.cons (SE.callL cx h16 c.F16.toFun c.g16 c.b16 (by rfl) rfl (SGL.val SE.int SGL.nil)) (SL.cons (SE.callL cx h16 c.F16.toFun c.g16 c.b16 (by rfl) rfl (SGL.val SE.int SGL.nil)) (SL.cons (SE.callL cx h16 c.F16.toFun c.g16 c.b16 (by rfl) rfl (SGL.val SE.int SGL.nil)) (SL.cons (SE.callL cx h19 c.F19.toFun c.g19 c.b19 (by rfl) rfl (SGL.val SE.int (SGL.val SE.int SGL.nil))) (SL.cons (SE.callL cx h20 c.F20.toFun c.g20 c.b20 (by rfl) rfl (SGL.val (SE.tup (SL.cons SE.int (SL.cons SE.int (SL.cons SE.int SL.nil)))) SGL.nil)) SL.nil)))))))
    (SSs.cons (SS.set (i := 2) cx.nd (SE.add cx.K (SE.bor (i := 2)) (SE.lst (SL.cons (SE.callL cx h22 c.F22.toFun c.g22 c.b22 (by rfl) rfl (SGL.val (SE.tup (SL.cons SE.int (SL.cons SE.int SL.nil))) SGL.nil)) (SL.cons (SE.callL cx h23 c.F23.toFun c.g23 c.b23 (by rfl) rfl (SGL.val (SE.tup (SL.cons SE.int (SL.cons SE.int (SL.cons SE.int SL.nil)))) SGL.nil)) SL.nil)))))
    (SSs.cons (SS.ite (ST.bool (ST.or (ST.ne cx (SE.bor (i := 2)) (SE.lst (SL.cons SE.int (SL.cons SE.int (SL.cons SE.int (SL.cons (SE.tup (SL.cons SE.int (SL.cons SE.int SL.nil))) (SL.cons SE.int (SL.cons (SE.tup (SL.cons SE.int (SL.cons SE.int (SL.cons SE.int (SL.cons SE.int SL.nil))))) (SL.cons SE.int SL.nil))))))))) (ST.or1 (ST.ne cx (SE.callL cx h25 c.F25.toFun c.g25 c.b25 (by rfl) rfl (SGL.val (SE.tup (SL.cons SE.int (SL.cons SE.int (SL.cons SE.int SL.nil)))) SGL.nil)) (SE.tup (SL.cons SE.int (SL.cons SE.int (SL.cons SE.int SL.nil)))))))) (SSs.one (SS.ret SE.bl)) SSs.nil)
    (SSs.cons (SS.ite (ST.isn (SE.callL cx h25 c.F25.toFun c.g25 c.b25 (by rfl) rfl (SGL.val (SE.tup (SL.cons SE.int (SL.cons SE.int SL.nil))) SGL.nil)) SE.non) (SSs.one (SS.ret SE.bl)) SSs.nil)
    (SSs.cons (SS.ite (ST.ne cx (SE.tupleC cx.K (by rfl) c.z_tuple (SE.comp (own := [("row", 3)]) cx (blkOk_by (N := N45) (sc := defScope s45) (by decide +kernel)) rfl (by decide) (by decide) (SI.seq cx.K (SE.callL cx h26 c.F26.toFun c.g26 c.b26 (by rfl) rfl (SGL.val (SE.tup (SL.cons SE.int (SL.cons SE.int SL.nil))) SGL.nil))) (fun _ _ _ _ _ cx => (SP'.name (i := 3) cx.nd)) (fun _ _ _ _ _ cx => STs.nil) (fun _ _ _ _ _ cx => (SE.tupleC cx.K (by rfl) c.z_tuple (SE.bor (i := 3)))))) (SE.tup (SL.cons (SE.tup (SL.cons SE.int (SL.cons SE.int (SL.cons SE.int SL.nil)))) (SL.cons (SE.tup (SL.cons SE.int SL.nil)) SL.nil)))) (SSs.one (SS.ret SE.bl)) SSs.nil)
    (SSs.cons (SS.ite (ST.isn (SE.callL cx h24 c.F24.toFun c.g24 c.b24 (by rfl) rfl (SGL.val (SE.tup (SL.cons SE.int (SL.cons SE.int SL.nil))) SGL.nil)) SE.bl) (SSs.one (SS.ret SE.bl)) SSs.nil)
    (SSs.cons (SS.for cx.own cx.calm (SI.rg1 (by rfl) c.z_range SE.int) (SP'.name (i := 4) cx.nd) (SSs.one (SS.ite (ST.bool (ST.or (ST.not (ST.tru cx.K (SE.callG cx h42 c.F42.toFun c.g42 c.b42 (by rfl) rfl (SGL.lend (i := 1) SGL.nil)))) (ST.or1 (ST.not (ST.tru cx.K (SE.callL cx h43 c.F43.toFun c.g43 c.b43 (by rfl) rfl (SGL.lend (i := 1) SGL.nil))))))) (SSs.one (SS.ret SE.bl)) SSs.nil)))
    (SSs.one (SS.ret SE.bl))))))))))
end
end K62

set_option Elab.async false
set_option linter.all false
set_option maxRecDepth 100000
/-! Plain: parts of numbers. -/
namespace PF
/-- how many parts of n have none above k -/
def pm (n k : Nat) : Nat := match k with
  | 0 => if n = 0 then 1 else 0
  | k + 1 => pm n k + if h : k + 1 ≤ n then pm (n - (k + 1)) (k + 1) else 0
termination_by n + k
decreasing_by all_goals omega
theorem pm_0 (n : Nat) : pm n 0 = if n = 0 then 1 else 0 := by rw [pm]
theorem pm_s (n k : Nat) : pm n (k + 1) = pm n k + if k + 1 ≤ n then pm (n - (k + 1)) (k + 1) else 0 := by
  rw [pm]
  by_cases h : k + 1 ≤ n <;> simp [h]
theorem pm_zero : ∀ k, pm 0 k = 1
  | 0 => by simp [pm_0]
  | k + 1 => by rw [pm_s, pm_zero k]; simp
theorem pm_big (n : Nat) : ∀ d, pm n (n + d) = pm n n
  | 0 => rfl
  | d + 1 => by
    rw [show n + (d + 1) = (n + d) + 1 by omega, pm_s, if_neg (by omega), pm_big n d]
    rfl
theorem pm_min (n k : Nat) : pm n (min k n) = pm n k := by
  by_cases h : k ≤ n
  · rw [Nat.min_eq_left h]
  · rw [Nat.min_eq_right (by omega)]
    have := pm_big n (k - n)
    rw [show n + (k - n) = k by omega] at this
    exact this.symm
theorem pm_le_s (n k : Nat) : pm n k ≤ pm n (k + 1) := by rw [pm_s]; omega
theorem pm_mono {n a b : Nat} (h : a ≤ b) : pm n a ≤ pm n b := by
  induction b with
  | zero => rw [show a = 0 by omega]; exact Nat.le_refl _
  | succ b ih =>
    by_cases z : a = b + 1
    · rw [z]; exact Nat.le_refl _
    · exact Nat.le_trans (ih (by omega)) (pm_le_s n b)
theorem pm_one : ∀ n, pm n 1 = 1
  | 0 => pm_zero 1
  | n + 1 => by
    rw [pm_s, pm_0, if_neg (by omega), if_pos (by omega)]
    simp [pm_one n]
theorem pm_pos {n k : Nat} (h : 0 < k) : 1 ≤ pm n k := by
  have := pm_mono (n := n) (a := 1) (b := k) h
  rw [pm_one] at this
  exact this
/-- one part out -/
theorem pm_out {n p : Nat} (h1 : 1 ≤ p) (h2 : p ≤ n) : pm n p = pm n (p - 1) + pm (n - p) p := by
  obtain ⟨q, rfl⟩ : ∃ q, p = q + 1 := ⟨p - 1, by omega⟩
  rw [pm_s, if_pos h2]
  rfl
/-- those with a part from a on to a + d -/
def sg (n a : Nat) : Nat → Nat
  | 0 => 0
  | d + 1 => sg n a d + pm (n - (a + d + 1)) (a + d + 1)
theorem tele {n a : Nat} : ∀ d, a + d ≤ n → pm n (a + d) = pm n a + sg n a d
  | 0, _ => rfl
  | d + 1, h => by
    rw [show a + (d + 1) = (a + d) + 1 by omega, pm_s, tele d (by omega), if_pos (by omega), sg]
    omega
/-! parts -/
def Pt : Nat → Nat → List Nat → Prop
  | n, _, [] => n = 0
  | n, k, p :: ps => 1 ≤ p ∧ p ≤ k ∧ p ≤ n ∧ Pt (n - p) p ps
/-- the place, descending -/
def pl : Nat → Nat → List Nat → Nat
  | _, _, [] => 0
  | n, k, p :: ps => (pm n k - pm n p) + pl (n - p) p ps
theorem pl_lt : ∀ {ps : List Nat} {n k : Nat}, Pt n k ps → pl n k ps < pm n k
  | [], n, k, h => by
    have h : n = 0 := h
    subst h
    rw [pm_zero]
    exact Nat.one_pos
  | p :: ps, n, k, ⟨h1, h2, h3, h4⟩ => by
    have ih := pl_lt h4
    have o := pm_out h1 h3
    have m := pm_mono (n := n) h2
    show (pm n k - pm n p) + pl (n - p) p ps < pm n k
    omega
theorem Pt.sum : ∀ {ps : List Nat} {n k : Nat}, Pt n k ps → ps.sum = n
  | [], n, k, h => by have h : n = 0 := h; simp [h]
  | p :: ps, n, k, ⟨h1, h2, h3, h4⟩ => by
    have := Pt.sum h4
    rw [List.sum_cons, this]
    omega
theorem Pt.le : ∀ {ps : List Nat} {n k : Nat}, Pt n k ps → ∀ x ∈ ps, 1 ≤ x ∧ x ≤ k
  | [], n, k, _, x, hx => by simp at hx
  | p :: ps, n, k, ⟨h1, h2, h3, h4⟩, x, hx => by
    rcases List.mem_cons.1 hx with rfl | hx
    · exact ⟨h1, h2⟩
    · have := Pt.le h4 x hx
      exact ⟨this.1, by omega⟩
theorem Pt.desc : ∀ {ps : List Nat} {n k : Nat}, Pt n k ps → ps.Pairwise (· ≥ ·)
  | [], n, k, _ => List.Pairwise.nil
  | p :: ps, n, k, ⟨h1, h2, h3, h4⟩ => List.Pairwise.cons (fun x hx => (Pt.le h4 x hx).2) (Pt.desc h4)
theorem Pt.len : ∀ {ps : List Nat} {n k : Nat}, Pt n k ps → ps.length ≤ n
  | [], n, k, _ => by simp
  | p :: ps, n, k, ⟨h1, h2, h3, h4⟩ => by
    have := Pt.len h4
    simp only [List.length_cons]
    omega
theorem Pt.of : ∀ {ps : List Nat} {k : Nat}, ps.Pairwise (· ≥ ·) → (∀ x ∈ ps, 1 ≤ x ∧ x ≤ k) → Pt ps.sum k ps
  | [], k, _, _ => rfl
  | p :: ps, k, h, hk => by
    obtain ⟨h1, h2⟩ := List.pairwise_cons.1 h
    obtain ⟨a, b⟩ := hk p List.mem_cons_self
    refine ⟨a, b, by rw [List.sum_cons]; omega, ?_⟩
    rw [List.sum_cons, Nat.add_sub_cancel_left]
    exact Pt.of h2 fun x hx => ⟨(hk x (List.mem_cons_of_mem _ hx)).1, h1 x hx⟩
/-! the first ones -/
inductive Fill (k : Nat) : Nat → List Nat → Prop where
  | nil : Fill k 0 []
  | cons {n : Nat} {l : List Nat} : 0 < n → Fill k (n - min k n) l → Fill k n (min k n :: l)
theorem Fill.ex {k : Nat} (hk : 0 < k) (n : Nat) : ∃ l, Fill k n l := by
  induction n using Nat.strongRecOn with
  | ind n ih =>
    by_cases z : n = 0
    · subst z; exact ⟨[], .nil⟩
    · obtain ⟨l, h⟩ := ih (n - min k n) (by omega)
      exact ⟨_, .cons (by omega) h⟩
theorem Fill.inv {k n : Nat} {l : List Nat} (h : Fill k n l) (hn : 0 < n) : ∃ t, l = min k n :: t ∧ Fill k (n - min k n) t := by
  cases h with
  | nil => omega
  | cons _ h => exact ⟨_, rfl, h⟩
theorem Fill.zero {k : Nat} {l : List Nat} (h : Fill k 0 l) : l = [] := by
  cases h with
  | nil => rfl
  | cons h => omega
theorem Fill.pt {k n : Nat} {l : List Nat} (hk : 0 < k) (h : Fill k n l) : Pt n k l := by
  induction h with
  | nil => rfl
  | @cons n l hn h ih =>
    refine ⟨by omega, by omega, by omega, ?_⟩
    by_cases z : k ≤ n
    · rw [Nat.min_eq_left z] at ih ⊢; exact ih
    · rw [Nat.min_eq_right (by omega), Nat.sub_self] at h
      rw [Fill.zero h]
      show n - min k n = 0
      omega
theorem Fill.pl {k n : Nat} {l : List Nat} (hk : 0 < k) (h : Fill k n l) : pl n k l = 0 := by
  induction h with
  | nil => rfl
  | @cons n l hn h ih =>
    show (pm n k - pm n (min k n)) + PF.pl (n - min k n) (min k n) l = 0
    rw [pm_min, Nat.sub_self, Nat.zero_add]
    by_cases z : k ≤ n
    · rw [Nat.min_eq_left z] at ih ⊢; exact ih
    · rw [Nat.min_eq_right (by omega), Nat.sub_self] at h
      rw [Fill.zero h]
      rfl
/-! the next ones -/
theorem ones_pt : ∀ m k, (m = 0 ∨ 0 < k) → Pt m k (List.replicate m 1)
  | 0, k, _ => rfl
  | m + 1, k, h => ⟨Nat.le_refl _, by omega, by omega, by simpa using ones_pt m 1 (.inr Nat.one_pos)⟩
theorem ones_pl1 : ∀ m, pl m 1 (List.replicate m 1) = 0
  | 0 => rfl
  | m + 1 => by
    show (pm (m + 1) 1 - pm (m + 1) 1) + pl (m + 1 - 1) 1 (List.replicate m 1) = 0
    rw [Nat.sub_self, Nat.add_sub_cancel, ones_pl1 m]
theorem ones_pl {m k : Nat} (hk : 0 < k) : pl m k (List.replicate m 1) + 1 = pm m k := by
  cases m with
  | zero => rw [pm_zero]; rfl
  | succ m =>
    show (pm (m + 1) k - pm (m + 1) 1) + pl (m + 1 - 1) 1 (List.replicate m 1) + 1 = _
    rw [Nat.add_sub_cancel, ones_pl1, pm_one]
    have := pm_pos (n := m + 1) hk
    omega
theorem next_pl {a m : Nat} {l : List Nat} (ha : 2 ≤ a) (hf : Fill (a - 1) (m + 1) l) : ∀ {pre : List Nat} {n k : Nat}, Pt n k (pre ++ a :: List.replicate m 1) → Pt n k (pre ++ (a - 1) :: l) ∧ pl n k (pre ++ (a - 1) :: l) = pl n k (pre ++ a :: List.replicate m 1) + 1
  | [], n, k, h => by
    obtain ⟨h1, h2, h3, h4⟩ := h
    have hn : n = a + m := by
      have := Pt.sum h4
      simp at this
      omega
    subst hn
    refine ⟨⟨by omega, by omega, by omega, ?_⟩, ?_⟩
    · rw [show a + m - (a - 1) = m + 1 by omega]; exact hf.pt (by omega)
    · show (pm (a + m) k - pm (a + m) (a - 1)) + pl (a + m - (a - 1)) (a - 1) l = (pm (a + m) k - pm (a + m) a) + pl (a + m - a) a (List.replicate m 1) + 1
      have e1 : pl (a + m - (a - 1)) (a - 1) l = 0 := by rw [show a + m - (a - 1) = m + 1 by omega]; exact hf.pl (by omega)
      have e2 := ones_pl (m := m) (k := a) (by omega)
      have o := pm_out (n := a + m) (p := a) (by omega) (by omega)
      have mo := pm_mono (n := a + m) h2
      rw [Nat.add_sub_cancel_left] at o ⊢
      omega
  | p :: pre, n, k, h => by
    obtain ⟨h1, h2, h3, h4⟩ := h
    obtain ⟨i1, i2⟩ := next_pl ha hf h4
    refine ⟨⟨h1, h2, h3, i1⟩, ?_⟩
    show (pm n k - pm n p) + pl (n - p) p (pre ++ (a - 1) :: l) = (pm n k - pm n p) + pl (n - p) p (pre ++ a :: List.replicate m 1) + 1
    omega
/-- all ones, or a greater one ahead of them -/
theorem split_ones : ∀ {ps : List Nat}, ps.Pairwise (· ≥ ·) → (∀ x ∈ ps, 1 ≤ x) → (∃ m, ps = List.replicate m 1) ∨ ∃ pre a m, ps = pre ++ a :: List.replicate m 1 ∧ 2 ≤ a ∧ ∀ x ∈ pre, 2 ≤ x
  | [], _, _ => .inl ⟨0, rfl⟩
  | p :: ps, h, hk => by
    obtain ⟨h1, h2⟩ := List.pairwise_cons.1 h
    have hp := hk p List.mem_cons_self
    rcases split_ones h2 fun x hx => hk x (List.mem_cons_of_mem _ hx) with ⟨m, rfl⟩ | ⟨pre, a, m, rfl, ha, hx⟩
    · by_cases z : p = 1
      · subst z; exact .inl ⟨m + 1, rfl⟩
      · exact .inr ⟨[], p, m, rfl, by omega, by simp⟩
    · refine .inr ⟨p :: pre, a, m, rfl, ha, fun x hx' => ?_⟩
      rcases List.mem_cons.1 hx' with rfl | hx'
      · have : x ≥ a := h1 a (by simp)
        omega
      · exact hx x hx'
/-! turned -/
def cnt (ps : List Nat) (j : Nat) : Nat := (ps.filter fun p => decide (j + 1 ≤ p)).length
def cj (ps : List Nat) : List Nat := (List.range (ps.getD 0 0)).map (cnt ps)
theorem cnt_iff : ∀ {ps : List Nat}, ps.Pairwise (· ≥ ·) → ∀ i j, i < cnt ps j ↔ j < ps.getD i 0
  | [], _, i, j => by simp [cnt]
  | p :: ps, h, i, j => by
    obtain ⟨h1, h2⟩ := List.pairwise_cons.1 h
    by_cases c : j + 1 ≤ p
    · have e : cnt (p :: ps) j = cnt ps j + 1 := by unfold cnt; rw [List.filter_cons_of_pos (by simpa using c)]; rfl
      rw [e]
      cases i with
      | zero => simp; omega
      | succ i =>
        have := cnt_iff h2 i j
        rw [show (p :: ps).getD (i + 1) 0 = ps.getD i 0 from rfl, ← this]
        omega
    · have e : cnt (p :: ps) j = 0 := by
        unfold cnt
        rw [List.length_eq_zero_iff, List.filter_eq_nil_iff]
        intro x hx
        rcases List.mem_cons.1 hx with rfl | hx
        · simpa using c
        · have : p ≥ x := h1 x hx
          simp; omega
      rw [e]
      have : (p :: ps).getD i 0 ≤ p := by
        cases i with
        | zero => exact Nat.le_refl _
        | succ i =>
          show ps.getD i 0 ≤ p
          rw [List.getD_eq_getElem?_getD]
          cases q : ps[i]? with
          | none => simp
          | some x => exact h1 x (List.mem_of_getElem? q)
      omega
theorem cj_get {ps : List Nat} (h : ps.Pairwise (· ≥ ·)) (j : Nat) : (cj ps).getD j 0 = cnt ps j := by
  unfold cj
  rw [List.getD_eq_getElem?_getD, List.getElem?_map]
  by_cases z : j < ps.getD 0 0
  · rw [List.getElem?_range z]; rfl
  · rw [List.getElem?_eq_none (by simpa using z)]
    have := cnt_iff h 0 j
    simp only [Option.map_none, Option.getD_none]
    omega
theorem cnt_mono (ps : List Nat) {i j : Nat} (h : i ≤ j) : cnt ps j ≤ cnt ps i := by
  unfold cnt
  induction ps with
  | nil => simp
  | cons p ps ih =>
    by_cases c : j + 1 ≤ p
    · rw [List.filter_cons_of_pos (by simpa using c), List.filter_cons_of_pos (by simp; omega)]
      simp only [List.length_cons]
      omega
    · rw [List.filter_cons_of_neg (by simpa using c)]
      refine Nat.le_trans ih ?_
      by_cases d : i + 1 ≤ p
      · rw [List.filter_cons_of_pos (by simpa using d)]; simp
      · rw [List.filter_cons_of_neg (by simpa using d)]; exact Nat.le_refl _
theorem cj_desc (ps : List Nat) : (cj ps).Pairwise (· ≥ ·) := by
  unfold cj
  rw [List.pairwise_map]
  exact List.pairwise_lt_range.imp fun h => cnt_mono ps (Nat.le_of_lt h)
theorem cj_len (ps : List Nat) : (cj ps).length = ps.getD 0 0 := by simp [cj]
theorem cnt_zero {ps : List Nat} (h : ∀ x ∈ ps, 1 ≤ x) : cnt ps 0 = ps.length := by
  unfold cnt
  rw [List.filter_eq_self.2]
  intro x hx
  simpa using h x hx
theorem cj_cj {ps : List Nat} (h : ps.Pairwise (· ≥ ·)) (hk : ∀ x ∈ ps, 1 ≤ x) : cj (cj ps) = ps := by
  apply List.ext_getElem?
  intro i
  have l : (cj ps).getD 0 0 = ps.length := by rw [cj_get h, cnt_zero hk]
  unfold cj at l ⊢
  rw [show (List.range (((List.range (ps.getD 0 0)).map (cnt ps)).getD 0 0)).map (cnt ((List.range (ps.getD 0 0)).map (cnt ps))) = (List.range ps.length).map (cnt (cj ps)) by rw [l]; rfl]
  rw [List.getElem?_map]
  by_cases z : i < ps.length
  · rw [List.getElem?_range z, List.getElem?_eq_getElem z]
    have key : ∀ j, j < cnt (cj ps) i ↔ j < ps.getD i 0 := fun j => by
      rw [cnt_iff (cj_desc ps), cj_get h, cnt_iff h]
    have : cnt (cj ps) i = ps.getD i 0 := by
      have a := key (cnt (cj ps) i)
      have b := key (ps.getD i 0)
      omega
    simp [this, z]
  · rw [List.getElem?_eq_none (by simpa using z), List.getElem?_eq_none (by omega)]
    rfl
theorem cnt_sum (ps : List Nat) : ∀ H, ((List.range H).map (cnt ps)).sum = (ps.map fun p => min p H).sum := by
  intro H
  induction H with
  | zero =>
    have : ∀ l : List Nat, (l.map fun p => min p 0).sum = 0 := fun l => by induction l <;> simp_all
    rw [this]; rfl
  | succ H ih =>
    rw [List.range_succ, List.map_append, List.sum_append, ih]
    have : ∀ l : List Nat, (l.map fun p => min p (H + 1)).sum = (l.map fun p => min p H).sum + cnt l H := fun l => by
      induction l with
      | nil => rfl
      | cons p l ihl =>
        rw [List.map_cons, List.sum_cons, List.map_cons, List.sum_cons, ihl]
        unfold cnt
        by_cases c : H + 1 ≤ p
        · rw [List.filter_cons_of_pos (by simpa using c)]
          simp only [List.length_cons]
          omega
        · rw [List.filter_cons_of_neg (by simpa using c)]
          omega
    rw [this]
    simp
theorem cj_sum {ps : List Nat} (h : ps.Pairwise (· ≥ ·)) : (cj ps).sum = ps.sum := by
  unfold cj
  rw [cnt_sum]
  congr 1
  have : ∀ x ∈ ps, x ≤ ps.getD 0 0 := by
    cases ps with
    | nil => intro x hx; simp at hx
    | cons p ps =>
      obtain ⟨h1, h2⟩ := List.pairwise_cons.1 h
      intro x hx
      rcases List.mem_cons.1 hx with rfl | hx
      · exact Nat.le_refl _
      · exact h1 x hx
  conv => rhs; rw [← List.map_id ps]
  apply List.map_congr_left
  intro x hx
  exact Nat.min_eq_left (this x hx)
theorem cj_pos {ps : List Nat} (h : ps.Pairwise (· ≥ ·)) : ∀ x ∈ cj ps, 1 ≤ x := by
  intro x hx
  unfold cj at hx
  obtain ⟨j, hj, rfl⟩ := List.mem_map.1 hx
  exact (cnt_iff h 0 j).2 (List.mem_range.1 hj)
/-! the square -/
/-- whether the place i on the slant is within -/
def dg (ps : List Nat) (i : Nat) : Bool := decide (i < ps.getD i 0)
theorem dg_down {ps : List Nat} (h : ps.Pairwise (· ≥ ·)) {i : Nat} (hi : dg ps (i + 1) = true) : dg ps i = true := by
  unfold dg at *
  rw [decide_eq_true_eq] at *
  have a := (cnt_iff h (i + 1) (i + 1)).2 hi
  have := cnt_mono ps (show i ≤ i + 1 by omega)
  exact (cnt_iff h i i).1 (by omega)
theorem dg_cj {ps : List Nat} (h : ps.Pairwise (· ≥ ·)) (i : Nat) : dg (cj ps) i = dg ps i := by
  unfold dg
  rw [cj_get h]
  exact decide_eq_decide.2 (cnt_iff h i i)
/-- a flag that holds up to some place only -/
theorem down_range {p : Nat → Bool} (h : ∀ i, p (i + 1) = true → p i = true) : ∀ n, (List.range n).filter p = List.range ((List.range n).filter p).length ∧ ∀ i, i < n → (p i = true ↔ i < ((List.range n).filter p).length)
  | 0 => ⟨rfl, fun i hi => by omega⟩
  | n + 1 => by
    obtain ⟨h1, h2⟩ := down_range h n
    rw [List.range_succ, List.filter_append]
    have hle : ((List.range n).filter p).length ≤ n := by
      have := List.length_filter_le p (List.range n)
      simpa using this
    by_cases c : p n = true
    · have all : ∀ i, i ≤ n → p i = true := fun i hi => by
        obtain ⟨d, rfl⟩ : ∃ d, n = i + d := ⟨n - i, by omega⟩
        clear h1 h2 hle hi
        induction d with
        | zero => exact c
        | succ d ih => exact ih (h (i + d) c)
      have e : (List.range n).filter p = List.range n := List.filter_eq_self.2 fun i hi => all i (by have := List.mem_range.1 hi; omega)
      have e2 : (([n] : List Nat).filter p) = [n] := by simp [c]
      rw [e, e2]
      refine ⟨by simp [List.range_succ], fun i hi => ⟨fun _ => by simp; omega, fun _ => all i (by omega)⟩⟩
    · have e2 : (([n] : List Nat).filter p) = [] := by simp [c]
      rw [e2, List.append_nil]
      refine ⟨h1, fun i hi => ?_⟩
      by_cases z : i = n
      · subst z
        constructor
        · intro q; exact (c q).elim
        · intro q; omega
      · exact h2 i (by omega)
end PF

set_option Elab.async false
set_option linter.all false
set_option maxRecDepth 100000
/-! Pure python, plain: how the denotations are reckoned. -/
namespace PP
open PySem L2
/-- so that no step is looked at by reckoning -/
theorem nr {α : Sort _} {a b : α} (h : a = b) : a = b := h
section
variable {α β : Type} {ρ ρ' : Env}
@[simp] theorem bnd_ap (m : M α) (f : α → M β) (ρ : Env) : bnd m f ρ = match m ρ with | .ok a ρ' => f a ρ' | .exc c p ρ' => .exc c p ρ' | .bad => .bad := nr rfl
@[simp] theorem pur_ap (a : α) : pur a ρ = .ok a ρ := nr rfl
@[simp] theorem mC_ap (d : D) : mC d ρ = .ok (.v .sh d) ρ := nr rfl
@[simp] theorem mB_ap (i : Nat) : mB i ρ = match ρ[i]? with | some (some _) => .ok (.s i) ρ | _ => .bad := nr rfl
@[simp] theorem mV_ap (i : Nat) : mV i ρ = match ρ[i]? with | some (some (fl, d)) => if fl.own then .ok (.v .sh d) (ρ.set i (some (fl.shut, d))) else .ok (.v .sh d) ρ | _ => .bad := nr rfl
@[simp] theorem opR_some (fl : Fl) (d : D) : opR ρ (some (fl, d)) = .ok (.v fl d) ρ := nr rfl
@[simp] theorem opR_none : opR ρ none = .bad := nr rfl
@[simp] theorem deref_v (fl : Fl) (d : D) : deref ρ (.v fl d) = some d := nr rfl
@[simp] theorem deref_s (i : Nat) : deref ρ (.s i) = match ρ[i]? with | some (some (_, d)) => some d | _ => none := nr rfl
@[simp] theorem mOp1_ap (f : D → Option (Fl × D)) (a : M R) : mOp1 f a ρ = match a ρ with | .ok ra ρ' => (match deref ρ' ra with | some x => opR ρ' (f x) | none => .bad) | .exc c p ρ' => .exc c p ρ' | .bad => .bad := by unfold mOp1 bnd; cases a ρ <;> rfl
@[simp] theorem mOp2_ap (f : D → D → Option (Fl × D)) (a b : M R) : mOp2 f a b ρ = match a ρ with
    | .ok ra ρ' => (match b ρ' with | .ok rb ρ2 => (match deref ρ2 ra, deref ρ2 rb with | some x, some y => opR ρ2 (f x y) | _, _ => .bad) | .exc c p ρ2 => .exc c p ρ2 | .bad => .bad)
    | .exc c p ρ' => .exc c p ρ' | .bad => .bad := by
  unfold mOp2 bnd
  cases a ρ with
  | ok ra ρ' => dsimp only; cases b ρ' <;> rfl
  | exc c p ρ' => rfl
  | bad => rfl
@[simp] theorem mNil_ap : mNil ρ = .ok [] ρ := nr rfl
@[simp] theorem mCons_ap (a : M R) (r : M (List D)) : mCons a r ρ = match a ρ with | .ok ra ρ' => (match ra with | .v _ d => (match r ρ' with | .ok ds ρ2 => .ok (d :: ds) ρ2 | .exc c p ρ2 => .exc c p ρ2 | .bad => .bad) | .s _ => .bad) | .exc c p ρ' => .exc c p ρ' | .bad => .bad := by
  unfold mCons bnd
  cases a ρ with
  | ok ra ρ' =>
    cases ra with
    | s i => rfl
    | v fl d => dsimp only; cases r ρ' <;> rfl
  | exc c p ρ' => rfl
  | bad => rfl
@[simp] theorem mTup_ap (a : M (List D)) : mTup a ρ = match a ρ with | .ok ds ρ' => (if ds.length ≤ sizeLine then .ok (.v .sh (.tup ds)) ρ' else .bad) | .exc c p ρ' => .exc c p ρ' | .bad => .bad := by
  unfold mTup
  simp only [bnd_ap]
  cases a ρ with
  | ok ds ρ' => simp only; split <;> rfl
  | exc c p ρ' => rfl
  | bad => rfl
@[simp] theorem mLst_ap (a : M (List D)) : mLst a ρ = match a ρ with | .ok ds ρ' => (if ds.length ≤ sizeLine then .ok (.v .ow (.lst ds)) ρ' else .bad) | .exc c p ρ' => .exc c p ρ' | .bad => .bad := by
  unfold mLst
  simp only [bnd_ap]
  cases a ρ with
  | ok ds ρ' => simp only; split <;> rfl
  | exc c p ρ' => rfl
  | bad => rfl
@[simp] theorem mTst_ap (a : M R) : mTst a ρ = match a ρ with | .ok ra ρ' => (match deref ρ' ra with | some (.bl b) => .ok b ρ' | _ => .bad) | .exc c p ρ' => .exc c p ρ' | .bad => .bad := by unfold mTst bnd; cases a ρ <;> rfl
@[simp] theorem mTru_ap (a : M R) : mTru a ρ = match a ρ with | .ok ra ρ' => (match (deref ρ' ra).bind truD with | some b => .ok b ρ' | none => .bad) | .exc c p ρ' => .exc c p ρ' | .bad => .bad := by unfold mTru bnd; cases a ρ <;> rfl
@[simp] theorem mAnd_ap (a b : M Bool) : mAnd a b ρ = match a ρ with | .ok x ρ' => (if x then b ρ' else .ok false ρ') | .exc c p ρ' => .exc c p ρ' | .bad => .bad := by
  unfold mAnd; simp only [bnd_ap]; cases a ρ with
  | ok x ρ' => cases x <;> rfl
  | exc c p ρ' => rfl
  | bad => rfl
@[simp] theorem mOr_ap (a b : M Bool) : mOr a b ρ = match a ρ with | .ok x ρ' => (if x then .ok true ρ' else b ρ') | .exc c p ρ' => .exc c p ρ' | .bad => .bad := by
  unfold mOr; simp only [bnd_ap]; cases a ρ with
  | ok x ρ' => cases x <;> rfl
  | exc c p ρ' => rfl
  | bad => rfl
@[simp] theorem mNot_ap (a : M Bool) : mNot a ρ = match a ρ with | .ok x ρ' => .ok (!x) ρ' | .exc c p ρ' => .exc c p ρ' | .bad => .bad := by unfold mNot bnd; cases a ρ <;> rfl
@[simp] theorem mAndV_ap (a b : M R) : mAndV a b ρ = match mTst a ρ with | .ok x ρ' => (if x then b ρ' else .ok (.v .sh (.bl false)) ρ') | .exc c p ρ' => .exc c p ρ' | .bad => .bad := by
  unfold mAndV; simp only [bnd_ap]; cases mTst a ρ with
  | ok x ρ' => cases x <;> rfl
  | exc c p ρ' => rfl
  | bad => rfl
@[simp] theorem mOrV_ap (a b : M R) : mOrV a b ρ = match mTst a ρ with | .ok x ρ' => (if x then .ok (.v .sh (.bl true)) ρ' else b ρ') | .exc c p ρ' => .exc c p ρ' | .bad => .bad := by
  unfold mOrV; simp only [bnd_ap]; cases mTst a ρ with
  | ok x ρ' => cases x <;> rfl
  | exc c p ρ' => rfl
  | bad => rfl
@[simp] theorem mNotV_ap (a : M R) : mNotV a ρ = match mTst a ρ with | .ok x ρ' => .ok (.v .sh (.bl (!x))) ρ' | .exc c p ρ' => .exc c p ρ' | .bad => .bad := by unfold mNotV bnd; cases mTst a ρ <;> rfl
@[simp] theorem mIf_ap (c : M Bool) (a b : M R) : mIf c a b ρ = match c ρ with | .ok x ρ' => (if x then a ρ' else b ρ') | .exc c p ρ' => .exc c p ρ' | .bad => .bad := by
  unfold mIf; simp only [bnd_ap]; cases c ρ with
  | ok x ρ' => cases x <;> rfl
  | exc c p ρ' => rfl
  | bad => rfl
@[simp] theorem sSeq_ap (a b : M PP.Flow) : sSeq a b ρ = match a ρ with | .ok f ρ' => (match f with | .nx => b ρ' | .bk => .ok .bk ρ' | .ct => .ok .ct ρ' | .rt fl d => .ok (.rt fl d) ρ') | .exc c p ρ' => .exc c p ρ' | .bad => .bad := by
  unfold sSeq; simp only [bnd_ap]; cases a ρ with
  | ok f ρ' => cases f <;> rfl
  | exc c p ρ' => rfl
  | bad => rfl
@[simp] theorem sNil_ap : sNil ρ = .ok .nx ρ := nr rfl
@[simp] theorem sSet_ap (i : Nat) (a : M R) : sSet i a ρ = match a ρ with | .ok ra ρ' => (match ra with | .v fl d => (if i < ρ'.length ∧ fl.par = false then .ok .nx (ρ'.set i (some (fl, d))) else .bad) | .s _ => .bad) | .exc c p ρ' => .exc c p ρ' | .bad => .bad := by
  unfold sSet bnd
  cases a ρ with
  | ok ra ρ' => cases ra <;> rfl
  | exc c p ρ' => rfl
  | bad => rfl
@[simp] theorem sExp_ap (a : M R) : sExp a ρ = match a ρ with | .ok _ ρ' => .ok .nx ρ' | .exc c p ρ' => .exc c p ρ' | .bad => .bad := by unfold sExp bnd; cases a ρ <;> rfl
@[simp] theorem sRet_ap (a : M R) : sRet a ρ = match a ρ with | .ok ra ρ' => (match ra with | .v fl d => .ok (.rt fl d) ρ' | .s _ => .bad) | .exc c p ρ' => .exc c p ρ' | .bad => .bad := by
  unfold sRet; simp only [bnd_ap]; cases a ρ with
  | ok ra ρ' => cases ra <;> rfl
  | exc c p ρ' => rfl
  | bad => rfl
@[simp] theorem sRetV_ap (i : Nat) : sRetV i ρ = match ρ[i]? with | some (some (.ow, d)) => .ok (.rt .ow d) (ρ.set i none) | some (some (.pa, d)) => .ok (.rt .sh d) (ρ.set i (some (.ps, d))) | some (some (_, d)) => .ok (.rt .sh d) ρ | _ => .bad := nr rfl
@[simp] theorem sRetN_ap : sRetN ρ = .ok (.rt .sh .non) ρ := nr rfl
@[simp] theorem sIf_ap (c : M Bool) (a b : M PP.Flow) : sIf c a b ρ = match c ρ with | .ok x ρ' => (if x then a ρ' else b ρ') | .exc c p ρ' => .exc c p ρ' | .bad => .bad := by
  unfold sIf; simp only [bnd_ap]; cases c ρ with
  | ok x ρ' => cases x <;> rfl
  | exc c p ρ' => rfl
  | bad => rfl
@[simp] theorem sRaise_ap (c : Nat) : sRaise c mNil ρ = .exc c none ρ := nr rfl
@[simp] theorem aNil_ap : aNil ρ = .ok [] ρ := nr rfl
@[simp] theorem aVal_ap (a : M R) (r : M (List Ag)) : aVal a r ρ = match a ρ with | .ok ra ρ' => (match ra with | .v _ d => (match r ρ' with | .ok ds ρ2 => .ok (⟨none, .sh, d⟩ :: ds) ρ2 | .exc c p ρ2 => .exc c p ρ2 | .bad => .bad) | .s _ => .bad) | .exc c p ρ' => .exc c p ρ' | .bad => .bad := by
  unfold aVal bnd
  cases a ρ with
  | ok ra ρ' =>
    cases ra with
    | s i => rfl
    | v fl d => dsimp only; cases r ρ' <;> rfl
  | exc c p ρ' => rfl
  | bad => rfl
@[simp] theorem aLend_ap (i : Nat) (r : M (List Ag)) : aLend i r ρ = match ρ[i]? with
    | some (some (fl, d)) => if fl.own then (match r (ρ.set i none) with | .ok ds ρ2 => .ok (⟨some (i, fl), .ow, d⟩ :: ds) ρ2 | .exc c p ρ2 => .exc c p ρ2 | .bad => .bad) else .bad
    | _ => .bad := by
  unfold aLend bnd
  cases ρ[i]? with
  | none => rfl
  | some s =>
    cases s with
    | none => rfl
    | some x =>
      obtain ⟨fl, d⟩ := x
      dsimp only
      split
      · cases r (ρ.set i none) <;> rfl
      · rfl
@[simp] theorem mCall_ap (f : FM) (as : M (List Ag)) : mCall f as ρ = match as ρ with
    | .ok ags ρ' => (match f (ags.map fun a => (a.fl, a.d)) with
      | .ok fl d back => (match giveBack ags back ρ' with | some ρ2 => .ok (.v fl d) ρ2 | none => .bad)
      | .exc c p => .exc c p ρ'
      | .bad => .bad)
    | .exc c p ρ' => .exc c p ρ' | .bad => .bad := by unfold mCall bnd; cases as ρ <;> rfl
@[simp] theorem own_ow : Fl.own .ow = true := nr rfl
@[simp] theorem own_pa : Fl.own .pa = true := nr rfl
@[simp] theorem own_sh : Fl.own .sh = false := nr rfl
@[simp] theorem own_ps : Fl.own .ps = false := nr rfl
@[simp] theorem par_ow : Fl.par .ow = false := nr rfl
@[simp] theorem par_sh : Fl.par .sh = false := nr rfl
@[simp] theorem par_pa : Fl.par .pa = true := nr rfl
@[simp] theorem par_ps : Fl.par .ps = true := nr rfl
@[simp] theorem shut_ow : Fl.shut .ow = .sh := nr rfl
@[simp] theorem shut_pa : Fl.shut .pa = .ps := nr rfl
@[simp] theorem shut_sh : Fl.shut .sh = .sh := nr rfl
@[simp] theorem shut_ps : Fl.shut .ps = .ps := nr rfl
@[simp] theorem gb_nil : giveBack [] [] ρ = some ρ := nr rfl
@[simp] theorem gb_val (fl : Fl) (d : D) (as : List Ag) (bs : List (Fl × D)) : giveBack (⟨none, fl, d⟩ :: as) bs ρ = giveBack as bs ρ := by cases bs <;> rfl
@[simp] theorem gb_ow (i : Nat) (fl fl2 : Fl) (d e : D) (as : List Ag) (bs : List (Fl × D)) : giveBack (⟨some (i, fl), fl2, d⟩ :: as) ((.ow, e) :: bs) ρ = giveBack as bs (ρ.set i (some (fl, e))) := nr rfl
/-! operations on ints -/
@[simp] theorem addD_int (i j : Int) : addD (.int i) (.int j) = some (.sh, .int (i + j)) := nr rfl
@[simp] theorem subI_int (i j : Int) : subI (.int i) (.int j) = some (.sh, .int (i - j)) := nr rfl
@[simp] theorem mulI_int (i j : Int) : mulI (.int i) (.int j) = if i.natAbs.log2 + j.natAbs.log2 < 1000000 then some (.sh, .int (i * j)) else none := by
  simp only [mulI, iD2, decide_eq_true_eq]
@[simp] theorem fdivI_int (i j : Int) : fdivI (.int i) (.int j) = if 0 < j ∧ j.natAbs.log2 < 9000 then some (.sh, .int (i / j)) else none := by
  simp only [fdivI, iD2, decide_eq_true_eq, Bool.and_eq_true]
@[simp] theorem modI_int (i j : Int) : modI (.int i) (.int j) = if 0 < j then some (.sh, .int (i % j)) else none := by
  simp only [modI, iD2, decide_eq_true_eq]
@[simp] theorem ltI_int (i j : Int) : ltI (.int i) (.int j) = some (.sh, .bl (decide (i < j))) := nr rfl
@[simp] theorem leI_int (i j : Int) : leI (.int i) (.int j) = some (.sh, .bl (decide (i ≤ j))) := nr rfl
@[simp] theorem gtI_int (i j : Int) : gtI (.int i) (.int j) = some (.sh, .bl (decide (j < i))) := nr rfl
@[simp] theorem geI_int (i j : Int) : geI (.int i) (.int j) = some (.sh, .bl (decide (j ≤ i))) := nr rfl
@[simp] theorem negI_int (i : Int) : negI (.int i) = some (.sh, .int (-i)) := nr rfl
@[simp] theorem absI_int (i : Int) : absI (.int i) = some (.sh, .int (if i < 0 then -i else i)) := nr rfl
@[simp] theorem intD_int (i : Int) : intD (.int i) = some (.sh, .int i) := nr rfl
@[simp] theorem toP_int (i : Int) : toP (.int i) = some (.int i) := by simp [toP]
@[simp] theorem eqD'_int (i j : Int) : eqD' (.int i) (.int j) = some (decide (i = j)) := nr rfl
@[simp] theorem eqD_int (i j : Int) : eqD (.int i) (.int j) = some (.sh, .bl (decide (i = j))) := by simp [eqD]
@[simp] theorem neD_int (i j : Int) : neD (.int i) (.int j) = some (.sh, .bl (!decide (i = j))) := by simp [neD]
@[simp] theorem truD_bl (b : Bool) : truD (.bl b) = some b := nr rfl
@[simp] theorem lenD_lst (ds : List D) : lenD (.lst ds) = some (.sh, .int ds.length) := nr rfl
@[simp] theorem lenD_tup (ds : List D) : lenD (.tup ds) = some (.sh, .int ds.length) := nr rfl
@[simp] theorem cLe_int (i j : Int) : cLe (.int i) (.int j) = some (decide (i ≤ j)) := nr rfl
@[simp] theorem cLt_int (i j : Int) : cLt (.int i) (.int j) = some (decide (i < j)) := nr rfl
@[simp] theorem mChain_ap (f g : D → D → Option Bool) (a b c : M R) : mChain f g a b c ρ = match a ρ with
    | .ok ra ρ1 => (match b ρ1 with
      | .ok rb ρ2 => (match deref ρ2 ra, deref ρ2 rb with
        | some x, some y => (match f x y with
          | some true => (match c ρ2 with
            | .ok rc ρ' => (match deref ρ' rb, deref ρ' rc with
              | some y, some z => (match g y z with | some k => .ok (.v .sh (.bl k)) ρ' | none => .bad)
              | _, _ => .bad)
            | .exc c p ρ' => .exc c p ρ' | .bad => .bad)
          | some false => .ok (.v .sh (.bl false)) ρ2
          | none => .bad)
        | _, _ => .bad)
      | .exc c p ρ' => .exc c p ρ' | .bad => .bad)
    | .exc c p ρ' => .exc c p ρ' | .bad => .bad := by
  unfold mChain bnd
  cases a ρ with
  | ok ra ρ1 =>
    dsimp only
    cases b ρ1 with
    | ok rb ρ2 =>
      dsimp only
      cases deref ρ2 ra with
      | none => rfl
      | some x =>
        cases deref ρ2 rb with
        | none => rfl
        | some y =>
          dsimp only
          cases f x y with
          | none => rfl
          | some k =>
            cases k with
            | false => rfl
            | true => dsimp only; cases c ρ2 <;> rfl
    | exc c p ρ' => rfl
    | bad => rfl
  | exc c p ρ' => rfl
  | bad => rfl
end
theorem sWhile_succ (n : Nat) (c : M Bool) (b : M PP.Flow) (ρ : Env) : sWhile (n + 1) c b ρ = match c ρ with
    | .ok x ρ' => (if x then (match b ρ' with
      | .ok f ρ2 => (match f with | .nx => sWhile n c b ρ2 | .ct => sWhile n c b ρ2 | .bk => .ok .nx ρ2 | .rt fl d => .ok (.rt fl d) ρ2)
      | .exc c p ρ2 => .exc c p ρ2 | .bad => .bad) else .ok .nx ρ')
    | .exc c p ρ' => .exc c p ρ' | .bad => .bad := by
  rw [sWhile]
  unfold bnd
  cases c ρ with
  | ok x ρ' =>
    cases x with
    | false => rfl
    | true =>
      simp only [if_pos]
      cases b ρ' with
      | ok f ρ2 => cases f <;> rfl
      | exc c p ρ2 => rfl
      | bad => rfl
  | exc c p ρ' => rfl
  | bad => rfl
@[simp] theorem mRs_nil (ρ : Env) : mRs [] ρ = .ok [] ρ := nr rfl
@[simp] theorem mRs_cons (a : M R) (as : List (M R)) (ρ : Env) : mRs (a :: as) ρ = match a ρ with
    | .ok ra ρ' => (match ra with
      | .v fl d => (match mRs as ρ' with | .ok ds ρ2 => .ok ((fl, d) :: ds) ρ2 | .exc c p ρ2 => .exc c p ρ2 | .bad => .bad)
      | .s _ => .bad)
    | .exc c p ρ' => .exc c p ρ' | .bad => .bad := by
  simp only [mRs]
  unfold bnd
  cases a ρ with
  | ok ra ρ' =>
    cases ra with
    | s i => rfl
    | v fl d => dsimp only; cases mRs as ρ' <;> rfl
  | exc c p ρ' => rfl
  | bad => rfl
@[simp] theorem sPar_ap (is : List Nat) (as : List (M R)) (ρ : Env) : sPar is as ρ = match mRs as ρ with
    | .ok xs ρ' => (match setAll is xs ρ' with | some ρ2 => .ok .nx ρ2 | none => .bad)
    | .exc c p ρ' => .exc c p ρ' | .bad => .bad := by unfold sPar bnd; cases mRs as ρ <;> rfl
@[simp] theorem setAll_nil (ρ : Env) : setAll [] [] ρ = some ρ := nr rfl
@[simp] theorem setAll_cons (i : Nat) (is : List Nat) (x : Fl × D) (xs : List (Fl × D)) (ρ : Env) : setAll (i :: is) (x :: xs) ρ = if i < ρ.length ∧ x.1.par = false then setAll is xs (ρ.set i (some x)) else none := nr rfl
theorem runF_def (np n : Nat) (b : M PP.Flow) (as : List (Fl × D)) (h : as.length = np) : runF np n b as = (match b (entry n as) with
  | .ok f ρ => (match backs as ρ with
    | some bk => (match f with | .nx => .ok .sh .non bk | .rt fl d => .ok fl d bk | _ => .bad)
    | none => .bad)
  | .exc c p _ => .exc c p
  | .bad => .bad) := by
  unfold runF
  rw [if_pos h] <;> (cases b (entry n as) with
    | ok f ρ =>
      dsimp only
      cases backs as ρ with
      | none => rfl
      | some bk => cases f <;> rfl
    | exc c p ρ => rfl
    | bad => rfl)
@[simp] theorem backs_nil (ρ : Env) : backs [] ρ = some [] := by cases ρ <;> rfl
@[simp] theorem backs_sh (d : D) (as : List (Fl × D)) (s : Slot) (ρ : Env) : backs ((.sh, d) :: as) (s :: ρ) = backs as ρ := nr rfl
@[simp] theorem backs_ow (d e : D) (as : List (Fl × D)) (ρ : Env) : backs ((.ow, d) :: as) (some (.pa, e) :: ρ) = (backs as ρ).map ((.ow, e) :: ·) := nr rfl
/-! ### loops -/
@[simp] theorem gV_ap (i : Nat) (d : D) (ρ : Env) : gV i d ρ = if i < ρ.length then .ok () (ρ.set i (some (.sh, d))) else .bad := nr rfl
@[simp] theorem gT_ap (gs : List Tg) (ds : List D) (ρ : Env) : gT gs (.tup ds) ρ = gTs gs ds ρ := nr rfl
@[simp] theorem gTs_nil (ρ : Env) : gTs [] [] ρ = .ok () ρ := nr rfl
@[simp] theorem gTs_cons (g : Tg) (gs : List Tg) (d : D) (ds : List D) (ρ : Env) : gTs (g :: gs) (d :: ds) ρ = match g d ρ with | .ok _ ρ' => gTs gs ds ρ' | .exc c p ρ' => .exc c p ρ' | .bad => .bad := by rw [gTs]; unfold bnd; cases g d ρ <;> rfl
@[simp] theorem sAsg_ap (a : M R) (g : Tg) (ρ : Env) : sAsg a g ρ = match a ρ with
    | .ok ra ρ' => (match ra with | .v _ d => (match g d ρ' with | .ok _ ρ2 => .ok .nx ρ2 | _ => .bad) | .s _ => .bad)
    | .exc c p ρ' => .exc c p ρ' | .bad => .bad := by
  unfold sAsg bnd
  cases a ρ with
  | ok ra ρ' => cases ra <;> rfl
  | exc c p ρ' => rfl
  | bad => rfl
@[simp] theorem iSeq_ap (a : M R) (ρ : Env) : iSeq a ρ = match a ρ with
    | .ok ra ρ' => (match ra with | .v _ d => (match iterD d with | some ds => .ok ds ρ' | none => .bad) | .s _ => .bad)
    | .exc c p ρ' => .exc c p ρ' | .bad => .bad := by
  unfold iSeq bnd ofOpt
  cases a ρ with
  | ok ra ρ' =>
    cases ra with
    | s i => rfl
    | v fl d => dsimp only; cases iterD d <;> rfl
  | exc c p ρ' => rfl
  | bad => rfl
@[simp] theorem iterD_lst (ds : List D) : iterD (.lst ds) = some ds := nr rfl
@[simp] theorem iterD_tup (ds : List D) : iterD (.tup ds) = some ds := nr rfl
@[simp] theorem mComp_ap (vs : List Nat) (it : M (List D)) (g : Tg) (c : M Bool) (e : M R) (ρ : Env) : mComp vs it g c e ρ = match it ρ with
    | .ok ds ρ0 => (match loopC vs g c e ds [] (wipeE ρ0 vs) with | .ok acc ρ1 => .ok (.v .ow (.lst acc)) (restore ρ0 vs ρ1) | _ => .bad)
    | .exc c p ρ' => .exc c p ρ' | .bad => .bad := by unfold mComp bnd; cases it ρ <;> rfl
@[simp] theorem cYes_ap (ρ : Env) : cYes ρ = .ok true ρ := nr rfl
theorem loopC_nil (vs : List Nat) (g : Tg) (c : M Bool) (e : M R) (acc : List D) (ρ : Env) : loopC vs g c e [] acc ρ = .ok acc ρ := rfl
theorem loopC_cons (vs : List Nat) (g : Tg) (c : M Bool) (e : M R) (d : D) (ds acc : List D) (ρ : Env) : loopC vs g c e (d :: ds) acc ρ = match g d ρ with
    | .ok _ ρ1 => (match c ρ1 with
      | .ok true ρ2 => (match e ρ2 with
        | .ok (.v _ y) ρ3 => if acc.length < sizeLine then loopC vs g c e ds (acc ++ [y]) (wipeE ρ3 vs) else .bad
        | _ => .bad)
      | .ok false ρ2 => loopC vs g c e ds acc (wipeE ρ2 vs)
      | _ => .bad)
    | _ => .bad := rfl
theorem set_back {ρ : Env} {i : Nat} (hn : ρ[i]? = some none) (x : Slot) : (ρ.set i x).set i none = ρ := by
  rw [List.set_set]; exact set_eq hn
/-- [f d for d in ds if p d] -/
theorem loopC_one {i : Nat} {c : M Bool} {e : M R} {f : D → D} {p : D → Bool} {ρ : Env} (hn : ρ[i]? = some none) : ∀ (ds acc : List D),
    (∀ d ∈ ds, c (ρ.set i (some (.sh, d))) = .ok (p d) (ρ.set i (some (.sh, d))) ∧ (p d = true → ∃ fl, e (ρ.set i (some (.sh, d))) = .ok (.v fl (f d)) (ρ.set i (some (.sh, d))))) → acc.length + ds.length ≤ sizeLine →
    loopC [i] (gV i) c e ds acc ρ = .ok (acc ++ (ds.filter p).map f) ρ
  | [], acc, _, _ => by rw [loopC_nil]; simp
  | d :: ds, acc, h, hz => by
    have hi : i < ρ.length := lt_of_get hn
    obtain ⟨hc, he⟩ := h d List.mem_cons_self
    rw [loopC_cons, gV_ap, if_pos hi]
    dsimp only
    rw [hc]
    have hz' : acc.length + (ds.length + 1) ≤ sizeLine := by simpa using hz
    cases hp : p d with
    | false =>
      have e1 : wipeE (ρ.set i (some (.sh, d))) [i] = ρ := set_back hn _
      dsimp only
      rw [e1, loopC_one hn ds acc (fun x hx => h x (List.mem_cons_of_mem _ hx)) (by omega), List.filter_cons_of_neg (by rw [hp]; exact Bool.false_ne_true)]
    | true =>
      obtain ⟨fl, he⟩ := he hp
      dsimp only
      rw [he]
      dsimp only
      have e1 : wipeE (ρ.set i (some (.sh, d))) [i] = ρ := set_back hn _
      rw [if_pos (by omega), e1, loopC_one hn ds (acc ++ [f d]) (fun x hx => h x (List.mem_cons_of_mem _ hx)) (by simp; omega), List.filter_cons_of_pos hp]
      simp
theorem loopC_map {i : Nat} {e : M R} {f : D → D} {ρ : Env} (hn : ρ[i]? = some none) (ds : List D) (h : ∀ d ∈ ds, ∃ fl, e (ρ.set i (some (.sh, d))) = .ok (.v fl (f d)) (ρ.set i (some (.sh, d)))) (hz : ds.length ≤ sizeLine) :
    loopC [i] (gV i) cYes e ds [] ρ = .ok (ds.map f) ρ := by
  have := loopC_one (c := cYes) (p := fun _ => true) hn ds [] (fun d hd => ⟨rfl, fun _ => h d hd⟩) (by simpa using hz)
  rw [show ds.filter (fun _ => true) = ds from List.filter_eq_self.2 (by simp)] at this
  simpa using this
theorem loopF_nil (g : Tg) (b : M PP.Flow) (ρ : Env) : loopF g b [] ρ = .ok .nx ρ := rfl
theorem loopF_cons (g : Tg) (b : M PP.Flow) (d : D) (ds : List D) (ρ : Env) : loopF g b (d :: ds) ρ = match g d ρ with
    | .ok _ ρ' => (match b ρ' with
      | .ok f ρ2 => (match f with | .nx => loopF g b ds ρ2 | .ct => loopF g b ds ρ2 | .bk => .ok .nx ρ2 | .rt fl e => .ok (.rt fl e) ρ2)
      | .exc c p ρ2 => .exc c p ρ2 | .bad => .bad)
    | _ => .bad := by
  simp only [loopF, bnd]
  cases g d ρ with
  | ok u ρ' =>
    dsimp only
    cases b ρ' with
    | ok f ρ2 => cases f <;> rfl
    | exc c p ρ2 => rfl
    | bad => rfl
  | exc c p ρ' => rfl
  | bad => rfl
/-- a walk with an invariant -/
theorem loopF_inv {g : Tg} {b : M PP.Flow} (I : Nat → Env → Prop) : ∀ (ds : List D) (k : Nat) (ρ : Env), I k ρ →
    (∀ j d ρ, ds[j]? = some d → I (k + j) ρ → ∃ ρ1 ρ2, g d ρ = .ok () ρ1 ∧ b ρ1 = .ok .nx ρ2 ∧ I (k + j + 1) ρ2) → ∃ ρ', loopF g b ds ρ = .ok .nx ρ' ∧ I (k + ds.length) ρ'
  | [], k, ρ, h, _ => ⟨ρ, rfl, h⟩
  | d :: ds, k, ρ, h, hs => by
    obtain ⟨ρ1, ρ2, e1, e2, h2⟩ := hs 0 d ρ rfl h
    obtain ⟨ρ', e3, h3⟩ := loopF_inv I ds (k + 1) ρ2 h2 (fun j d' ρ hj hI => by
      have := hs (j + 1) d' ρ (by simpa using hj) (by rw [show k + (j + 1) = k + 1 + j by omega]; exact hI)
      rw [show k + (j + 1) = k + 1 + j by omega] at this
      exact this)
    refine ⟨ρ', ?_, by rw [show k + (d :: ds).length = k + 1 + ds.length by simp; omega]; exact h3⟩
    rw [loopF_cons, e1]
    dsimp only
    rw [e2]
    exact e3
@[simp] theorem sFor_ap (it : M (List D)) (g : Tg) (b : M PP.Flow) (ρ : Env) : sFor it g b ρ = match it ρ with | .ok ds ρ' => loopF g b ds ρ' | .exc c p ρ' => .exc c p ρ' | .bad => .bad := by
  unfold sFor bnd; cases it ρ <;> rfl
@[simp] theorem iRg1_ap (a : M R) (ρ : Env) : iRg1 a ρ = match a ρ with
    | .ok ra ρ' => (match (deref ρ' ra).bind intOf with | some j => if small62 j then .ok (rngD 0 j.toNat 1) ρ' else .bad | none => .bad)
    | .exc c p ρ' => .exc c p ρ' | .bad => .bad := by unfold iRg1 bnd; cases a ρ <;> rfl
theorem rngD_len (lo : Int) (n : Nat) (c : Int) : (rngD lo n c).length = n := by simp [rngD]
theorem rngD_get {lo : Int} {n : Nat} {c : Int} {j : Nat} {d : D} (h : (rngD lo n c)[j]? = some d) : j < n ∧ d = .int (lo + j * c) := by
  unfold rngD at h
  rw [List.getElem?_map] at h
  by_cases hj : j < n
  · rw [List.getElem?_range hj] at h
    cases h
    exact ⟨hj, rfl⟩
  · rw [List.getElem?_eq_none (by simpa using hj)] at h
    cases h
@[simp] theorem intOf_int (i : Int) : intOf (.int i) = some i := nr rfl
@[simp] theorem mMut_ap (i : Nat) (ty : D → Bool) (as : M (List D)) (f : D → List D → Option (D × D)) (ρ0 : Env) : mMut i ty as f ρ0 = match ρ0[i]? with
  | some (some (fl0, x0)) => if ty x0 then (match as ρ0 with
    | .ok ds ρ => (match ρ[i]? with
      | some (some (fl, x)) => if fl.own then (match f x ds with | some (y, r) => .ok (.v .sh r) (ρ.set i (some (fl, y))) | none => .bad) else .bad
      | _ => .bad)
    | .exc c p ρ => .exc c p ρ | .bad => .bad) else .bad
  | _ => .bad := by
  unfold mMut bnd
  cases ρ0[i]? with
  | none => rfl
  | some s =>
    cases s with
    | none => rfl
    | some x =>
      obtain ⟨fl, d⟩ := x
      dsimp only
      cases ty d with
      | false => rfl
      | true => simp only [if_true]; cases as ρ0 <;> rfl
/-! ### dicts -/
theorem find_upd {κ : Type} [DecidableEq κ] (k : κ) (v : D) (x : κ) : ∀ kvs : List (κ × D), ((kvs.map fun kv => if kv.1 = k then (kv.1, v) else kv).find? fun kv => decide (kv.1 = x)).map (·.2) =
    if x = k then (if (kvs.any fun kv => decide (kv.1 = k)) = true then some v else none) else (kvs.find? fun kv => decide (kv.1 = x)).map (·.2)
  | [] => by by_cases h : x = k <;> simp [h]
  | a :: l => by
    have ih := find_upd k v x l
    rw [List.map_cons, List.find?_cons, List.find?_cons, List.any_cons]
    by_cases ha : a.1 = k
    · by_cases hx : x = k
      · subst hx
        simp [ha]
      · have hax : ¬ k = x := fun e => hx e.symm
        simp only [ha, if_true, hax, decide_false, hx, if_false] at ih ⊢
        exact ih
    · by_cases hx : x = k
      · subst hx
        simp only [ha, if_false, decide_false, if_true, Bool.false_or] at ih ⊢
        exact ih
      · by_cases hax : a.1 = x
        · simp [ha, hx, hax]
        · simp only [ha, if_false, hax, decide_false, hx] at ih ⊢
          exact ih
theorem valD_put {κ : Type} [DecidableEq κ] (kvs : List (κ × D)) (k : κ) (v : D) (x : κ) : valD (putD kvs k v) x = if x = k then some v else valD kvs x := by
  unfold putD valD
  split
  · rename_i h
    rw [find_upd, if_pos h]
  · rename_i h
    rw [List.find?_append]
    by_cases hx : x = k
    · subst hx
      have e : (kvs.find? fun kv => decide (kv.1 = x)) = none := by
        rw [List.find?_eq_none]
        intro y hy z
        exact h (List.any_eq_true.2 ⟨y, hy, z⟩)
      rw [e]
      simp
    · have hkx : ¬ k = x := fun e => hx e.symm
      rw [if_neg hx]
      cases (kvs.find? fun kv => decide (kv.1 = x)) with
      | none => simp [List.find?_cons, hkx]
      | some y => rfl
theorem putD_len {κ : Type} [DecidableEq κ] (kvs : List (κ × D)) (k : κ) (v : D) : (putD kvs k v).length ≤ kvs.length + 1 := by
  unfold putD
  split
  · simp
  · simp
/-! ### step by step -/
theorem seq_nx {a b : M PP.Flow} {ρ ρ' : Env} (h : a ρ = .ok .nx ρ') : sSeq a b ρ = b ρ' := by rw [sSeq_ap, h]
theorem seq_rt {a b : M PP.Flow} {ρ ρ' : Env} {fl : Fl} {d : D} (h : a ρ = .ok (.rt fl d) ρ') : sSeq a b ρ = .ok (.rt fl d) ρ' := by rw [sSeq_ap, h]
theorem if_t {c : M Bool} {a b : M PP.Flow} {ρ ρ' : Env} (h : c ρ = .ok true ρ') : sIf c a b ρ = a ρ' := by rw [sIf_ap, h]; rfl
theorem if_f {c : M Bool} {a b : M PP.Flow} {ρ ρ' : Env} (h : c ρ = .ok false ρ') : sIf c a b ρ = b ρ' := by rw [sIf_ap, h]; rfl
theorem for_eq {it : M (List D)} {g : Tg} {b : M PP.Flow} {ρ ρ' : Env} {ds : List D} (h : it ρ = .ok ds ρ') : sFor it g b ρ = loopF g b ds ρ' := by rw [sFor_ap, h]
theorem run_rt {np n : Nat} {b : M PP.Flow} {as : List (Fl × D)} {fl : Fl} {d : D} {ρ : Env} {bk : List (Fl × D)} (h : as.length = np) (e : b (entry n as) = .ok (.rt fl d) ρ) (hb : backs as ρ = some bk) : runF np n b as = .ok fl d bk := by
  rw [runF_def _ _ _ _ h, e]; dsimp only; rw [hb]
theorem run_nx {np n : Nat} {b : M PP.Flow} {as : List (Fl × D)} {ρ : Env} {bk : List (Fl × D)} (h : as.length = np) (e : b (entry n as) = .ok .nx ρ) (hb : backs as ρ = some bk) : runF np n b as = .ok .sh .non bk := by
  rw [runF_def _ _ _ _ h, e]; dsimp only; rw [hb]
end PP

set_option Elab.async false
set_option linter.all false
set_option maxRecDepth 100000
/-! Plain: what most laws share: draws, lists, equality. -/
namespace PP
open PySem L2
theorem log_small {i : Nat} {k : Nat} (h : i < 2 ^ k) : i.log2 ≤ k := by
  by_cases z : i = 0
  · rw [z]; exact Nat.zero_le k
  · exact Nat.le_of_lt ((Nat.log2_lt z).2 h)
/-- halving -/
theorem bs_loop {c : M Bool} {b : M PP.Flow} (P : Int → Bool) (env : Int → Int → Slot → PP.Env) (N : Int) (hc : ∀ lo hi s, c (env lo hi s) = .ok (decide (lo + 1 < hi)) (env lo hi s))
    (hb : ∀ lo hi s, 0 ≤ lo → lo + 1 < hi → hi ≤ N → ∃ s', b (env lo hi s) = .ok .nx (if P ((lo + hi) / 2) then env ((lo + hi) / 2) hi s' else env lo ((lo + hi) / 2) s')) :
    ∀ (n j : Nat) (lo hi : Int) (s : Slot), j < n → 0 ≤ lo → lo < hi → hi ≤ N → hi - lo ≤ 2 ^ j → P lo = true → P hi = false →
    ∃ (r : Int) (s' : Slot), sWhile n c b (env lo hi s) = .ok .nx (env r (r + 1) s') ∧ lo ≤ r ∧ r < hi ∧ P r = true ∧ P (r + 1) = false
  | 0, j, _, _, _, h, _, _, _, _, _, _ => absurd h (Nat.not_lt_zero _)
  | n + 1, j, lo, hi, s, hj, h0, h1, h2, h3, h4, h5 => by
    rw [sWhile_succ, hc]
    by_cases hl : lo + 1 < hi
    · obtain ⟨s', e⟩ := hb lo hi s h0 hl h2
      simp only [hl, decide_true, if_true, e]
      cases j with
      | zero => simp at h3; omega
      | succ j =>
        have h3' : hi - lo ≤ 2 * 2 ^ j := by rw [Int.pow_succ] at h3; omega
        by_cases hp : P ((lo + hi) / 2) = true
        · rw [if_pos hp]
          obtain ⟨r, s2, e1, e2, e3, e4, e5⟩ := bs_loop P env N hc hb n j ((lo + hi) / 2) hi s' (by omega) (by omega) (by omega) h2 (by omega) hp h5
          exact ⟨r, s2, e1, by omega, e3, e4, e5⟩
        · rw [if_neg hp]
          obtain ⟨r, s2, e1, e2, e3, e4, e5⟩ := bs_loop P env N hc hb n j lo ((lo + hi) / 2) s' (by omega) h0 (by omega) (by omega) (by omega) h4 (by simpa using hp)
          exact ⟨r, s2, e1, e2, by omega, e4, e5⟩
    · have e : hi = lo + 1 := by omega
      subst e
      simp only [hl, decide_false]
      exact ⟨lo, s, rfl, Int.le_refl _, h1, h4, h5⟩

theorem sq_le {x y : Int} (h0 : 0 ≤ x) (h : x ≤ y) : x * x ≤ y * y := Int.mul_le_mul h h h0 (Int.le_trans h0 h)
theorem sq_lt {x y : Int} (h0 : 0 ≤ x) (h : x < y) : x * x < y * y := by
  have h1 : x * x ≤ x * y := Int.mul_le_mul_of_nonneg_left (Int.le_of_lt h) h0
  have h2 : x * y < y * y := Int.mul_lt_mul_of_pos_right h (by omega)
  omega

@[simp] theorem inD_int (x : Int) (kv : List (Key × D)) : inD (.int x) (.dK kv) = some (.sh, .bl ((valD kv (.inl x)).isSome)) := nr rfl

@[simp] theorem mDict_ap (a : M (List D)) (ρ : PP.Env) : mDict a ρ = match a ρ with
    | .ok ds ρ' => (match keyVals ds with | some kvs => if kvs.length ≤ 15 then .ok (.v .ow (.dK (kvs.foldl (fun acc kv => putD acc kv.1 kv.2) []))) ρ' else .bad | none => .bad)
    | .exc c p ρ' => .exc c p ρ' | .bad => .bad := by
  unfold mDict bnd
  cases a ρ with
  | ok ds ρ' =>
    dsimp only
    cases keyVals ds with
    | none => rfl
    | some kvs => dsimp only; split <;> rfl
  | exc c p ρ' => rfl
  | bad => rfl

@[simp] theorem mSlice_ap (a : M R) (lo hi : Option (M R)) (ρ : PP.Env) : mSlice a lo hi ρ = match a ρ with
    | .ok ra ρ1 => (match mPart lo ρ1 with
      | .ok l ρ2 => (match mPart hi ρ2 with
        | .ok h ρ3 => (match deref ρ3 ra with | some x => opR ρ3 (sliceD x l h) | none => .bad)
        | .exc c p ρ' => .exc c p ρ' | .bad => .bad)
      | .exc c p ρ' => .exc c p ρ' | .bad => .bad)
    | .exc c p ρ' => .exc c p ρ' | .bad => .bad := by
  unfold mSlice bnd
  cases a ρ with
  | ok ra ρ1 =>
    dsimp only
    cases mPart lo ρ1 with
    | ok l ρ2 => dsimp only; cases mPart hi ρ2 <;> rfl
    | exc c p ρ' => rfl
    | bad => rfl
  | exc c p ρ' => rfl
  | bad => rfl
@[simp] theorem mPart_none (ρ : PP.Env) : mPart none ρ = .ok none ρ := nr rfl
@[simp] theorem mPart_some (m : M R) (ρ : PP.Env) : mPart (some m) ρ = match m ρ with
    | .ok r ρ' => (match (deref ρ' r).bind intOf with | some i => .ok (some i) ρ' | none => .bad)
    | .exc c p ρ' => .exc c p ρ' | .bad => .bad := by simp only [mPart, bnd]; cases m ρ <;> rfl
@[simp] theorem sliceD_lst (ds : List D) (lo hi : Option Int) : sliceD (.lst ds) lo hi = some (.ow, .lst (cutD ds lo hi)) := nr rfl
theorem cut_take (ds : List D) (k : Nat) : cutD ds none (some (k : Int)) = ds.take k := by
  unfold cutD
  rw [HT.sIx_none, HT.sIx_nat, List.drop_zero, Nat.sub_zero, List.take_eq_take_iff]
  omega
theorem cut_drop (ds : List D) (k : Nat) : cutD ds (some (k : Int)) none = ds.drop k := by
  unfold cutD
  rw [HT.sIx_none, HT.sIx_nat]
  by_cases h : k ≤ ds.length
  · rw [Nat.min_eq_left h, List.take_of_length_le (by simp)]
  · rw [Nat.min_eq_right (by omega), List.drop_of_length_le (Nat.le_refl _), List.drop_of_length_le (by omega)]; simp
theorem cut_mid (ds : List D) (j k : Nat) : cutD ds (some (j : Int)) (some (k : Int)) = (ds.take k).drop j := by
  unfold cutD
  rw [HT.sIx_nat, HT.sIx_nat]
  by_cases h : j ≤ ds.length
  · rw [Nat.min_eq_left h, List.drop_take, List.take_eq_take_iff]
    simp
    omega
  · rw [Nat.min_eq_right (by omega : ds.length ≤ j), List.drop_of_length_le (Nat.le_refl _), List.take_nil, List.drop_of_length_le (by simp; omega)]

@[simp] theorem gPut_ap (i : Nat) (k : M R) (f : D → D → D → Option D) (d : D) (ρ0 : PP.Env) : gPut i k f d ρ0 = match ρ0[i]? with
  | some (some _) => (match k ρ0 with
    | .ok rb ρ => (match rb, ρ[i]? with
      | .v _ j, some (some (fl, x)) => if fl.own then (match f x j d with
          | some y => .ok () (ρ.set i (some (fl, y)))
          | none => .bad) else .bad
      | _, _ => .bad)
    | .exc c p ρ => .exc c p ρ | .bad => .bad)
  | _ => .bad := by
  unfold gPut bnd
  cases ρ0[i]? with
  | none => rfl
  | some s =>
    cases s with
    | none => rfl
    | some x => dsimp only; cases k ρ0 <;> rfl

theorem atI_nat' (ds : List D) (k : Nat) (d : D) (h : ds[k]? = some d) : atD ds (k : Int) = some d := by
  have hk : k < ds.length := lt_of_get h
  unfold atD atI ixN
  rw [if_pos (by omega)]
  simp [hk]
  exact (List.getElem?_eq_some_iff.1 h).2
@[simp] theorem ixD_lst (ds : List D) (i : Int) : ixD (.lst ds) (.int i) = (atD ds i).map fun d => (.sh, d) := nr rfl
@[simp] theorem ixD_tup (ds : List D) (i : Int) : ixD (.tup ds) (.int i) = (atD ds i).map fun d => (.sh, d) := nr rfl

@[simp] theorem at20 (a b : D) : atD [a, b] 0 = some a := nr rfl
@[simp] theorem at21 (a b : D) : atD [a, b] 1 = some b := nr rfl

def D__law_hand : M PP.Flow :=
    (sSeq (sSet 1 (mComp [2] (iSeq (mSlice (mB 0) none (some (mC (.int 63))))) (gV 2) cYes (mOp2 modI (mOp1 intD (mOp1 absI (mOp1 intD (mB 2)))) (mOp2 powI (mC (.int 10)) (mC (.int 36))))))
    (sRet (mLst (mCons (mV 1) (mCons (mC (.int 0)) (mCons (mC (.int 0)) (mCons (mOp2 addD (mC (.int 571)) (mOp2 mulI (mC (.int 433)) (mOp1 lenD (mB 1)))) (mCons (mC (.int 0)) mNil))))))))
def F__law_hand : FM := runF 1 3 D__law_hand
def D__law_draw : M PP.Flow :=
    (sSeq (sIf (mAnd (mTst (mOp2 eqD (mOp2 ixD (mB 0) (mC (.int 2))) (mC (.int 0)))) (mTst (mOp2 ltI (mOp2 ixD (mB 0) (mC (.int 1))) (mOp1 lenD (mOp2 ixD (mB 0) (mC (.int 0))))))) (sSeq (sSet 2 (mOp2 ixD (mOp2 ixD (mB 0) (mC (.int 0))) (mOp2 ixD (mB 0) (mC (.int 1)))))
    (sSeq (sPut 0 (mOp2 addD (mOp2 ixD (mB 0) (mC (.int 1))) (mC (.int 1))) (mC (.int 1)) putList)
    (sSeq (sPut 0 (mOp2 modI (mOp1 intD (mOp2 addD (mOp2 addD (mOp2 mulI (mOp2 ixD (mB 0) (mC (.int 3))) (mC (.int 69621))) (mOp2 mulI (mB 2) (mC (.int 48271)))) (mC (.int 17)))) (mC (.int 2147483629))) (mC (.int 3)) putList)
    (sIf (mTst (mOp2 geI (mB 2) (mOp2 powI (mC (.int 10)) (mC (.int 18))))) (sPut 0 (mV 2) (mC (.int 2)) putList) sNil)))) sNil)
    (sSeq (sIf (mTst (mOp2 gtI (mOp2 ixD (mB 0) (mC (.int 2))) (mC (.int 0)))) (sSeq (sSet 3 (mOp2 modI (mOp1 intD (mOp2 ixD (mB 0) (mC (.int 2)))) (mB 1)))
    (sSeq (sPut 0 (mOp2 fdivI (mOp2 ixD (mB 0) (mC (.int 2))) (mB 1)) (mC (.int 2)) putList)
    (sRetV 3))) sNil)
    (sSeq (sPut 0 (mOp2 addD (mOp2 ixD (mB 0) (mC (.int 4))) (mC (.int 1))) (mC (.int 4)) putList)
    (sSeq (sSet 4 (mOp2 modI (mOp1 intD (mOp2 mulI (mOp1 intD (mOp2 addD (mOp2 ixD (mB 0) (mC (.int 3))) (mOp2 mulI (mC (.int 7919)) (mOp2 ixD (mB 0) (mC (.int 4)))))) (mC (.int 40692)))) (mC (.int 2147483647))))
    (sSeq (sSet 4 (mOp2 modI (mOp1 intD (mOp2 mulI (mB 4) (mOp2 addD (mOp2 fdivI (mB 4) (mC (.int 1009))) (mC (.int 69621))))) (mC (.int 2147483647))))
    (sSeq (sSet 4 (mOp2 modI (mOp1 intD (mOp2 mulI (mB 4) (mOp2 addD (mOp2 fdivI (mB 4) (mC (.int 2003))) (mC (.int 40014))))) (mC (.int 2147483563))))
    (sRet (mOp2 modI (mOp1 intD (mOp2 fdivI (mB 4) (mC (.int 16)))) (mB 1)))))))))
def F__law_draw : FM := runF 2 5 D__law_draw
def D__law_any : M PP.Flow :=
    (sRet (mOp2 ixD (mB 1) (mCall F__law_draw (aLend 0 (aVal (mOp1 lenD (mB 1)) aNil)))))
def F__law_any : FM := runF 2 2 D__law_any
/-! ### draws -/
/-- a hand: drawn at most k times -/
def Hand (k : Nat) (d : D) : Prop := ∃ (cells : List Int) (a b c e : Int), d = .lst [.lst (cells.map D.int), .int a, .int b, .int c, .int e] ∧ (∀ x ∈ cells, 0 ≤ x ∧ x < 10 ^ 36) ∧ 0 ≤ a ∧ 0 ≤ b ∧ b < 10 ^ 36 ∧ 0 ≤ c ∧ c < 2 ^ 62 ∧ 0 ≤ e ∧ e ≤ k
@[simp] theorem sPut_ap (i : Nat) (e k : M R) (f : D → D → D → Option D) (ρ0 : PP.Env) : sPut i e k f ρ0 = match ρ0[i]? with
  | some (some _) => (match e ρ0 with
    | .ok ra ρ1 => (match k ρ1 with
      | .ok rb ρ => (match ra, rb, ρ[i]? with
        | .v _ v, .v _ j, some (some (fl, x)) => if fl.own then (match f x j v with
            | some y => .ok .nx (ρ.set i (some (fl, y)))
            | none => .bad) else .bad
        | _, _, _ => .bad)
      | .exc c p ρ => .exc c p ρ | .bad => .bad)
    | .exc c p ρ => .exc c p ρ | .bad => .bad)
  | _ => .bad := by
  unfold sPut bnd
  cases ρ0[i]? with
  | none => rfl
  | some s =>
    cases s with
    | none => rfl
    | some x =>
      dsimp only
      cases e ρ0 with
      | ok ra ρ1 => dsimp only; cases k ρ1 <;> rfl
      | exc c p ρ => rfl
      | bad => rfl
@[simp] theorem at50 (a b c d e : D) : atD [a, b, c, d, e] 0 = some a := nr rfl
@[simp] theorem at51 (a b c d e : D) : atD [a, b, c, d, e] 1 = some b := nr rfl
@[simp] theorem at52 (a b c d e : D) : atD [a, b, c, d, e] 2 = some c := nr rfl
@[simp] theorem at53 (a b c d e : D) : atD [a, b, c, d, e] 3 = some d := nr rfl
@[simp] theorem at54 (a b c d e : D) : atD [a, b, c, d, e] 4 = some e := nr rfl
@[simp] theorem put51 (a b c d e v : D) : putList (.lst [a, b, c, d, e]) (.int 1) v = some (.lst [a, v, c, d, e]) := nr rfl
@[simp] theorem put52 (a b c d e v : D) : putList (.lst [a, b, c, d, e]) (.int 2) v = some (.lst [a, b, v, d, e]) := nr rfl
@[simp] theorem put53 (a b c d e v : D) : putList (.lst [a, b, c, d, e]) (.int 3) v = some (.lst [a, b, c, v, e]) := nr rfl
@[simp] theorem put54 (a b c d e v : D) : putList (.lst [a, b, c, d, e]) (.int 4) v = some (.lst [a, b, c, d, v]) := nr rfl
@[simp] theorem powI_36 : powI (.int 10) (.int 36) = some (.sh, .int (10 ^ 36)) := nr rfl
@[simp] theorem powI_18 : powI (.int 10) (.int 18) = some (.sh, .int (10 ^ 18)) := nr rfl
/-- the tail of a draw -/
theorem draw_end {cells : List Int} {a c e m : Int} {s2 s3 s4 : Slot} (hc : 0 ≤ c ∧ c < 2 ^ 62) (he : 0 ≤ e ∧ e < 2 ^ 62) (hm : 0 < m) : ∃ (r : Int) (ρ' : PP.Env),
    (sSeq (sIf (mTst (mOp2 gtI (mOp2 ixD (mB 0) (mC (.int 2))) (mC (.int 0)))) (sSeq (sSet 3 (mOp2 modI (mOp1 intD (mOp2 ixD (mB 0) (mC (.int 2)))) (mB 1)))
    (sSeq (sPut 0 (mOp2 fdivI (mOp2 ixD (mB 0) (mC (.int 2))) (mB 1)) (mC (.int 2)) putList)
    (sRetV 3))) sNil)
    (sSeq (sPut 0 (mOp2 addD (mOp2 ixD (mB 0) (mC (.int 4))) (mC (.int 1))) (mC (.int 4)) putList)
    (sSeq (sSet 4 (mOp2 modI (mOp1 intD (mOp2 mulI (mOp1 intD (mOp2 addD (mOp2 ixD (mB 0) (mC (.int 3))) (mOp2 mulI (mC (.int 7919)) (mOp2 ixD (mB 0) (mC (.int 4)))))) (mC (.int 40692)))) (mC (.int 2147483647))))
    (sSeq (sSet 4 (mOp2 modI (mOp1 intD (mOp2 mulI (mB 4) (mOp2 addD (mOp2 fdivI (mB 4) (mC (.int 1009))) (mC (.int 69621))))) (mC (.int 2147483647))))
    (sSeq (sSet 4 (mOp2 modI (mOp1 intD (mOp2 mulI (mB 4) (mOp2 addD (mOp2 fdivI (mB 4) (mC (.int 2003))) (mC (.int 40014))))) (mC (.int 2147483563))))
    (sRet (mOp2 modI (mOp1 intD (mOp2 fdivI (mB 4) (mC (.int 16)))) (mB 1)))))))) [some (.pa, .lst [.lst (cells.map D.int), .int a, .int 0, .int c, .int e]), some (.sh, .int m), s2, s3, s4]
      = .ok (.rt .sh (.int r)) (some (.pa, .lst [.lst (cells.map D.int), .int a, .int 0, .int c, .int (e + 1)]) :: some (.sh, .int m) :: ρ') ∧ 0 ≤ r ∧ r < m := by
  have lg : ∀ {i : Int}, i.natAbs < 2 ^ 100 → i.natAbs.log2 ≤ 100 := fun h => log_small h
  generalize hn1 : (c + 7919 * (e + 1)) * 40692 % 2147483647 = n1
  generalize hn2 : n1 * (n1 / 1009 + 69621) % 2147483647 = n2
  generalize hn3 : n2 * (n2 / 2003 + 40014) % 2147483563 = n3
  have b1 : 0 ≤ n1 ∧ n1 < 2147483647 := by omega
  have b2 : 0 ≤ n2 ∧ n2 < 2147483647 := by
    rw [← hn2]; exact ⟨Int.emod_nonneg _ (by omega), Int.emod_lt_of_pos _ (by omega)⟩
  have b3 : 0 ≤ n3 ∧ n3 < 2147483563 := by
    rw [← hn3]; exact ⟨Int.emod_nonneg _ (by omega), Int.emod_lt_of_pos _ (by omega)⟩
  have g1 := lg (i := e + 1) (by omega)
  have g2 := lg (i := c + 7919 * (e + 1)) (by omega)
  have g3 := lg (i := n1) (by omega)
  have g4 := lg (i := n1 / 1009 + 69621) (by omega)
  have g5 := lg (i := n2) (by omega)
  have g6 := lg (i := n2 / 2003 + 40014) (by omega)
  refine ⟨n3 / 16 % m, [s2, s3, some (.sh, .int n3)], ?_, Int.emod_nonneg _ (by omega), Int.emod_lt_of_pos _ hm⟩
  simp [show Nat.log2 7919 = 12 by decide, show Nat.log2 40692 = 15 by decide, show Nat.log2 1009 < 9000 by decide, show Nat.log2 2003 < 9000 by decide, show Nat.log2 16 < 9000 by decide, hm,
    show 12 + (e + 1).natAbs.log2 < 1000000 by omega, show (c + 7919 * (e + 1)).natAbs.log2 + 15 < 1000000 by omega, hn1, show n1.natAbs.log2 + (n1 / 1009 + 69621).natAbs.log2 < 1000000 by omega, hn2,
    show n2.natAbs.log2 + (n2 / 2003 + 40014).natAbs.log2 < 1000000 by omega, hn3]

theorem draw_two {cells : List Int} {a b c e m : Int} {s2 s3 s4 : Slot} (hb : 0 ≤ b ∧ b < 10 ^ 36) (hc : 0 ≤ c ∧ c < 2 ^ 62) (he : 0 ≤ e ∧ e < 2 ^ 62) (hm : 0 < m) (hm2 : m < 2 ^ 62) : ∃ (r b' e' : Int) (ρ' : PP.Env),
    (sSeq (sIf (mTst (mOp2 gtI (mOp2 ixD (mB 0) (mC (.int 2))) (mC (.int 0)))) (sSeq (sSet 3 (mOp2 modI (mOp1 intD (mOp2 ixD (mB 0) (mC (.int 2)))) (mB 1)))
    (sSeq (sPut 0 (mOp2 fdivI (mOp2 ixD (mB 0) (mC (.int 2))) (mB 1)) (mC (.int 2)) putList)
    (sRetV 3))) sNil)
    (sSeq (sPut 0 (mOp2 addD (mOp2 ixD (mB 0) (mC (.int 4))) (mC (.int 1))) (mC (.int 4)) putList)
    (sSeq (sSet 4 (mOp2 modI (mOp1 intD (mOp2 mulI (mOp1 intD (mOp2 addD (mOp2 ixD (mB 0) (mC (.int 3))) (mOp2 mulI (mC (.int 7919)) (mOp2 ixD (mB 0) (mC (.int 4)))))) (mC (.int 40692)))) (mC (.int 2147483647))))
    (sSeq (sSet 4 (mOp2 modI (mOp1 intD (mOp2 mulI (mB 4) (mOp2 addD (mOp2 fdivI (mB 4) (mC (.int 1009))) (mC (.int 69621))))) (mC (.int 2147483647))))
    (sSeq (sSet 4 (mOp2 modI (mOp1 intD (mOp2 mulI (mB 4) (mOp2 addD (mOp2 fdivI (mB 4) (mC (.int 2003))) (mC (.int 40014))))) (mC (.int 2147483563))))
    (sRet (mOp2 modI (mOp1 intD (mOp2 fdivI (mB 4) (mC (.int 16)))) (mB 1)))))))) [some (.pa, .lst [.lst (cells.map D.int), .int a, .int b, .int c, .int e]), some (.sh, .int m), s2, s3, s4]
      = .ok (.rt .sh (.int r)) (some (.pa, .lst [.lst (cells.map D.int), .int a, .int b', .int c, .int e']) :: some (.sh, .int m) :: ρ') ∧ 0 ≤ r ∧ r < m ∧ 0 ≤ b' ∧ b' < 10 ^ 36 ∧ 0 ≤ e' ∧ e' ≤ e + 1 := by
  by_cases h : 0 < b
  · have lm : m.natAbs.log2 ≤ 62 := log_small (by omega)
    refine ⟨b % m, b / m, e, [s2, some (.sh, .int (b % m)), s4], ?_, Int.emod_nonneg _ (by omega), Int.emod_lt_of_pos _ hm, Int.ediv_nonneg hb.1 (by omega), ?_, he.1, by omega⟩
    · simp [h, hm, show m.natAbs.log2 < 9000 by omega]
    · exact Int.lt_of_le_of_lt (Int.ediv_le_self _ hb.1) hb.2
  · obtain rfl : b = 0 := by omega
    obtain ⟨r, ρ', e1, h1, h2⟩ := draw_end (cells := cells) (a := a) (s2 := s2) (s3 := s3) (s4 := s4) hc he hm
    exact ⟨r, 0, e + 1, ρ', e1, h1, h2, Int.le_refl _, by omega, by omega, Int.le_refl _⟩
theorem draw_ok {k : Nat} {d : D} {m : Int} (h : Hand k d) (hk : k < 2 ^ 60) (hm : 0 < m) (hm2 : m < 2 ^ 62) : ∃ (r : Int) (d' : D), F__law_draw [(.ow, d), (.sh, .int m)] = .ok .sh (.int r) [(.ow, d')] ∧ 0 ≤ r ∧ r < m ∧ Hand (k + 1) d' := by
  obtain ⟨cells, a, b, c, e, rfl, hcells, ha, hb0, hb1, hc0, hc1, he0, he1⟩ := h
  have e0 : entry 5 [(Fl.ow, D.lst [.lst (cells.map D.int), .int a, .int b, .int c, .int e]), (Fl.sh, D.int m)] = [some (.pa, .lst [.lst (cells.map D.int), .int a, .int b, .int c, .int e]), some (.sh, .int m), none, none, none] := rfl
  by_cases q : b = 0 ∧ a < cells.length
  · obtain ⟨rfl, qa⟩ := q
    have hget : (cells.map D.int)[a.toNat]? = some (.int cells[a.toNat]) := by
      rw [List.getElem?_map, List.getElem?_eq_getElem (by omega)]; rfl
    have hat : atD (cells.map D.int) a = some (.int cells[a.toNat]) := by
      have := atI_nat' _ _ _ hget
      have e : ((a.toNat : Nat) : Int) = a := by omega
      rw [e] at this; exact this
    have hcell := hcells cells[a.toNat] (List.getElem_mem _)
    generalize cells[a.toNat] = cell at hat hcell
    have lc : c.natAbs.log2 ≤ 62 := log_small (by omega)
    have ll : cell.natAbs.log2 ≤ 120 := log_small (by omega)
    generalize hc' : (c * 69621 + cell * 48271 + 17) % 2147483629 = c'
    have bc : 0 ≤ c' ∧ c' < 2 ^ 62 := by omega
    by_cases qc : 10 ^ 18 ≤ cell
    · obtain ⟨r, b', e', ρ', e1, r1, r2, r3, r4, r5, r6⟩ := draw_two (cells := cells) (a := a + 1) (b := cell) (c := c') (e := e) (m := m) (s2 := some (.sh, .int cell)) (s3 := none) (s4 := none) hcell bc (by omega) hm hm2
      refine ⟨r, _, run_rt (ρ := some (.pa, .lst [.lst (cells.map D.int), .int (a + 1), .int b', .int c', .int e']) :: some (.sh, .int m) :: ρ') rfl ?_ rfl, r1, r2, cells, a + 1, b', c', e', rfl, hcells, by omega, r3, r4, bc.1, bc.2, r5, by omega⟩
      rw [e0]
      unfold D__law_draw
      rw [seq_nx (ρ' := [some (.pa, .lst [.lst (cells.map D.int), .int (a + 1), .int cell, .int c', .int e]), some (.sh, .int m), some (.sh, .int cell), none, none]) ?_]
      · exact e1
      · simp [qa, hat, show Nat.log2 69621 = 16 by decide, show Nat.log2 48271 = 15 by decide, show c.natAbs.log2 + 16 < 1000000 by omega, show cell.natAbs.log2 + 15 < 1000000 by omega, hc']
        omega
    · obtain ⟨r, b', e', ρ', e1, r1, r2, r3, r4, r5, r6⟩ := draw_two (cells := cells) (a := a + 1) (b := 0) (c := c') (e := e) (m := m) (s2 := some (.sh, .int cell)) (s3 := none) (s4 := none) (by omega) bc (by omega) hm hm2
      refine ⟨r, _, run_rt (ρ := some (.pa, .lst [.lst (cells.map D.int), .int (a + 1), .int b', .int c', .int e']) :: some (.sh, .int m) :: ρ') rfl ?_ rfl, r1, r2, cells, a + 1, b', c', e', rfl, hcells, by omega, r3, r4, bc.1, bc.2, r5, by omega⟩
      rw [e0]
      unfold D__law_draw
      rw [seq_nx (ρ' := [some (.pa, .lst [.lst (cells.map D.int), .int (a + 1), .int 0, .int c', .int e]), some (.sh, .int m), some (.sh, .int cell), none, none]) ?_]
      · exact e1
      · simp [qa, hat, show Nat.log2 69621 = 16 by decide, show Nat.log2 48271 = 15 by decide, show c.natAbs.log2 + 16 < 1000000 by omega, show cell.natAbs.log2 + 15 < 1000000 by omega, hc']
        omega
  · obtain ⟨r, b', e', ρ', e1, r1, r2, r3, r4, r5, r6⟩ := draw_two (cells := cells) (a := a) (b := b) (c := c) (e := e) (m := m) (s2 := none) (s3 := none) (s4 := none) ⟨hb0, hb1⟩ ⟨hc0, hc1⟩ (by omega) hm hm2
    refine ⟨r, _, run_rt (ρ := some (.pa, .lst [.lst (cells.map D.int), .int a, .int b', .int c, .int e']) :: some (.sh, .int m) :: ρ') rfl ?_ rfl, r1, r2, cells, a, b', c, e', rfl, hcells, ha, r3, r4, hc0, hc1, r5, by omega⟩
    rw [e0]
    unfold D__law_draw
    rw [seq_nx (ρ' := [some (.pa, .lst [.lst (cells.map D.int), .int a, .int b, .int c, .int e]), some (.sh, .int m), none, none, none]) ?_]
    · exact e1
    · by_cases qb : b = 0
      · have : ¬ a < cells.length := fun z => q ⟨qb, z⟩
        simp [qb, this]
      · simp [qb]

theorem toPs_ints : ∀ is : List Int, toPs (is.map D.int) = some (is.map PyData.int)
  | [] => by simp [toPs]
  | i :: is => by
    have := toPs_ints is
    simp [toPs, this]
theorem lay_ints : ∀ is : List Int, PyData.canLayAll0 (is.map PyData.int) = true
  | [] => by simp [PyData.canLayAll0]
  | i :: is => by simp [PyData.canLayAll0, PyData.canLay0, lay_ints is]
theorem depthA_ints : ∀ is : List Int, PyData.depthAll (is.map PyData.int) = 0
  | [] => by simp [PyData.depthAll]
  | i :: is => by simp [PyData.depthAll, PyData.depth, depthA_ints is]
theorem eqv_ints : ∀ is js : List Int, PyData.eqvAll (is.map PyData.int) (js.map PyData.int) = decide (is = js)
  | [], [] => by simp [PyData.eqvAll]
  | [], _ :: _ => by simp [PyData.eqvAll]
  | _ :: _, [] => by simp [PyData.eqvAll]
  | i :: is, j :: js => by
    rw [List.map_cons, List.map_cons]
    simp only [PyData.eqvAll, PyData.eqv, eqv_ints is js]
    by_cases h : i = j <;> by_cases h' : is = js <;> simp [h, h']
theorem shp_lst (is : List Int) : shp (.list (is.map PyData.int)) = true := by simp [shp, SeqAt.shaped, PyData.canLay0, PyData.depth, lay_ints, depthA_ints]
theorem shp_tup (is : List Int) : shp (.tuple (is.map PyData.int)) = true := by simp [shp, SeqAt.shaped, PyData.canLay0, PyData.depth, lay_ints, depthA_ints]
theorem eqD'_tups (is js : List Int) : eqD' (.tup (is.map D.int)) (.tup (js.map D.int)) = some (decide (is = js)) := by
  simp [eqD', toP, toPs_ints, shp_tup, PyData.eqv, eqv_ints]
theorem eqD'_lsts (is js : List Int) : eqD' (.lst (is.map D.int)) (.lst (js.map D.int)) = some (decide (is = js)) := by
  simp [eqD', toP, toPs_ints, shp_lst, PyData.eqv, eqv_ints]
def pd (p : Int × Int) : D := .tup [.int p.1, .int p.2]
def pq (p : Int × Int) : PyData := .tuple [.int p.1, .int p.2]
theorem toP_pd (p : Int × Int) : toP (pd p) = some (pq p) := by simp [pd, pq, toP, toPs]
theorem toPs_pd : ∀ ps : List (Int × Int), toPs (ps.map pd) = some (ps.map pq)
  | [] => by simp [toPs]
  | p :: ps => by
    have := toPs_pd ps
    simp [toPs, this, toP_pd]
theorem lay_pq (p : Int × Int) : (pq p).canLay0 = true := by simp [pq, PyData.canLay0, PyData.canLayAll0]
theorem depth_pq (p : Int × Int) : (pq p).depth = 1 := by simp [pq, PyData.depth, PyData.depthAll]
theorem lay_pqs : ∀ ps : List (Int × Int), PyData.canLayAll0 (ps.map pq) = true
  | [] => by simp [PyData.canLayAll0]
  | i :: is => by simp [PyData.canLayAll0, lay_pq, lay_pqs is]
theorem depth_pqs : ∀ ps : List (Int × Int), PyData.depthAll (ps.map pq) ≤ 1
  | [] => by simp [PyData.depthAll]
  | i :: is => by
    have := depth_pqs is
    simp [PyData.depthAll, depth_pq]
    omega
theorem eqv_pq (p q : Int × Int) : PyData.eqv (pq p) (pq q) = decide (p = q) := by
  obtain ⟨a, b⟩ := p
  obtain ⟨c, d⟩ := q
  simp only [pq, PyData.eqv, PyData.eqvAll]
  by_cases h : a = c <;> by_cases h' : b = d <;> simp [h, h']
theorem shp_pq (p : Int × Int) : shp (pq p) = true := by simp [shp, SeqAt.shaped, lay_pq, depth_pq]
theorem shp_pqs (ps : List (Int × Int)) : shp (.list (ps.map pq)) = true := by
  have := depth_pqs ps
  simp [shp, SeqAt.shaped, PyData.canLay0, PyData.depth, lay_pqs]
  omega
theorem eqD'_pd (p q : Int × Int) : eqD' (pd p) (pd q) = some (decide (p = q)) := by
  simp [eqD', toP_pd, shp_pq, eqv_pq]
theorem inD_pd (p : Int × Int) (ps : List (Int × Int)) : inD (pd p) (.lst (ps.map pd)) = some (.sh, .bl (decide (p ∈ ps))) := by
  have e : (ps.map pq).any (fun z => PyData.eqv z (pq p)) = decide (p ∈ ps) := by
    rw [List.any_map]
    induction ps with
    | nil => simp
    | cons a l ih =>
      rw [List.any_cons, ih]
      simp only [Function.comp, eqv_pq]
      by_cases h : a = p
      · simp [h]
      · have : ¬ p = a := fun z => h z.symm
        simp [h, this]
  simp [inD, inD', inSeq, seqOf, toP_pd, toPs_pd, shp_pq, shp_pqs, e]
theorem findP_pd (p : Int × Int) : ∀ (ps : List (Int × Int)) (k : Nat), ps[k]? = some p → (∀ j, j < k → ps[j]? ≠ some p) → findP (pq p) (ps.map pq) = some k
  | [], k, h, _ => by simp at h
  | a :: l, 0, h, _ => by
    have h : some a = some p := h
    cases h
    simp [findP, eqv_pq]
  | a :: l, k + 1, h, hn => by
    have ha : ¬ a = p := fun z => hn 0 (by omega) (by rw [z]; rfl)
    have ih := findP_pd p l k (by simpa using h) (fun j hj => by have := hn (j + 1) (by omega); simpa using this)
    simp [findP, eqv_pq, ha, ih]
theorem indexD_pd (p : Int × Int) (ps : List (Int × Int)) (k : Nat) (h : ps[k]? = some p) (hn : ∀ j, j < k → ps[j]? ≠ some p) : indexD (.lst (ps.map pd)) (pd p) = some (.sh, .int k) := by
  simp [indexD, toPs_pd, toP_pd, shp_pqs, shp_pq, findP_pd p ps k h hn]

@[simp] theorem sliceD_scr (ns : List Int) (lo hi : Option Int) : sliceD (.scr ns) lo hi = some (.ow, .lst (cutD (ns.map D.int) lo hi)) := nr rfl
theorem hand_ok (ns : List Int) (hl : ns.length ≤ 63) : ∃ d, F__law_hand [(.sh, .scr ns)] = .ok .ow d [] ∧ Hand 0 d := by
  have c := loopC_map (i := 2) (e := (mOp2 modI (mOp1 intD (mOp1 absI (mOp1 intD (mB 2)))) (mOp2 powI (mC (.int 10)) (mC (.int 36))))) (f := fun d => match d with | .int i => .int ((if i < 0 then -i else i) % 10 ^ 36) | d => d) (ρ := [some (.sh, .scr ns), none, none]) rfl (ns.map D.int)
    (fun d hd => by
      obtain ⟨i, _, rfl⟩ := List.mem_map.1 hd
      exact ⟨.sh, by simp⟩) (by rw [List.length_map, sizeLine_eq]; omega)
  have hc : cutD (ns.map D.int) none (some 63) = ns.map D.int := by
    have := cut_take (ns.map D.int) 63
    rw [List.take_of_length_le (by simpa using hl)] at this
    exact this
  refine ⟨.lst [.lst ((ns.map fun i : Int => (if i < 0 then -i else i) % 10 ^ 36).map D.int), .int 0, .int 0, .int (571 + 433 * ns.length), .int 0], ?_, _, 0, 0, _, 0, rfl, fun x hx => ?_, by omega, by omega, by omega, by omega, by omega, by omega, by omega⟩
  · rw [List.map_map] at c
    have lz : (ns.length : Int).natAbs.log2 ≤ 62 := log_small (by omega)
    have l433 : Nat.log2 433 = 8 := by decide
    simp only [Int.natAbs_natCast] at lz
    simp [F__law_hand, runF_def, D__law_hand, entry, hc, wipeE, c, restore, sizeLine_eq, l433, show 8 + ns.length.log2 < 1000000 by omega, Function.comp_def]
  · obtain ⟨i, _, rfl⟩ := List.mem_map.1 hx
    exact ⟨Int.emod_nonneg _ (by omega), Int.emod_lt_of_pos _ (by omega)⟩
theorem any_ok {k : Nat} {d : D} (h : Hand k d) (hk : k < 2 ^ 60) (ds : List D) (h0 : 0 < ds.length) (h1 : ds.length < 1000) : ∃ (x d' : D), F__law_any [(.ow, d), (.sh, .lst ds)] = .ok .sh x [(.ow, d')] ∧ x ∈ ds ∧ Hand (k + 1) d' := by
  obtain ⟨r, d', e, r0, r1, hd⟩ := draw_ok (m := (ds.length : Int)) h hk (by omega) (by omega)
  obtain ⟨n, rfl⟩ : ∃ n : Nat, r = n := ⟨r.toNat, by omega⟩
  have hn : n < ds.length := by omega
  refine ⟨ds[n], d', ?_, List.getElem_mem _, hd⟩
  simp [F__law_any, runF_def, D__law_any, entry, e, atI_nat' _ _ _ (List.getElem?_eq_getElem hn)]

@[simp] theorem mSaid_ap (say : Did → Option (Fl × D)) (m : M R) (ρ : PP.Env) : mSaid say m ρ = match m ρ with
  | .ok _ ρ' => opR ρ' (say .ok)
  | .exc c p ρ' => opR ρ' (say (.exc c p))
  | .bad => .bad := rfl
theorem any_call {k : Nat} {h : D} {fl : Fl} (hh : Hand k h) (hk : k < 2 ^ 60) (hf : fl.own = true) (i : Nat) (ρ : PP.Env) (hi : ρ[i]? = some (some (fl, h))) {m : M R} {ds : List D} (hm : m (ρ.set i none) = .ok (.v .ow (.lst ds)) (ρ.set i none)) (h0 : 0 < ds.length) (h1 : ds.length < 1000) :
    ∃ (x h' : D), mCall F__law_any (aLend i (aVal m aNil)) ρ = .ok (.v .sh x) (ρ.set i (some (fl, h'))) ∧ x ∈ ds ∧ Hand (k + 1) h' := by
  obtain ⟨x, h', e, hx, hd⟩ := any_ok hh hk ds h0 h1
  refine ⟨x, h', ?_, hx, hd⟩
  simp [hi, hf, hm, e]

@[simp] theorem mRng_ap (lo hi : M R) (ρ : PP.Env) : mRng lo hi ρ = match lo ρ with
    | .ok ra ρ1 => (match hi ρ1 with
      | .ok rb ρ2 => (match (deref ρ2 ra).bind intOf, (deref ρ2 rb).bind intOf with | some i, some j => .ok (i, j) ρ2 | _, _ => .bad)
      | .exc c p ρ' => .exc c p ρ' | .bad => .bad)
    | .exc c p ρ' => .exc c p ρ' | .bad => .bad := by
  unfold mRng bnd
  cases lo ρ with
  | ok ra ρ1 => dsimp only; cases hi ρ1 <;> rfl
  | exc c p ρ' => rfl
  | bad => rfl
@[simp] theorem mListRg_ap (m : M (Int × Int)) (ρ : PP.Env) : mListRg m ρ = match m ρ with
    | .ok p ρ' => (if rgOk p.1 p.2 then .ok (.v .ow (.lst (rngD p.1 (p.2 - p.1).toNat 1))) ρ' else .bad)
    | .exc c p ρ' => .exc c p ρ' | .bad => .bad := by
  unfold mListRg bnd
  cases m ρ with
  | ok p ρ' => dsimp only; split <;> rfl
  | exc c p ρ' => rfl
  | bad => rfl
@[simp] theorem mMet_ap (ty : D → Bool) (f : D → D → Option (Fl × D)) (a b : M R) (ρ : PP.Env) : mMet ty f a b ρ = match a ρ with
    | .ok ra ρ1 => (match deref ρ1 ra with
      | some x0 => if ty x0 then (match b ρ1 with
        | .ok rb ρ2 => (match deref ρ2 ra, deref ρ2 rb with | some x, some y => opR ρ2 (f x y) | _, _ => .bad)
        | .exc c p ρ' => .exc c p ρ' | .bad => .bad) else .bad
      | none => .bad)
    | .exc c p ρ' => .exc c p ρ' | .bad => .bad := by
  unfold mMet bnd
  cases a ρ with
  | ok ra ρ1 =>
    dsimp only
    cases deref ρ1 ra with
    | none => rfl
    | some x0 =>
      dsimp only
      cases ty x0 with
      | false => rfl
      | true => simp only [if_true]; cases b ρ1 <;> rfl
  | exc c p ρ' => rfl
  | bad => rfl
theorem draw_call {k : Nat} {h : D} {m : Int} (hh : Hand k h) (hk : k < 2 ^ 60) (hm : 0 < m) (hm2 : m < 2 ^ 62) (i : Nat) (ρ : PP.Env) (fl : Fl) (hf : fl.own = true) (hi : ρ[i]? = some (some (fl, h))) :
    ∃ (r : Int) (h' : D), mCall F__law_draw (aLend i (aVal (mC (.int m)) aNil)) ρ = .ok (.v .sh (.int r)) (ρ.set i (some (fl, h'))) ∧ 0 ≤ r ∧ r < m ∧ Hand (k + 1) h' := by
  obtain ⟨r, h', e, r0, r1, hd⟩ := draw_ok hh hk hm hm2
  exact ⟨r, h', by simp [hi, hf, e], r0, r1, hd⟩

theorem neD_pd (p q : Int × Int) : neD (pd p) (pd q) = some (.sh, .bl (!decide (p = q))) := by unfold neD; rw [eqD'_pd]; rfl

@[simp] theorem iRg2_ap (a b : M R) (ρ : PP.Env) : iRg2 a b ρ = match a ρ with
    | .ok ra ρ1 => (match b ρ1 with
      | .ok rb ρ2 => (match (deref ρ2 ra).bind intOf, (deref ρ2 rb).bind intOf with
        | some i, some j => if small62 i && small62 j then .ok (rngD i (j - i).toNat 1) ρ2 else .bad
        | _, _ => .bad)
      | .exc c p ρ' => .exc c p ρ' | .bad => .bad)
    | .exc c p ρ' => .exc c p ρ' | .bad => .bad := by
  unfold iRg2 bnd
  cases a ρ with
  | ok ra ρ1 => dsimp only; cases b ρ1 <;> rfl
  | exc c p ρ' => rfl
  | bad => rfl

theorem set_call (F : FM) (i : Nat) (n : Int) (fl : Fl) (d : D) (ρ : PP.Env) (e : F [(.sh, .int n)] = .ok fl d []) (hi : i < ρ.length) (hp : fl.par = false) : sSet i (mCall F (aVal (mC (.int n)) aNil)) ρ = .ok .nx (ρ.set i (some (fl, d))) := by
  simp [e, hi, hp]

theorem intsOf_map : ∀ is : List Int, intsOf (is.map D.int) = some is
  | [] => rfl
  | i :: is => by rw [List.map_cons, intsOf, intsOf_map is]

/-- sorted numbers from 1 on without a gap -/
theorem take_run : ∀ (S : List Int) (a m : Int), S.Pairwise (· ≤ ·) → S.Nodup → (∀ x ∈ S, a ≤ x) → (∀ x, a ≤ x → x ≤ m → x ∈ S) → S.take (S.filter fun x => decide (x ≤ m)).length = (List.range (S.filter fun x => decide (x ≤ m)).length).map fun i : Nat => a + i
  | [], a, m, _, _, _, _ => rfl
  | s :: S, a, m, hp, hn, hlo, hall => by
    have hp' := List.pairwise_cons.1 hp
    have hn' := List.nodup_cons.1 hn
    by_cases hs : s ≤ m
    · have ha : s = a := by
        have h1 := hlo s List.mem_cons_self
        have h2 := hall a (Int.le_refl _) (by omega)
        rcases List.mem_cons.1 h2 with z | z
        · exact z.symm
        · have := hp'.1 a z; omega
      subst ha
      have ih := take_run S (s + 1) m hp'.2 hn'.2 (fun x hx => by
        have h1 := hp'.1 x hx
        have h2 : x ≠ s := fun z => hn'.1 (z ▸ hx)
        omega) (fun x h1 h2 => by
        rcases List.mem_cons.1 (hall x (by omega) h2) with z | z
        · omega
        · exact z)
      rw [List.filter_cons_of_pos (by simpa using hs), List.length_cons, List.take_succ_cons, ih, List.range_succ_eq_map, List.map_cons, List.map_map]
      congr 1
      · simp
      · apply List.map_congr_left
        intro i _
        simp
        omega
    · have : (s :: S).filter (fun x => decide (x ≤ m)) = [] := by
        rw [List.filter_eq_nil_iff]
        intro x hx
        rcases List.mem_cons.1 hx with z | z
        · subst z; simpa using hs
        · have := hp'.1 x z
          simp
          omega
      rw [this]
      rfl

end PP

set_option Elab.async false
set_option linter.all false
set_option maxRecDepth 100000
/-! Plain: what holds at a run's end, step by step. What is left to be done is kept as code that is not yet run. -/
namespace PP
open PySem L2
variable {α β : Type} {ρ ρ' : PP.Env}
abbrev Cont (α : Type) := α → PP.Env → Prop
/-- it ends well, and Q holds then -/
def Wr (r : Res α) (Q : Cont α) : Prop := match r with
  | .ok a ρ => Q a ρ
  | _ => False
theorem Wr_congr {r r' : Res α} {Q : Cont α} (h : r = r') : Wr r Q = Wr r' Q := by rw [h]
@[simp] theorem Wr_ok {Q : Cont α} (a : α) : Wr (.ok a ρ) Q = Q a ρ := nr rfl
@[simp] theorem Wr_bad {Q : Cont α} : Wr .bad Q = False := nr rfl
@[simp] theorem Wr_exc {Q : Cont α} {c : Nat} {p : Option D} : Wr (.exc c p ρ) Q = False := nr rfl
theorem Wr.of {r : Res α} {Q : Cont α} {a : α} (e : r = .ok a ρ) (h : Q a ρ) : Wr r Q := by rw [e]; exact h
theorem Wr.imp {r : Res α} {Q Q' : Cont α} (h : Wr r Q) (i : ∀ a ρ, Q a ρ → Q' a ρ) : Wr r Q' := by
  cases r with
  | ok a ρ => exact i a ρ h
  | exc c p ρ => exact h
  | bad => exact h
theorem Wr.ex {r : Res α} {Q : Cont α} (h : Wr r Q) : ∃ a ρ, r = .ok a ρ ∧ Q a ρ := by
  cases r with
  | ok a ρ => exact ⟨a, ρ, rfl, h⟩
  | exc c p ρ => exact h.elim
  | bad => exact h.elim
/-- by whether x: a statement, an expression, a test -/
def Kif (a b : M α) (Q : Cont α) (x : Bool) (ρ : PP.Env) : Prop := match x with
  | true => Wr (a ρ) Q
  | false => Wr (b ρ) Q
@[simp] theorem Kif_t {a b : M α} {Q : Cont α} : Kif a b Q true ρ = Wr (a ρ) Q := nr rfl
@[simp] theorem Kif_f {a b : M α} {Q : Cont α} : Kif a b Q false ρ = Wr (b ρ) Q := nr rfl
theorem Kif.split {a b : M α} {Q : Cont α} {x : Bool} (h1 : x = true → Wr (a ρ) Q) (h2 : x = false → Wr (b ρ) Q) : Kif a b Q x ρ := by
  cases x
  · exact h2 rfl
  · exact h1 rfl
theorem Kif.t {a b : M α} {Q : Cont α} {x : Bool} (h : x = true) (p : Wr (a ρ) Q) : Kif a b Q x ρ := by rw [h]; exact p
theorem Kif.f {a b : M α} {Q : Cont α} {x : Bool} (h : x = false) (p : Wr (b ρ) Q) : Kif a b Q x ρ := by rw [h]; exact p
/-- both ways give v -/
theorem Kif.val {a b : M α} {Q : Cont α} {x : Bool} (v : α) (ha : x = true → a ρ = .ok v ρ) (hb : x = false → b ρ = .ok v ρ) (q : Q v ρ) : Kif a b Q x ρ := by
  cases x with
  | true => rw [Kif_t, ha rfl]; exact q
  | false => rw [Kif_f, hb rfl]; exact q
/-- after a statement -/
def Kseq (b : M PP.Flow) (Q : Cont PP.Flow) (f : PP.Flow) (ρ : PP.Env) : Prop := match f with
  | .nx => Wr (b ρ) Q
  | f => Q f ρ
@[simp] theorem Kseq_nx {b : M PP.Flow} {Q : Cont PP.Flow} : Kseq b Q .nx ρ = Wr (b ρ) Q := nr rfl
@[simp] theorem Kseq_rt {b : M PP.Flow} {Q : Cont PP.Flow} {fl : Fl} {d : D} : Kseq b Q (.rt fl d) ρ = Q (.rt fl d) ρ := nr rfl
@[simp] theorem Kseq_bk {b : M PP.Flow} {Q : Cont PP.Flow} : Kseq b Q .bk ρ = Q .bk ρ := nr rfl
@[simp] theorem Kseq_ct {b : M PP.Flow} {Q : Cont PP.Flow} : Kseq b Q .ct ρ = Q .ct ρ := nr rfl
/-- a first statement whose end is known -/
theorem W_seq {a b : M PP.Flow} {Q : Cont PP.Flow} (h : a ρ = .ok .nx ρ') (t : Wr (b ρ') Q) : Wr (sSeq a b ρ) Q := by rw [seq_nx h]; exact t
theorem Wr_bnd {m : M α} {k : α → M β} {Q : Cont β} : Wr (bnd m k ρ) Q = Wr (m ρ) fun a ρ' => Wr (k a ρ') Q := by
  rw [bnd_ap]; cases m ρ <;> rfl
@[simp ↓] theorem Wr_seq {a b : M PP.Flow} {Q : Cont PP.Flow} : Wr (sSeq a b ρ) Q = Wr (a ρ) (Kseq b Q) := by
  rw [sSeq_ap]
  cases a ρ with
  | ok f ρ' => cases f <;> rfl
  | exc c p ρ => rfl
  | bad => rfl
@[simp ↓] theorem Wr_if {c : M Bool} {a b : M PP.Flow} {Q : Cont PP.Flow} : Wr (sIf c a b ρ) Q = Wr (c ρ) (Kif a b Q) := by
  rw [sIf_ap]
  cases c ρ with
  | ok x ρ' => cases x <;> rfl
  | exc c p ρ => rfl
  | bad => rfl
@[simp ↓] theorem Wr_ifx {c : M Bool} {a b : M R} {Q : Cont R} : Wr (mIf c a b ρ) Q = Wr (c ρ) (Kif a b Q) := by
  rw [mIf_ap]
  cases c ρ with
  | ok x ρ' => cases x <;> rfl
  | exc c p ρ => rfl
  | bad => rfl
@[simp ↓] theorem Wr_and {a b : M Bool} {Q : Cont Bool} : Wr (mAnd a b ρ) Q = Wr (a ρ) (Kif b (pur false) Q) := by
  rw [mAnd_ap]
  cases a ρ with
  | ok x ρ' => cases x <;> rfl
  | exc c p ρ => rfl
  | bad => rfl
@[simp ↓] theorem Wr_or {a b : M Bool} {Q : Cont Bool} : Wr (mOr a b ρ) Q = Wr (a ρ) (Kif (pur true) b Q) := by
  rw [mOr_ap]
  cases a ρ with
  | ok x ρ' => cases x <;> rfl
  | exc c p ρ => rfl
  | bad => rfl
def Knot (Q : Cont Bool) (x : Bool) (ρ : PP.Env) : Prop := Q (!x) ρ
@[simp] theorem Knot_ap {Q : Cont Bool} {x : Bool} : Knot Q x ρ = Q (!x) ρ := nr rfl
@[simp ↓] theorem Wr_not {a : M Bool} {Q : Cont Bool} : Wr (mNot a ρ) Q = Wr (a ρ) (Knot Q) := by
  rw [mNot_ap]; cases a ρ <;> rfl
@[simp ↓] theorem Wr_andV {a b : M R} {Q : Cont R} : Wr (mAndV a b ρ) Q = Wr (mTst a ρ) (Kif b (mC (.bl false)) Q) := by
  rw [mAndV_ap]
  cases mTst a ρ with
  | ok x ρ' => cases x <;> rfl
  | exc c p ρ => rfl
  | bad => rfl
@[simp ↓] theorem Wr_orV {a b : M R} {Q : Cont R} : Wr (mOrV a b ρ) Q = Wr (mTst a ρ) (Kif (mC (.bl true)) b Q) := by
  rw [mOrV_ap]
  cases mTst a ρ with
  | ok x ρ' => cases x <;> rfl
  | exc c p ρ => rfl
  | bad => rfl
def KnotV (Q : Cont R) (x : Bool) (ρ : PP.Env) : Prop := Q (.v .sh (.bl (!x))) ρ
@[simp] theorem KnotV_ap {Q : Cont R} {x : Bool} : KnotV Q x ρ = Q (.v .sh (.bl (!x))) ρ := nr rfl
@[simp ↓] theorem Wr_notV {a : M R} {Q : Cont R} : Wr (mNotV a ρ) Q = Wr (mTst a ρ) (KnotV Q) := by
  rw [mNotV_ap]; cases mTst a ρ <;> rfl
/-- something that may be lacking -/
def Kopt {γ : Type} (o : Option γ) (Q : γ → Prop) : Prop := match o with
  | some b => Q b
  | _ => False
@[simp] theorem Kopt_some {γ : Type} {b : γ} {Q : γ → Prop} : Kopt (some b) Q = Q b := nr rfl
theorem Kopt_congr {γ : Type} {x y : Option γ} {Q : γ → Prop} (h : x = y) : Kopt x Q = Kopt y Q := by rw [h]
/-- what is left at ρ -/
def Kat (Q : Cont α) (ρ : PP.Env) (a : α) : Prop := Q a ρ
@[simp] theorem Kat_ap {Q : Cont α} {a : α} : Kat Q ρ a = Q a ρ := nr rfl
def blOf : D → Option Bool
  | .bl b => some b
  | _ => none
@[simp] theorem blOf_bl (b : Bool) : blOf (.bl b) = some b := nr rfl
def Ktst (f : D → Option α) (Q : Cont α) (r : R) (ρ : PP.Env) : Prop := Kopt ((deref ρ r).bind f) (Kat Q ρ)
@[simp] theorem Ktst_ap {f : D → Option α} {Q : Cont α} {r : R} : Ktst f Q r ρ = Kopt ((deref ρ r).bind f) (Kat Q ρ) := nr rfl
@[simp ↓] theorem Wr_tst {a : M R} {Q : Cont Bool} : Wr (mTst a ρ) Q = Wr (a ρ) (Ktst blOf Q) := by
  rw [mTst_ap]
  cases a ρ with
  | ok ra ρ' =>
    dsimp only [Wr, Ktst]
    cases deref ρ' ra with
    | none => rfl
    | some d => cases d <;> rfl
  | exc c p ρ => rfl
  | bad => rfl
@[simp ↓] theorem Wr_tru {a : M R} {Q : Cont Bool} : Wr (mTru a ρ) Q = Wr (a ρ) (Ktst truD Q) := by
  rw [mTru_ap]
  cases a ρ with
  | ok ra ρ' =>
    dsimp only [Wr, Ktst]
    cases (deref ρ' ra).bind truD <;> rfl
  | exc c p ρ => rfl
  | bad => rfl
/-- what an operation gives -/
def Kop (o : Option (Fl × D)) (Q : Cont R) (ρ : PP.Env) : Prop := match o with
  | some (fl, d) => Q (.v fl d) ρ
  | none => False
@[simp] theorem Kop_some {fl : Fl} {d : D} {Q : Cont R} : Kop (some (fl, d)) Q ρ = Q (.v fl d) ρ := nr rfl
theorem Kop_congr {x y : Option (Fl × D)} {Q : Cont R} (h : x = y) : Kop x Q ρ = Kop y Q ρ := by rw [h]
def K1 (f : D → Option (Fl × D)) (Q : Cont R) (r : R) (ρ : PP.Env) : Prop := Kop ((deref ρ r).bind f) Q ρ
@[simp] theorem K1_ap {f : D → Option (Fl × D)} {Q : Cont R} {r : R} : K1 f Q r ρ = Kop ((deref ρ r).bind f) Q ρ := nr rfl
@[simp ↓] theorem Wr_op1 {f : D → Option (Fl × D)} {a : M R} {Q : Cont R} : Wr (mOp1 f a ρ) Q = Wr (a ρ) (K1 f Q) := by
  rw [mOp1_ap]
  cases a ρ with
  | ok ra ρ' =>
    dsimp only [Wr, K1]
    cases deref ρ' ra with
    | none => rfl
    | some d =>
      dsimp only [Option.bind]
      cases f d with
      | none => rfl
      | some x => rfl
  | exc c p ρ => rfl
  | bad => rfl
def dr2 (f : D → D → Option (Fl × D)) (x y : Option D) : Option (Fl × D) := match x, y with
  | some x, some y => f x y
  | _, _ => none
@[simp] theorem dr2_some {f : D → D → Option (Fl × D)} {x y : D} : dr2 f (some x) (some y) = f x y := nr rfl
def K2b (f : D → D → Option (Fl × D)) (ra : R) (Q : Cont R) (rb : R) (ρ : PP.Env) : Prop := Kop (dr2 f (deref ρ ra) (deref ρ rb)) Q ρ
@[simp] theorem K2b_ap {f : D → D → Option (Fl × D)} {ra rb : R} {Q : Cont R} : K2b f ra Q rb ρ = Kop (dr2 f (deref ρ ra) (deref ρ rb)) Q ρ := nr rfl
def K2 (f : D → D → Option (Fl × D)) (b : M R) (Q : Cont R) (ra : R) (ρ : PP.Env) : Prop := Wr (b ρ) (K2b f ra Q)
@[simp] theorem K2_ap {f : D → D → Option (Fl × D)} {b : M R} {ra : R} {Q : Cont R} : K2 f b Q ra ρ = Wr (b ρ) (K2b f ra Q) := nr rfl
@[simp ↓] theorem Wr_op2 {f : D → D → Option (Fl × D)} {a b : M R} {Q : Cont R} : Wr (mOp2 f a b ρ) Q = Wr (a ρ) (K2 f b Q) := by
  rw [mOp2_ap]
  cases a ρ with
  | ok ra ρ1 =>
    dsimp only [Wr, K2]
    cases b ρ1 with
    | ok rb ρ2 =>
      dsimp only [K2b]
      cases deref ρ2 ra with
      | none => rfl
      | some x =>
        cases deref ρ2 rb with
        | none => rfl
        | some y =>
          dsimp only [dr2]
          cases f x y <;> rfl
    | exc c p ρ => rfl
    | bad => rfl
  | exc c p ρ => rfl
  | bad => rfl
/-- a list's parts -/
def Kcons2 (d : D) (Q : Cont (List D)) (ds : List D) (ρ : PP.Env) : Prop := Q (d :: ds) ρ
@[simp] theorem Kcons2_ap {d : D} {Q : Cont (List D)} {ds : List D} : Kcons2 d Q ds ρ = Q (d :: ds) ρ := nr rfl
def Kcons (m : M (List D)) (Q : Cont (List D)) (r : R) (ρ : PP.Env) : Prop := match r with
  | .v _ d => Wr (m ρ) (Kcons2 d Q)
  | .s _ => False
@[simp] theorem Kcons_v {m : M (List D)} {Q : Cont (List D)} {fl : Fl} {d : D} : Kcons m Q (.v fl d) ρ = Wr (m ρ) (Kcons2 d Q) := nr rfl
@[simp ↓] theorem Wr_cons {a : M R} {r : M (List D)} {Q : Cont (List D)} : Wr (mCons a r ρ) Q = Wr (a ρ) (Kcons r Q) := by
  rw [mCons_ap]
  cases a ρ with
  | ok ra ρ1 =>
    cases ra with
    | s i => rfl
    | v fl d => dsimp only [Wr, Kcons]; cases r ρ1 <;> rfl
  | exc c p ρ => rfl
  | bad => rfl
def Ktup (Q : Cont R) (ds : List D) (ρ : PP.Env) : Prop := ds.length ≤ sizeLine ∧ Q (.v .sh (.tup ds)) ρ
@[simp] theorem Ktup_ap {Q : Cont R} {ds : List D} : Ktup Q ds ρ = (ds.length ≤ sizeLine ∧ Q (.v .sh (.tup ds)) ρ) := nr rfl
@[simp ↓] theorem Wr_tup {a : M (List D)} {Q : Cont R} : Wr (mTup a ρ) Q = Wr (a ρ) (Ktup Q) := by
  rw [mTup_ap]
  cases a ρ with
  | ok ds ρ' =>
    dsimp only [Wr, Ktup]
    by_cases h : ds.length ≤ sizeLine
    · rw [if_pos h]; simp [h]
    · rw [if_neg h]; simp [h]
  | exc c p ρ => rfl
  | bad => rfl
def Klst (Q : Cont R) (ds : List D) (ρ : PP.Env) : Prop := ds.length ≤ sizeLine ∧ Q (.v .ow (.lst ds)) ρ
@[simp] theorem Klst_ap {Q : Cont R} {ds : List D} : Klst Q ds ρ = (ds.length ≤ sizeLine ∧ Q (.v .ow (.lst ds)) ρ) := nr rfl
@[simp ↓] theorem Wr_lst {a : M (List D)} {Q : Cont R} : Wr (mLst a ρ) Q = Wr (a ρ) (Klst Q) := by
  rw [mLst_ap]
  cases a ρ with
  | ok ds ρ' =>
    dsimp only [Wr, Klst]
    by_cases h : ds.length ≤ sizeLine
    · rw [if_pos h]; simp [h]
    · rw [if_neg h]; simp [h]
  | exc c p ρ => rfl
  | bad => rfl
def Kset (i : Nat) (Q : Cont PP.Flow) (r : R) (ρ : PP.Env) : Prop := match r with
  | .v fl d => (i < ρ.length ∧ fl.par = false) ∧ Q .nx (ρ.set i (some (fl, d)))
  | .s _ => False
@[simp] theorem Kset_v {i : Nat} {Q : Cont PP.Flow} {fl : Fl} {d : D} : Kset i Q (.v fl d) ρ = ((i < ρ.length ∧ fl.par = false) ∧ Q .nx (ρ.set i (some (fl, d)))) := nr rfl
@[simp ↓] theorem Wr_set {i : Nat} {a : M R} {Q : Cont PP.Flow} : Wr (sSet i a ρ) Q = Wr (a ρ) (Kset i Q) := by
  rw [sSet_ap]
  cases a ρ with
  | ok ra ρ' =>
    cases ra with
    | s i => rfl
    | v fl d =>
      dsimp only [Wr, Kset]
      by_cases h : i < ρ'.length ∧ fl.par = false
      · rw [if_pos h]; simp [h]
      · rw [if_neg h]; simp [h]
  | exc c p ρ => rfl
  | bad => rfl
def Kexp (Q : Cont PP.Flow) (r : R) (ρ : PP.Env) : Prop := Q .nx ρ
@[simp] theorem Kexp_ap {Q : Cont PP.Flow} {r : R} : Kexp Q r ρ = Q .nx ρ := nr rfl
@[simp ↓] theorem Wr_expr {a : M R} {Q : Cont PP.Flow} : Wr (sExp a ρ) Q = Wr (a ρ) (Kexp Q) := by
  rw [sExp_ap]; cases a ρ <;> rfl
def Krt (Q : Cont PP.Flow) (r : R) (ρ : PP.Env) : Prop := match r with
  | .v fl d => Q (.rt fl d) ρ
  | .s _ => False
@[simp] theorem Krt_v {Q : Cont PP.Flow} {fl : Fl} {d : D} : Krt Q (.v fl d) ρ = Q (.rt fl d) ρ := nr rfl
@[simp ↓] theorem Wr_ret {a : M R} {Q : Cont PP.Flow} : Wr (sRet a ρ) Q = Wr (a ρ) (Krt Q) := by
  rw [sRet_ap]
  cases a ρ with
  | ok ra ρ' => cases ra <;> rfl
  | exc c p ρ => rfl
  | bad => rfl
/-- arguments -/
def Kval2 (d : D) (Q : Cont (List Ag)) (ds : List Ag) (ρ : PP.Env) : Prop := Q (⟨none, .sh, d⟩ :: ds) ρ
@[simp] theorem Kval2_ap {d : D} {Q : Cont (List Ag)} {ds : List Ag} : Kval2 d Q ds ρ = Q (⟨none, .sh, d⟩ :: ds) ρ := nr rfl
def Kval (m : M (List Ag)) (Q : Cont (List Ag)) (r : R) (ρ : PP.Env) : Prop := match r with
  | .v _ d => Wr (m ρ) (Kval2 d Q)
  | .s _ => False
@[simp] theorem Kval_v {m : M (List Ag)} {Q : Cont (List Ag)} {fl : Fl} {d : D} : Kval m Q (.v fl d) ρ = Wr (m ρ) (Kval2 d Q) := nr rfl
@[simp ↓] theorem Wr_aVal {a : M R} {r : M (List Ag)} {Q : Cont (List Ag)} : Wr (aVal a r ρ) Q = Wr (a ρ) (Kval r Q) := by
  rw [aVal_ap]
  cases a ρ with
  | ok ra ρ1 =>
    cases ra with
    | s i => rfl
    | v fl d => dsimp only [Wr, Kval]; cases r ρ1 <;> rfl
  | exc c p ρ => rfl
  | bad => rfl
/-- what a slot owns -/
def Kown (o : Option Slot) (Q : Fl → D → Prop) : Prop := match o with
  | some (some (.ow, d)) => Q .ow d
  | some (some (.pa, d)) => Q .pa d
  | _ => False
@[simp] theorem Kown_ow {d : D} {Q : Fl → D → Prop} : Kown (some (some (.ow, d))) Q = Q .ow d := nr rfl
@[simp] theorem Kown_pa {d : D} {Q : Fl → D → Prop} : Kown (some (some (.pa, d))) Q = Q .pa d := nr rfl
theorem Kown_congr {x y : Option Slot} {Q : Fl → D → Prop} (h : x = y) : Kown x Q = Kown y Q := by rw [h]
def Klend2 (i : Nat) (fl : Fl) (d : D) (Q : Cont (List Ag)) (ds : List Ag) (ρ : PP.Env) : Prop := Q (⟨some (i, fl), .ow, d⟩ :: ds) ρ
@[simp] theorem Klend2_ap {i : Nat} {fl : Fl} {d : D} {Q : Cont (List Ag)} {ds : List Ag} : Klend2 i fl d Q ds ρ = Q (⟨some (i, fl), .ow, d⟩ :: ds) ρ := nr rfl
def Klend (i : Nat) (r : M (List Ag)) (Q : Cont (List Ag)) (ρ : PP.Env) (fl : Fl) (d : D) : Prop := Wr (r (ρ.set i none)) (Klend2 i fl d Q)
@[simp] theorem Klend_ap {i : Nat} {r : M (List Ag)} {Q : Cont (List Ag)} {fl : Fl} {d : D} : Klend i r Q ρ fl d = Wr (r (ρ.set i none)) (Klend2 i fl d Q) := nr rfl
@[simp ↓] theorem Wr_aLend {i : Nat} {r : M (List Ag)} {Q : Cont (List Ag)} : Wr (aLend i r ρ) Q = Kown ρ[i]? (Klend i r Q ρ) := by
  rw [aLend_ap]
  cases ρ[i]? with
  | none => rfl
  | some s =>
    cases s with
    | none => rfl
    | some x =>
      obtain ⟨fl, d⟩ := x
      cases fl <;> first | rfl | (cases h : r (ρ.set i none) <;> simp [Wr, Kown, Klend, Klend2, h])
def KlendL2 (i : Nat) (ds : List Ag) (Q : Cont (List Ag)) (ρ : PP.Env) (fl : Fl) (d : D) : Prop := Q (⟨some (i, fl), .ow, d⟩ :: ds) (ρ.set i none)
@[simp] theorem KlendL2_ap {i : Nat} {fl : Fl} {d : D} {Q : Cont (List Ag)} {ds : List Ag} : KlendL2 i ds Q ρ fl d = Q (⟨some (i, fl), .ow, d⟩ :: ds) (ρ.set i none) := nr rfl
def KlendL (i : Nat) (Q : Cont (List Ag)) (ds : List Ag) (ρ : PP.Env) : Prop := Kown ρ[i]? (KlendL2 i ds Q ρ)
@[simp] theorem KlendL_ap {i : Nat} {Q : Cont (List Ag)} {ds : List Ag} : KlendL i Q ds ρ = Kown ρ[i]? (KlendL2 i ds Q ρ) := nr rfl
def Kfst (p : Prop) (d : D) : Prop := p
@[simp] theorem Kfst_ap {p : Prop} {d : D} : Kfst p d = p := nr rfl
@[simp ↓] theorem Wr_aLendL {i : Nat} {r : M (List Ag)} {Q : Cont (List Ag)} : Wr (aLendL i r ρ) Q = ((slotD ρ i).isSome = true ∧ Wr (r ρ) (KlendL i Q)) := by
  unfold aLendL slotD bnd
  cases ρ[i]? with
  | none => simp
  | some s =>
    cases s with
    | none => simp
    | some x =>
      simp only [Option.isSome_some, true_and]
      cases r ρ with
      | ok ds ρ2 =>
        dsimp only [Wr, KlendL]
        cases ρ2[i]? with
        | none => rfl
        | some s =>
          cases s with
          | none => rfl
          | some x =>
            obtain ⟨fl, d⟩ := x
            cases fl <;> rfl
      | exc c p ρ => rfl
      | bad => rfl
@[simp] theorem aLendL_ap (i : Nat) (r : M (List Ag)) : aLendL i r ρ = match ρ[i]? with
    | some (some _) => (match r ρ with
      | .ok ds ρ2 => (match ρ2[i]? with
        | some (some (fl, d)) => if fl.own then .ok (⟨some (i, fl), .ow, d⟩ :: ds) (ρ2.set i none) else .bad
        | _ => .bad)
      | .exc c p ρ2 => .exc c p ρ2 | .bad => .bad)
    | _ => .bad := by
  unfold aLendL bnd
  cases ρ[i]? with
  | none => rfl
  | some s =>
    cases s with
    | none => rfl
    | some x => dsimp only; cases r ρ <;> rfl
/-- what a call gives -/
def Kgiven (fl : Fl) (d : D) (Q : Cont R) (ρ : PP.Env) : Prop := Q (.v fl d) ρ
@[simp] theorem Kgiven_ap {fl : Fl} {d : D} {Q : Cont R} : Kgiven fl d Q ρ = Q (.v fl d) ρ := nr rfl
def Kcall (r : FRes) (ags : List Ag) (ρ : PP.Env) (Q : Cont R) : Prop := match r with
  | .ok fl d back => Kopt (giveBack ags back ρ) (Kgiven fl d Q)
  | _ => False
@[simp] theorem Kcall_ok {fl : Fl} {d : D} {back : List (Fl × D)} {ags : List Ag} {Q : Cont R} : Kcall (.ok fl d back) ags ρ Q = Kopt (giveBack ags back ρ) (Kgiven fl d Q) := nr rfl
theorem Kcall_congr {x y : FRes} {ags : List Ag} {Q : Cont R} (h : x = y) : Kcall x ags ρ Q = Kcall y ags ρ Q := by rw [h]
def KF (f : FM) (Q : Cont R) (ags : List Ag) (ρ : PP.Env) : Prop := Kcall (f (ags.map fun a => (a.fl, a.d))) ags ρ Q
@[simp] theorem KF_ap {f : FM} {Q : Cont R} {ags : List Ag} : KF f Q ags ρ = Kcall (f (ags.map fun a => (a.fl, a.d))) ags ρ Q := nr rfl
@[simp ↓] theorem Wr_call {f : FM} {as : M (List Ag)} {Q : Cont R} : Wr (mCall f as ρ) Q = Wr (as ρ) (KF f Q) := by
  rw [mCall_ap]
  cases as ρ with
  | ok ags ρ' =>
    dsimp only [Wr, KF]
    cases f (ags.map fun a => (a.fl, a.d)) with
    | ok fl d back => dsimp only [Kcall]; cases giveBack ags back ρ' <;> rfl
    | exc c p => rfl
    | bad => rfl
  | exc c p ρ => rfl
  | bad => rfl
theorem Kcall.of {r : FRes} {ags : List Ag} {Q : Cont R} {fl : Fl} {d : D} {bk : List (Fl × D)} (e : r = .ok fl d bk) (h : Kopt (giveBack ags bk ρ) (Kgiven fl d Q)) : Kcall r ags ρ Q := by rw [e]; exact h
/-- a, b = x, y -/
def Krs2 (fl : Fl) (d : D) (Q : Cont (List (Fl × D))) (ds : List (Fl × D)) (ρ : PP.Env) : Prop := Q ((fl, d) :: ds) ρ
@[simp] theorem Krs2_ap {fl : Fl} {d : D} {Q : Cont (List (Fl × D))} {ds : List (Fl × D)} : Krs2 fl d Q ds ρ = Q ((fl, d) :: ds) ρ := nr rfl
def Krs (as : List (M R)) (Q : Cont (List (Fl × D))) (r : R) (ρ : PP.Env) : Prop := match r with
  | .v fl d => Wr (mRs as ρ) (Krs2 fl d Q)
  | .s _ => False
@[simp] theorem Krs_v {as : List (M R)} {Q : Cont (List (Fl × D))} {fl : Fl} {d : D} : Krs as Q (.v fl d) ρ = Wr (mRs as ρ) (Krs2 fl d Q) := nr rfl
@[simp ↓] theorem Wr_rs {a : M R} {as : List (M R)} {Q : Cont (List (Fl × D))} : Wr (mRs (a :: as) ρ) Q = Wr (a ρ) (Krs as Q) := by
  rw [mRs_cons]
  cases a ρ with
  | ok ra ρ1 =>
    cases ra with
    | s i => rfl
    | v fl d => dsimp only [Wr, Krs]; cases mRs as ρ1 <;> rfl
  | exc c p ρ => rfl
  | bad => rfl
def Knx (Q : Cont PP.Flow) (ρ : PP.Env) : Prop := Q .nx ρ
@[simp] theorem Knx_ap {Q : Cont PP.Flow} : Knx Q ρ = Q .nx ρ := nr rfl
def Kpar (is : List Nat) (Q : Cont PP.Flow) (xs : List (Fl × D)) (ρ : PP.Env) : Prop := Kopt (setAll is xs ρ) (Knx Q)
@[simp] theorem Kpar_ap {is : List Nat} {Q : Cont PP.Flow} {xs : List (Fl × D)} : Kpar is Q xs ρ = Kopt (setAll is xs ρ) (Knx Q) := nr rfl
@[simp ↓] theorem Wr_par {is : List Nat} {as : List (M R)} {Q : Cont PP.Flow} : Wr (sPar is as ρ) Q = Wr (mRs as ρ) (Kpar is Q) := by
  rw [sPar_ap]
  cases mRs as ρ with
  | ok xs ρ' => dsimp only [Wr, Kpar]; cases setAll is xs ρ' <;> rfl
  | exc c p ρ => rfl
  | bad => rfl
/-- a target -/
def Ktg2 (Q : Cont PP.Flow) (u : Unit) (ρ : PP.Env) : Prop := Q .nx ρ
@[simp] theorem Ktg2_ap {Q : Cont PP.Flow} {u : Unit} : Ktg2 Q u ρ = Q .nx ρ := nr rfl
def Ktg (g : Tg) (Q : Cont PP.Flow) (r : R) (ρ : PP.Env) : Prop := match r with
  | .v _ d => Wr (g d ρ) (Ktg2 Q)
  | .s _ => False
@[simp] theorem Ktg_v {g : Tg} {Q : Cont PP.Flow} {fl : Fl} {d : D} : Ktg g Q (.v fl d) ρ = Wr (g d ρ) (Ktg2 Q) := nr rfl
@[simp ↓] theorem Wr_asg {a : M R} {g : Tg} {Q : Cont PP.Flow} : Wr (sAsg a g ρ) Q = Wr (a ρ) (Ktg g Q) := by
  rw [sAsg_ap]
  cases a ρ with
  | ok ra ρ' =>
    cases ra with
    | s i => rfl
    | v fl d => dsimp only [Wr, Ktg]; cases g d ρ' <;> rfl
  | exc c p ρ => rfl
  | bad => rfl
def Kfor (g : Tg) (b : M PP.Flow) (Q : Cont PP.Flow) (ds : List D) (ρ : PP.Env) : Prop := Wr (loopF g b ds ρ) Q
@[simp] theorem Kfor_ap {g : Tg} {b : M PP.Flow} {Q : Cont PP.Flow} {ds : List D} : Kfor g b Q ds ρ = Wr (loopF g b ds ρ) Q := nr rfl
@[simp ↓] theorem Wr_for {it : M (List D)} {g : Tg} {b : M PP.Flow} {Q : Cont PP.Flow} : Wr (sFor it g b ρ) Q = Wr (it ρ) (Kfor g b Q) := by
  rw [sFor_ap]; cases it ρ <;> rfl
def Kseqi (Q : Cont (List D)) (r : R) (ρ : PP.Env) : Prop := match r with
  | .v _ d => Kopt (iterD d) (Kat Q ρ)
  | .s _ => False
@[simp] theorem Kseqi_v {Q : Cont (List D)} {fl : Fl} {d : D} : Kseqi Q (.v fl d) ρ = Kopt (iterD d) (Kat Q ρ) := nr rfl
@[simp ↓] theorem Wr_iSeq {a : M R} {Q : Cont (List D)} : Wr (iSeq a ρ) Q = Wr (a ρ) (Kseqi Q) := by
  rw [iSeq_ap]
  cases a ρ with
  | ok ra ρ' =>
    cases ra with
    | s i => rfl
    | v fl d => dsimp only [Wr, Kseqi]; cases iterD d <;> rfl
  | exc c p ρ => rfl
  | bad => rfl
def Krg (i j : Int) (Q : Cont (List D)) (ρ : PP.Env) : Prop := (small62 i && small62 j) = true ∧ Q (rngD i (j - i).toNat 1) ρ
theorem small62_eq (i : Int) : small62 i = (decide (-4611686018427387904 ≤ i) && decide (i < 4611686018427387904)) := rfl
@[simp] theorem Krg_ap {i j : Int} {Q : Cont (List D)} : Krg i j Q ρ = ((small62 i && small62 j) = true ∧ Q (rngD i (j - i).toNat 1) ρ) := nr rfl
def Kr1 (Q : Cont (List D)) (r : R) (ρ : PP.Env) : Prop := Kopt ((deref ρ r).bind intOf) fun j => small62 j = true ∧ Q (rngD 0 j.toNat 1) ρ
@[simp] theorem Kr1_ap {Q : Cont (List D)} {r : R} : Kr1 Q r ρ = Kopt ((deref ρ r).bind intOf) fun j => small62 j = true ∧ Q (rngD 0 j.toNat 1) ρ := nr rfl
@[simp ↓] theorem Wr_rg1 {a : M R} {Q : Cont (List D)} : Wr (iRg1 a ρ) Q = Wr (a ρ) (Kr1 Q) := by
  rw [iRg1_ap]
  cases a ρ with
  | ok ra ρ' =>
    dsimp only [Wr, Kr1]
    cases (deref ρ' ra).bind intOf with
    | none => rfl
    | some j => dsimp only [Kopt]; cases small62 j <;> simp
  | exc c p ρ => rfl
  | bad => rfl
def Kr2b (ra : R) (Q : Cont (List D)) (rb : R) (ρ : PP.Env) : Prop := Kopt ((deref ρ ra).bind intOf) fun i => Kopt ((deref ρ rb).bind intOf) fun j => Krg i j Q ρ
@[simp] theorem Kr2b_ap {ra rb : R} {Q : Cont (List D)} : Kr2b ra Q rb ρ = Kopt ((deref ρ ra).bind intOf) fun i => Kopt ((deref ρ rb).bind intOf) fun j => Krg i j Q ρ := nr rfl
def Kr2 (b : M R) (Q : Cont (List D)) (ra : R) (ρ : PP.Env) : Prop := Wr (b ρ) (Kr2b ra Q)
@[simp] theorem Kr2_ap {b : M R} {ra : R} {Q : Cont (List D)} : Kr2 b Q ra ρ = Wr (b ρ) (Kr2b ra Q) := nr rfl
@[simp ↓] theorem Wr_rg2 {a b : M R} {Q : Cont (List D)} : Wr (iRg2 a b ρ) Q = Wr (a ρ) (Kr2 b Q) := by
  rw [iRg2_ap]
  cases a ρ with
  | ok ra ρ1 =>
    dsimp only [Wr, Kr2]
    cases b ρ1 with
    | ok rb ρ' =>
      dsimp only [Kr2b]
      cases (deref ρ' ra).bind intOf with
      | none => rfl
      | some i =>
        cases (deref ρ' rb).bind intOf with
        | none => rfl
        | some j => dsimp only [Kopt, Krg]; cases small62 i && small62 j <;> simp
    | exc c p ρ => rfl
    | bad => rfl
  | exc c p ρ => rfl
  | bad => rfl
/-- comprehensions -/
def KcompE (vs : List Nat) (ρ0 : PP.Env) (Q : Cont R) (acc : List D) (ρ : PP.Env) : Prop := Q (.v .ow (.lst acc)) (restore ρ0 vs ρ)
@[simp] theorem KcompE_ap {vs : List Nat} {ρ0 : PP.Env} {Q : Cont R} {acc : List D} : KcompE vs ρ0 Q acc ρ = Q (.v .ow (.lst acc)) (restore ρ0 vs ρ) := nr rfl
def Kcomp (vs : List Nat) (g : Tg) (c : M Bool) (e : M R) (Q : Cont R) (ds : List D) (ρ : PP.Env) : Prop := Wr (loopC vs g c e ds [] (wipeE ρ vs)) (KcompE vs ρ Q)
@[simp] theorem Kcomp_ap {vs : List Nat} {g : Tg} {c : M Bool} {e : M R} {Q : Cont R} {ds : List D} : Kcomp vs g c e Q ds ρ = Wr (loopC vs g c e ds [] (wipeE ρ vs)) (KcompE vs ρ Q) := nr rfl
@[simp ↓] theorem Wr_comp {vs : List Nat} {it : M (List D)} {g : Tg} {c : M Bool} {e : M R} {Q : Cont R} : Wr (mComp vs it g c e ρ) Q = Wr (it ρ) (Kcomp vs g c e Q) := by
  rw [mComp_ap]
  cases it ρ with
  | ok ds ρ0 => dsimp only [Wr, Kcomp]; cases loopC vs g c e ds [] (wipeE ρ0 vs) <;> rfl
  | exc c p ρ => rfl
  | bad => rfl
@[simp] theorem wipeE_nil (ρ : PP.Env) : wipeE ρ [] = ρ := nr rfl
@[simp] theorem wipeE_cons (ρ : PP.Env) (i : Nat) (vs : List Nat) : wipeE ρ (i :: vs) = wipeE (ρ.set i none) vs := nr rfl
@[simp] theorem restore_nil (ρ0 ρ : PP.Env) : restore ρ0 [] ρ = ρ := nr rfl
@[simp] theorem restore_cons (ρ0 ρ : PP.Env) (i : Nat) (vs : List Nat) : restore ρ0 (i :: vs) ρ = restore ρ0 vs (ρ.set i ((ρ0[i]?).getD none)) := nr rfl
def KslE (ra : R) (l : Option Int) (Q : Cont R) (h : Option Int) (ρ : PP.Env) : Prop := Kop ((deref ρ ra).bind fun x => sliceD x l h) Q ρ
@[simp] theorem KslE_ap {ra : R} {l h : Option Int} {Q : Cont R} : KslE ra l Q h ρ = Kop ((deref ρ ra).bind fun x => sliceD x l h) Q ρ := nr rfl
def Ksl2 (ra : R) (hi : Option (M R)) (Q : Cont R) (l : Option Int) (ρ : PP.Env) : Prop := Wr (mPart hi ρ) (KslE ra l Q)
@[simp] theorem Ksl2_ap {ra : R} {hi : Option (M R)} {l : Option Int} {Q : Cont R} : Ksl2 ra hi Q l ρ = Wr (mPart hi ρ) (KslE ra l Q) := nr rfl
def Ksl (lo hi : Option (M R)) (Q : Cont R) (ra : R) (ρ : PP.Env) : Prop := Wr (mPart lo ρ) (Ksl2 ra hi Q)
@[simp] theorem Ksl_ap {ra : R} {lo hi : Option (M R)} {Q : Cont R} : Ksl lo hi Q ra ρ = Wr (mPart lo ρ) (Ksl2 ra hi Q) := nr rfl
@[simp ↓] theorem Wr_slice {a : M R} {lo hi : Option (M R)} {Q : Cont R} : Wr (mSlice a lo hi ρ) Q = Wr (a ρ) (Ksl lo hi Q) := by
  rw [mSlice_ap]
  cases a ρ with
  | ok ra ρ1 =>
    dsimp only [Wr, Ksl]
    cases mPart lo ρ1 with
    | ok l ρ2 =>
      dsimp only [Ksl2]
      cases mPart hi ρ2 with
      | ok h ρ3 =>
        show Wr (match deref ρ3 ra with | some x => opR ρ3 (sliceD x l h) | none => .bad) Q = Kop ((deref ρ3 ra).bind fun x => sliceD x l h) Q ρ3
        cases deref ρ3 ra with
        | none => rfl
        | some d =>
          dsimp only [Option.bind]
          cases sliceD d l h <;> rfl
      | exc c p ρ => rfl
      | bad => rfl
    | exc c p ρ => rfl
    | bad => rfl
  | exc c p ρ => rfl
  | bad => rfl
def KsomeI (Q : Cont (Option Int)) (i : Int) (ρ : PP.Env) : Prop := Q (some i) ρ
@[simp] theorem KsomeI_ap {Q : Cont (Option Int)} {i : Int} : KsomeI Q i ρ = Q (some i) ρ := nr rfl
@[simp ↓] theorem Wr_part {m : M R} {Q : Cont (Option Int)} : Wr (mPart (some m) ρ) Q = Wr (m ρ) (Ktst intOf (KsomeI Q)) := by
  rw [mPart_some]
  cases m ρ with
  | ok r ρ' =>
    dsimp only [Wr, Ktst]
    cases (deref ρ' r).bind intOf <;> rfl
  | exc c p ρ => rfl
  | bad => rfl
/-- c.append(..) and its like -/
def KmutE (i : Nat) (Q : Cont R) (ρ : PP.Env) (fl : Fl) (p : D × D) : Prop := Q (.v .sh p.2) (ρ.set i (some (fl, p.1)))
@[simp] theorem KmutE_ap {i : Nat} {Q : Cont R} {fl : Fl} {x y : D} : KmutE i Q ρ fl (x, y) = Q (.v .sh y) (ρ.set i (some (fl, x))) := nr rfl
def Kmut2 (i : Nat) (f : D → List D → Option (D × D)) (ds : List D) (Q : Cont R) (ρ : PP.Env) (fl : Fl) (x : D) : Prop := Kopt (f x ds) (KmutE i Q ρ fl)
@[simp] theorem Kmut2_ap {i : Nat} {f : D → List D → Option (D × D)} {ds : List D} {Q : Cont R} {fl : Fl} {x : D} : Kmut2 i f ds Q ρ fl x = Kopt (f x ds) (KmutE i Q ρ fl) := nr rfl
def Kmut (i : Nat) (f : D → List D → Option (D × D)) (Q : Cont R) (ds : List D) (ρ : PP.Env) : Prop := Kown ρ[i]? (Kmut2 i f ds Q ρ)
@[simp] theorem Kmut_ap {i : Nat} {f : D → List D → Option (D × D)} {ds : List D} {Q : Cont R} : Kmut i f Q ds ρ = Kown ρ[i]? (Kmut2 i f ds Q ρ) := nr rfl
@[simp ↓] theorem Wr_mut {i : Nat} {ty : D → Bool} {as : M (List D)} {f : D → List D → Option (D × D)} {Q : Cont R} : Wr (mMut i ty as f ρ) Q = ((slotD ρ i).map ty = some true ∧ Wr (as ρ) (Kmut i f Q)) := by
  rw [mMut_ap]
  unfold slotD
  cases ρ[i]? with
  | none => simp
  | some s =>
    cases s with
    | none => simp
    | some x =>
      obtain ⟨fl0, d0⟩ := x
      simp only [Option.map_some, Option.some.injEq]
      cases ty d0 with
      | false => simp
      | true =>
        simp only [if_true, true_and]
        cases as ρ with
        | ok ds ρ1 =>
          dsimp only [Wr, Kmut]
          cases ρ1[i]? with
          | none => rfl
          | some s =>
            cases s with
            | none => rfl
            | some x =>
              obtain ⟨fl, d⟩ := x
              cases fl <;> first | rfl | (dsimp only [Kown, Kmut2]; cases f d ds <;> rfl)
        | exc c p ρ => rfl
        | bad => rfl
@[simp] theorem slotD_eq (i : Nat) : slotD ρ i = match ρ[i]? with | some (some (_, d)) => some d | _ => none := nr rfl
@[simp] theorem isLst_lst (ds : List D) : isLst (.lst ds) = true := nr rfl
@[simp] theorem isDct_dK (kv : List (Key × D)) : isDct (.dK kv) = true := nr rfl
@[simp] theorem isDct_dT (kv : List (List Key × D)) : isDct (.dT kv) = true := nr rfl
@[simp] theorem appendD_lst (ds : List D) (d : D) : appendD (.lst ds) [d] = if ds.length < sizeLine then some (.lst (ds ++ [d]), .non) else none := nr rfl
@[simp] theorem revD_lst (ds : List D) : revD (.lst ds) = some (.ow, .lst ds.reverse) := nr rfl
@[simp] theorem tupleD_lst (ds : List D) : tupleD (.lst ds) = some (.sh, .tup ds) := nr rfl
@[simp] theorem tupleD_tup (ds : List D) : tupleD (.tup ds) = some (.sh, .tup ds) := nr rfl
@[simp] theorem listD_lst (ds : List D) : listD (.lst ds) = some (.ow, .lst ds) := nr rfl
@[simp] theorem listD_tup (ds : List D) : listD (.tup ds) = some (.ow, .lst ds) := nr rfl
def KputE (i : Nat) (Q : Cont PP.Flow) (ρ : PP.Env) (fl : Fl) (y : D) : Prop := Q .nx (ρ.set i (some (fl, y)))
@[simp] theorem KputE_ap {i : Nat} {Q : Cont PP.Flow} {fl : Fl} {y : D} : KputE i Q ρ fl y = Q .nx (ρ.set i (some (fl, y))) := nr rfl
def Kput3 (i : Nat) (f : D → D → D → Option D) (v j : D) (Q : Cont PP.Flow) (ρ : PP.Env) (fl : Fl) (x : D) : Prop := Kopt (f x j v) (KputE i Q ρ fl)
@[simp] theorem Kput3_ap {i : Nat} {f : D → D → D → Option D} {v j : D} {Q : Cont PP.Flow} {fl : Fl} {x : D} : Kput3 i f v j Q ρ fl x = Kopt (f x j v) (KputE i Q ρ fl) := nr rfl
def Kput2 (i : Nat) (f : D → D → D → Option D) (v : D) (Q : Cont PP.Flow) (r : R) (ρ : PP.Env) : Prop := match r with
  | .v _ j => Kown ρ[i]? (Kput3 i f v j Q ρ)
  | .s _ => False
@[simp] theorem Kput2_v {i : Nat} {f : D → D → D → Option D} {v j : D} {Q : Cont PP.Flow} {fl : Fl} : Kput2 i f v Q (.v fl j) ρ = Kown ρ[i]? (Kput3 i f v j Q ρ) := nr rfl
def Kput (i : Nat) (f : D → D → D → Option D) (k : M R) (Q : Cont PP.Flow) (r : R) (ρ : PP.Env) : Prop := match r with
  | .v _ v => Wr (k ρ) (Kput2 i f v Q)
  | .s _ => False
@[simp] theorem Kput_v {i : Nat} {f : D → D → D → Option D} {k : M R} {v : D} {Q : Cont PP.Flow} {fl : Fl} : Kput i f k Q (.v fl v) ρ = Wr (k ρ) (Kput2 i f v Q) := nr rfl
@[simp ↓] theorem Wr_put {i : Nat} {e k : M R} {f : D → D → D → Option D} {Q : Cont PP.Flow} : Wr (sPut i e k f ρ) Q = ((slotD ρ i).isSome = true ∧ Wr (e ρ) (Kput i f k Q)) := by
  rw [sPut_ap]
  unfold slotD
  cases ρ[i]? with
  | none => simp
  | some s =>
    cases s with
    | none => simp
    | some x =>
      simp only [Option.isSome_some, true_and]
      cases e ρ with
      | ok ra ρ1 =>
        dsimp only [Wr]
        cases ra with
        | s i => dsimp only [Kput]; cases k ρ1 <;> rfl
        | v fl d =>
          dsimp only [Kput]
          cases k ρ1 with
          | ok rb ρ2 =>
            cases rb with
            | s i => rfl
            | v fl2 d2 =>
              dsimp only [Wr, Kput2]
              cases ρ2[i]? with
              | none => rfl
              | some s =>
                cases s with
                | none => rfl
                | some x =>
                  obtain ⟨fl, d⟩ := x
                  cases fl <;> first | rfl | (dsimp only [Kown, Kput3]; cases f _ d2 _ <;> rfl)
          | exc c p ρ => rfl
          | bad => rfl
      | exc c p ρ => rfl
      | bad => rfl
/-- a op b op' c -/
def Kch4 (g : D → D → Option Bool) (rb : R) (Q : Cont R) (rc : R) (ρ : PP.Env) : Prop := Kop (dr2 (fun y z => (g y z).map fun k => (.sh, .bl k)) (deref ρ rb) (deref ρ rc)) Q ρ
@[simp] theorem Kch4_ap {g : D → D → Option Bool} {rb rc : R} {Q : Cont R} : Kch4 g rb Q rc ρ = Kop (dr2 (fun y z => (g y z).map fun k => (.sh, .bl k)) (deref ρ rb) (deref ρ rc)) Q ρ := nr rfl
def Kch3 (g : D → D → Option Bool) (c : M R) (rb : R) (Q : Cont R) (ρ : PP.Env) (k : Bool) : Prop := match k with
  | true => Wr (c ρ) (Kch4 g rb Q)
  | false => Q (.v .sh (.bl false)) ρ
@[simp] theorem Kch3_t {g : D → D → Option Bool} {c : M R} {rb : R} {Q : Cont R} : Kch3 g c rb Q ρ true = Wr (c ρ) (Kch4 g rb Q) := nr rfl
@[simp] theorem Kch3_f {g : D → D → Option Bool} {c : M R} {rb : R} {Q : Cont R} : Kch3 g c rb Q ρ false = Q (.v .sh (.bl false)) ρ := nr rfl
def drB (f : D → D → Option Bool) (x y : Option D) : Option Bool := match x, y with
  | some x, some y => f x y
  | _, _ => none
@[simp] theorem drB_some {f : D → D → Option Bool} {x y : D} : drB f (some x) (some y) = f x y := nr rfl
def Kch2 (f g : D → D → Option Bool) (c : M R) (ra : R) (Q : Cont R) (rb : R) (ρ : PP.Env) : Prop := Kopt (drB f (deref ρ ra) (deref ρ rb)) (Kch3 g c rb Q ρ)
@[simp] theorem Kch2_ap {f g : D → D → Option Bool} {c : M R} {ra rb : R} {Q : Cont R} : Kch2 f g c ra Q rb ρ = Kopt (drB f (deref ρ ra) (deref ρ rb)) (Kch3 g c rb Q ρ) := nr rfl
def Kch (f g : D → D → Option Bool) (b c : M R) (Q : Cont R) (ra : R) (ρ : PP.Env) : Prop := Wr (b ρ) (Kch2 f g c ra Q)
@[simp] theorem Kch_ap {f g : D → D → Option Bool} {b c : M R} {ra : R} {Q : Cont R} : Kch f g b c Q ra ρ = Wr (b ρ) (Kch2 f g c ra Q) := nr rfl
@[simp ↓] theorem Wr_chain {f g : D → D → Option Bool} {a b c : M R} {Q : Cont R} : Wr (mChain f g a b c ρ) Q = Wr (a ρ) (Kch f g b c Q) := by
  rw [mChain_ap]
  cases a ρ with
  | ok ra ρ1 =>
    dsimp only [Wr, Kch]
    cases b ρ1 with
    | ok rb ρ2 =>
      dsimp only [Kch2]
      cases deref ρ2 ra with
      | none => rfl
      | some x =>
        cases deref ρ2 rb with
        | none => rfl
        | some y =>
          dsimp only [drB]
          cases f x y with
          | none => rfl
          | some k =>
            cases k with
            | false => rfl
            | true =>
              dsimp only [Kopt, Kch3]
              cases c ρ2 with
              | ok rc ρ' =>
                dsimp only [Wr, Kch4]
                cases deref ρ' rb with
                | none => rfl
                | some y =>
                  cases deref ρ' rc with
                  | none => rfl
                  | some z => dsimp only [dr2]; cases g y z <;> rfl
              | exc c p ρ => rfl
              | bad => rfl
    | exc c p ρ => rfl
    | bad => rfl
  | exc c p ρ => rfl
  | bad => rfl
/-- a method that only looks -/
def Kmet2 (f : D → D → Option (Fl × D)) (ra : R) (Q : Cont R) (rb : R) (ρ : PP.Env) : Prop := Kop (dr2 f (deref ρ ra) (deref ρ rb)) Q ρ
@[simp] theorem Kmet2_ap {f : D → D → Option (Fl × D)} {ra rb : R} {Q : Cont R} : Kmet2 f ra Q rb ρ = Kop (dr2 f (deref ρ ra) (deref ρ rb)) Q ρ := nr rfl
def Kmet (ty : D → Bool) (f : D → D → Option (Fl × D)) (b : M R) (Q : Cont R) (ra : R) (ρ : PP.Env) : Prop := (deref ρ ra).map ty = some true ∧ Wr (b ρ) (Kmet2 f ra Q)
@[simp] theorem Kmet_ap {ty : D → Bool} {f : D → D → Option (Fl × D)} {b : M R} {ra : R} {Q : Cont R} : Kmet ty f b Q ra ρ = ((deref ρ ra).map ty = some true ∧ Wr (b ρ) (Kmet2 f ra Q)) := nr rfl
@[simp ↓] theorem Wr_met {ty : D → Bool} {f : D → D → Option (Fl × D)} {a b : M R} {Q : Cont R} : Wr (mMet ty f a b ρ) Q = Wr (a ρ) (Kmet ty f b Q) := by
  rw [mMet_ap]
  cases a ρ with
  | ok ra ρ1 =>
    dsimp only [Wr, Kmet]
    cases deref ρ1 ra with
    | none => simp
    | some x0 =>
      simp only [Option.map_some, Option.some.injEq]
      cases ty x0 with
      | false => simp
      | true =>
        simp only [if_true, true_and]
        cases b ρ1 with
        | ok rb ρ2 =>
          dsimp only [Wr, Kmet2]
          cases deref ρ2 ra with
          | none => rfl
          | some x =>
            cases deref ρ2 rb with
            | none => rfl
            | some y => dsimp only [dr2]; cases f x y <;> rfl
        | exc c p ρ => rfl
        | bad => rfl
  | exc c p ρ => rfl
  | bad => rfl
/-- a turn's end -/
def Kloop (I : PP.Env → Prop) (Q : Cont PP.Flow) (f : PP.Flow) (ρ : PP.Env) : Prop := match f with
  | .nx => I ρ | .ct => I ρ | .bk => Q .nx ρ | .rt fl d => Q (.rt fl d) ρ
@[simp] theorem Kloop_nx {I : PP.Env → Prop} {Q : Cont PP.Flow} : Kloop I Q .nx ρ = I ρ := nr rfl
@[simp] theorem Kloop_ct {I : PP.Env → Prop} {Q : Cont PP.Flow} : Kloop I Q .ct ρ = I ρ := nr rfl
@[simp] theorem Kloop_bk {I : PP.Env → Prop} {Q : Cont PP.Flow} : Kloop I Q .bk ρ = Q .nx ρ := nr rfl
@[simp] theorem Kloop_rt {I : PP.Env → Prop} {Q : Cont PP.Flow} {fl : Fl} {d : D} : Kloop I Q (.rt fl d) ρ = Q (.rt fl d) ρ := nr rfl
/-- then the body -/
def Kbody (b : M PP.Flow) (I : PP.Env → Prop) (Q : Cont PP.Flow) (u : Unit) (ρ : PP.Env) : Prop := Wr (b ρ) (Kloop I Q)
@[simp] theorem Kbody_ap {b : M PP.Flow} {I : PP.Env → Prop} {Q : Cont PP.Flow} {u : Unit} : Kbody b I Q u ρ = Wr (b ρ) (Kloop I Q) := nr rfl
theorem W_for0 {g : Tg} {b : M PP.Flow} {Q : Cont PP.Flow} (I : Nat → PP.Env → Prop) : ∀ {ds : List D} {k : Nat} {ρ : PP.Env}, I k ρ →
    (∀ j d ρ, ds[j]? = some d → I (k + j) ρ → Wr (g d ρ) (Kbody b (I (k + j + 1)) Q)) →
    (∀ ρ, I (k + ds.length) ρ → Q .nx ρ) → Wr (loopF g b ds ρ) Q
  | [], k, ρ, h, _, he => he ρ h
  | d :: ds, k, ρ, h, hs, he => by
    have h0 := hs 0 d ρ rfl h
    rw [loopF_cons]
    obtain ⟨_, ρ1, e1, h1⟩ := h0.ex
    rw [e1]
    dsimp only
    obtain ⟨f, ρ2, e2, h2⟩ := Wr.ex h1
    rw [e2]
    dsimp only
    have next : I (k + 1) ρ2 → Wr (loopF g b ds ρ2) Q := fun hI => W_for0 I hI (fun j d' ρ hj hI => by
      have := hs (j + 1) d' ρ (by simpa using hj) (by rw [show k + (j + 1) = k + 1 + j by omega]; exact hI)
      rw [show k + (j + 1) = k + 1 + j by omega] at this
      exact this) (fun ρ hI => he ρ (by rw [show k + (d :: ds).length = k + 1 + ds.length by simp; omega]; exact hI))
    cases f with
    | nx => exact next h2
    | ct => exact next h2
    | bk => exact h2
    | rt fl e => exact h2
/-- over a list that stands for another -/
theorem W_forL0 {γ : Type} (en : γ → D) {g : Tg} {b : M PP.Flow} {Q : Cont PP.Flow} (I : Nat → PP.Env → Prop) {l : List γ} {ρ : PP.Env} (h : I 0 ρ)
    (hs : ∀ j x ρ, l[j]? = some x → I j ρ → Wr (g (en x) ρ) (Kbody b (I (j + 1)) Q)) (he : ∀ ρ, I l.length ρ → Q .nx ρ) : Wr (loopF g b (l.map en) ρ) Q := by
  refine W_for0 (k := 0) I h (fun j d ρ hj hI => ?_) (fun ρ hI => he ρ ?_)
  · rw [List.getElem?_map] at hj
    obtain ⟨x, hx, rfl⟩ := Option.map_eq_some_iff.1 hj
    rw [Nat.zero_add] at hI ⊢
    exact hs j x ρ hx hI
  · rw [List.length_map, Nat.zero_add] at hI; exact hI
/-- over range -/
theorem W_range0 {g : Tg} {b : M PP.Flow} {Q : Cont PP.Flow} (I : Nat → PP.Env → Prop) {lo : Int} {n : Nat} {ρ : PP.Env} (h : I 0 ρ)
    (hs : ∀ j ρ, j < n → I j ρ → Wr (g (.int (lo + j)) ρ) (Kbody b (I (j + 1)) Q))
    (he : ∀ ρ, I n ρ → Q .nx ρ) : Wr (loopF g b (rngD lo n 1) ρ) Q := by
  refine W_for0 (k := 0) I h (fun j d ρ hj hI => ?_) (fun ρ hI => he ρ ?_)
  · obtain ⟨hn, rfl⟩ := rngD_get hj
    rw [Nat.zero_add] at hI ⊢
    rw [Int.mul_one]
    exact hs j ρ hn hI
  · rw [rngD_len, Nat.zero_add] at hI; exact hI
/-- while: I j holds with at most j turns left -/
def Less (I : Nat → PP.Env → Prop) (j : Nat) (ρ : PP.Env) : Prop := ∃ i, i < j ∧ I i ρ
def Kwh (b : M PP.Flow) (I : Nat → PP.Env → Prop) (j : Nat) (Q : Cont PP.Flow) (x : Bool) (ρ : PP.Env) : Prop := match x with
  | true => Wr (b ρ) (Kloop (Less I j) Q)
  | false => Q .nx ρ
@[simp] theorem Kwh_t {b : M PP.Flow} {I : Nat → PP.Env → Prop} {j : Nat} {Q : Cont PP.Flow} : Kwh b I j Q true ρ = Wr (b ρ) (Kloop (Less I j) Q) := nr rfl
@[simp] theorem Kwh_f {b : M PP.Flow} {I : Nat → PP.Env → Prop} {j : Nat} {Q : Cont PP.Flow} : Kwh b I j Q false ρ = Q .nx ρ := nr rfl
theorem W_while0 {c : M Bool} {b : M PP.Flow} {Q : Cont PP.Flow} (I : Nat → PP.Env → Prop)
    (hs : ∀ j ρ, I j ρ → Wr (c ρ) (Kwh b I j Q)) : ∀ {n j : Nat} {ρ : PP.Env}, j < n → I j ρ → Wr (sWhile n c b ρ) Q
  | 0, j, ρ, h, _ => absurd h (Nat.not_lt_zero _)
  | n + 1, j, ρ, hj, h => by
    rw [sWhile_succ]
    obtain ⟨x, ρ1, e1, h1⟩ := (hs j ρ h).ex
    rw [e1]
    cases x with
    | false => exact h1
    | true =>
      dsimp only [if_true]
      obtain ⟨f, ρ2, e2, h2⟩ := Wr.ex h1
      rw [if_pos rfl, e2]
      dsimp only
      cases f with
      | nx => obtain ⟨i, hi, hI⟩ := h2; exact W_while0 I hs (by omega) hI
      | ct => obtain ⟨i, hi, hI⟩ := h2; exact W_while0 I hs (by omega) hI
      | bk => exact h2
      | rt fl e => exact h2
/-- a comprehension whose parts write -/
def KcE (vs : List Nat) (I : List D → PP.Env → Prop) (acc : List D) (r : R) (ρ : PP.Env) : Prop := match r with
  | .v _ y => I (acc ++ [y]) (wipeE ρ vs)
  | .s _ => False
@[simp] theorem KcE_v {vs : List Nat} {I : List D → PP.Env → Prop} {acc : List D} {fl : Fl} {y : D} : KcE vs I acc (.v fl y) ρ = I (acc ++ [y]) (wipeE ρ vs) := nr rfl
def KcC (vs : List Nat) (e : M R) (I : List D → PP.Env → Prop) (acc : List D) (x : Bool) (ρ : PP.Env) : Prop := match x with
  | true => Wr (e ρ) (KcE vs I acc)
  | false => I acc (wipeE ρ vs)
@[simp] theorem KcC_t {vs : List Nat} {e : M R} {I : List D → PP.Env → Prop} {acc : List D} : KcC vs e I acc true ρ = Wr (e ρ) (KcE vs I acc) := nr rfl
@[simp] theorem KcC_f {vs : List Nat} {e : M R} {I : List D → PP.Env → Prop} {acc : List D} : KcC vs e I acc false ρ = I acc (wipeE ρ vs) := nr rfl
def KcG (vs : List Nat) (c : M Bool) (e : M R) (I : List D → PP.Env → Prop) (acc : List D) (u : Unit) (ρ : PP.Env) : Prop := Wr (c ρ) (KcC vs e I acc)
@[simp] theorem KcG_ap {vs : List Nat} {c : M Bool} {e : M R} {I : List D → PP.Env → Prop} {acc : List D} {u : Unit} : KcG vs c e I acc u ρ = Wr (c ρ) (KcC vs e I acc) := nr rfl
theorem W_loopC0 {vs : List Nat} {g : Tg} {c : M Bool} {e : M R} {Q : Cont (List D)} (I : Nat → List D → PP.Env → Prop) : ∀ {ds : List D} {k : Nat} {acc : List D} {ρ : PP.Env}, I k acc ρ → acc.length + ds.length ≤ sizeLine →
    (∀ j d acc ρ, ds[j]? = some d → I (k + j) acc ρ → Wr (g d ρ) (KcG vs c e (I (k + j + 1)) acc)) →
    (∀ acc ρ, I (k + ds.length) acc ρ → Q acc ρ) → Wr (loopC vs g c e ds acc ρ) Q
  | [], k, acc, ρ, h, _, _, he => he acc ρ h
  | d :: ds, k, acc, ρ, h, hz, hs, he => by
    have h0 := hs 0 d acc ρ rfl h
    rw [loopC_cons]
    obtain ⟨_, ρ1, e1, h1⟩ := h0.ex
    rw [e1]
    dsimp only
    obtain ⟨x, ρ2, e2, h2⟩ := Wr.ex h1
    rw [e2]
    have hz' : acc.length + (ds.length + 1) ≤ sizeLine := by simpa using hz
    have next : ∀ acc' ρ2, acc'.length ≤ acc.length + 1 → I (k + 1) acc' ρ2 → Wr (loopC vs g c e ds acc' ρ2) Q := fun acc' ρ2 hl hI => W_loopC0 I hI (by omega) (fun j d' acc ρ hj hI => by
      have := hs (j + 1) d' acc ρ (by simpa using hj) (by rw [show k + (j + 1) = k + 1 + j by omega]; exact hI)
      rw [show k + (j + 1) = k + 1 + j by omega] at this
      exact this) (fun acc ρ hI => he acc ρ (by rw [show k + (d :: ds).length = k + 1 + ds.length by simp; omega]; exact hI))
    cases x with
    | false =>
      dsimp only
      exact next _ _ (by omega) h2
    | true =>
      dsimp only
      obtain ⟨r, ρ3, e3, h3⟩ := Wr.ex h2
      rw [e3]
      cases r with
      | s i => exact h3.elim
      | v fl y =>
        dsimp only
        rw [if_pos (by omega)]
        exact next _ _ (by simp) h3
/-- .. over range(n) -/
theorem W_compR0 {vs : List Nat} {g : Tg} {c : M Bool} {e : M R} {Q : Cont (List D)} (I : Nat → List D → PP.Env → Prop) {lo : Int} {n : Nat} {ρ : PP.Env} (h : I 0 [] ρ) (hn : n ≤ sizeLine)
    (hs : ∀ j acc ρ, j < n → I j acc ρ → Wr (g (.int (lo + j)) ρ) (KcG vs c e (I (j + 1)) acc))
    (he : ∀ acc ρ, I n acc ρ → Q acc ρ) : Wr (loopC vs g c e (rngD lo n 1) [] ρ) Q := by
  refine W_loopC0 (k := 0) I h (by rw [rngD_len]; simpa using hn) (fun j d acc ρ hj hI => ?_) (fun acc ρ hI => he acc ρ ?_)
  · obtain ⟨hj2, rfl⟩ := rngD_get hj
    rw [Nat.zero_add] at hI ⊢
    rw [Int.mul_one]
    exact hs j acc ρ hj2 hI
  · rw [rngD_len, Nat.zero_add] at hI; exact hI
theorem W_eq {ds : List D} {vs : List Nat} {g : Tg} {c : M Bool} {e : M R} {Q : Cont (List D)} {acc acc' : List D} (h : loopC vs g c e ds acc ρ = .ok acc' ρ') (q : Q acc' ρ') : Wr (loopC vs g c e ds acc ρ) Q := by rw [h]; exact q
/-- a def: what it gives back -/
def Kend (as : List (Fl × D)) (fl : Fl) (d : D) (bk : List (Fl × D)) (f : PP.Flow) (ρ : PP.Env) : Prop := backs as ρ = some bk ∧ f = .rt fl d
@[simp] theorem Kend_rt {as bk : List (Fl × D)} {fl g : Fl} {d e : D} : Kend as fl d bk (.rt g e) ρ = (backs as ρ = some bk ∧ g = fl ∧ e = d) := by simp [Kend]
theorem run_w {np n : Nat} {b : M PP.Flow} {as : List (Fl × D)} {fl : Fl} {d : D} {bk : List (Fl × D)} (h : as.length = np) (w : Wr (b (entry n as)) (Kend as fl d bk)) : runF np n b as = .ok fl d bk := by
  obtain ⟨f, ρ, e, hb, rfl⟩ := w.ex
  exact run_rt h e hb
def KendN (as : List (Fl × D)) (bk : List (Fl × D)) (f : PP.Flow) (ρ : PP.Env) : Prop := backs as ρ = some bk ∧ (f = .nx ∨ f = .rt .sh .non)
@[simp] theorem KendN_nx {as bk : List (Fl × D)} : KendN as bk .nx ρ = (backs as ρ = some bk) := by simp [KendN]
@[simp] theorem KendN_rt {as bk : List (Fl × D)} : KendN as bk (.rt .sh .non) ρ = (backs as ρ = some bk) := by simp [KendN]
theorem run_wn {np n : Nat} {b : M PP.Flow} {as : List (Fl × D)} {bk : List (Fl × D)} (h : as.length = np) (w : Wr (b (entry n as)) (KendN as bk)) : runF np n b as = .ok .sh .non bk := by
  obtain ⟨f, ρ, e, hb, rfl | rfl⟩ := w.ex
  · exact run_nx h e hb
  · exact run_rt h e hb
/-- .. of which something is told -/
def KendX (as : List (Fl × D)) (P : Fl → D → List (Fl × D) → Prop) (f : PP.Flow) (ρ : PP.Env) : Prop := ∃ fl d bk, (f = .rt fl d ∧ backs as ρ = some bk) ∧ P fl d bk
theorem run_wx {np n : Nat} {b : M PP.Flow} {as : List (Fl × D)} {P : Fl → D → List (Fl × D) → Prop} (h : as.length = np) (w : Wr (b (entry n as)) (KendX as P)) : ∃ fl d bk, runF np n b as = .ok fl d bk ∧ P fl d bk := by
  obtain ⟨f, ρ, e, fl, d, bk, ⟨rfl, hb⟩, hp⟩ := w.ex
  exact ⟨fl, d, bk, run_rt h e hb, hp⟩
/-! draws -/
theorem W_draw {k : Nat} {h : D} {m : Int} {i : Nat} {fl : Fl} {Q : Cont R} (hh : Hand k h) (hk : k < 2 ^ 60) (hm : 0 < m) (hm2 : m < 2 ^ 62) (H : ∀ r h', 0 ≤ r → r < m → Hand (k + 1) h' → Q (.v .sh (.int r)) (ρ.set i (some (fl, h')))) :
    Kcall (F__law_draw [(.ow, h), (.sh, .int m)]) [⟨some (i, fl), .ow, h⟩, ⟨none, .sh, .int m⟩] ρ Q := by
  obtain ⟨r, h', e, r0, r1, hd⟩ := draw_ok hh hk hm hm2
  rw [e]
  exact H r h' r0 r1 hd
/-- .. a natural number -/
theorem W_drawN {k : Nat} {h : D} {m : Int} {i : Nat} {fl : Fl} {Q : Cont R} (hh : Hand k h) (hk : k < 2 ^ 60) (hm : 0 < m) (hm2 : m < 2 ^ 62) (H : ∀ (r : Nat) h', (r : Int) < m → Hand (k + 1) h' → Q (.v .sh (.int r)) (ρ.set i (some (fl, h')))) :
    Kcall (F__law_draw [(.ow, h), (.sh, .int m)]) [⟨some (i, fl), .ow, h⟩, ⟨none, .sh, .int m⟩] ρ Q := by
  refine W_draw hh hk hm hm2 fun r h' r0 r1 hh' => ?_
  have := H r.toNat h' (by omega) hh'
  rwa [show ((r.toNat : Nat) : Int) = r by omega] at this
theorem W_any {k : Nat} {h : D} {ds : List D} {i : Nat} {fl : Fl} {Q : Cont R} (hh : Hand k h) (hk : k < 2 ^ 60) (h0 : 0 < ds.length) (h1 : ds.length < 1000) (H : ∀ x h', x ∈ ds → Hand (k + 1) h' → Q (.v .sh x) (ρ.set i (some (fl, h')))) :
    Kcall (F__law_any [(.ow, h), (.sh, .lst ds)]) [⟨some (i, fl), .ow, h⟩, ⟨none, .sh, .lst ds⟩] ρ Q := by
  obtain ⟨x, h', e, hx, hd⟩ := any_ok hh hk ds h0 h1
  rw [e]
  exact H x h' hx hd
/-! the same, the invariant not to be looked into -/
theorem W_for {g : Tg} {b : M PP.Flow} {Q : Cont PP.Flow} (P : Nat → PP.Env → Prop) {ds : List D} {ρ : PP.Env} (h : P 0 ρ)
    (hs : ∀ I : Nat → PP.Env → Prop, (∀ {j ρ}, P j ρ → I j ρ) → ∀ j d ρ, ds[j]? = some d → P j ρ → Wr (g d ρ) (Kbody b (I (j + 1)) Q))
    (he : ∀ ρ, P ds.length ρ → Q .nx ρ) : Wr (loopF g b ds ρ) Q :=
  W_for0 (k := 0) P h (fun j d ρ hj hI => by rw [Nat.zero_add] at hI ⊢; exact hs P (fun h => h) j d ρ hj hI) (fun ρ hI => he ρ (by rw [Nat.zero_add] at hI; exact hI))
theorem W_forL {γ : Type} (en : γ → D) {g : Tg} {b : M PP.Flow} {Q : Cont PP.Flow} (P : Nat → PP.Env → Prop) {l : List γ} {ρ : PP.Env} (h : P 0 ρ)
    (hs : ∀ I : Nat → PP.Env → Prop, (∀ {j ρ}, P j ρ → I j ρ) → ∀ j x ρ, l[j]? = some x → P j ρ → Wr (g (en x) ρ) (Kbody b (I (j + 1)) Q)) (he : ∀ ρ, P l.length ρ → Q .nx ρ) : Wr (loopF g b (l.map en) ρ) Q :=
  W_forL0 en P h (hs P fun h => h) he
theorem W_range {g : Tg} {b : M PP.Flow} {Q : Cont PP.Flow} (P : Nat → PP.Env → Prop) {lo : Int} {n : Nat} {ρ : PP.Env} (h : P 0 ρ)
    (hs : ∀ I : Nat → PP.Env → Prop, (∀ {j ρ}, P j ρ → I j ρ) → ∀ j ρ, j < n → P j ρ → Wr (g (.int (lo + j)) ρ) (Kbody b (I (j + 1)) Q))
    (he : ∀ ρ, P n ρ → Q .nx ρ) : Wr (loopF g b (rngD lo n 1) ρ) Q := W_range0 P h (hs P fun h => h) he
theorem W_while {c : M Bool} {b : M PP.Flow} {Q : Cont PP.Flow} (P : Nat → PP.Env → Prop)
    (hs : ∀ I : Nat → PP.Env → Prop, (∀ {j ρ}, P j ρ → I j ρ) → ∀ j ρ, P j ρ → Wr (c ρ) (Kwh b I j Q)) {n j : Nat} {ρ : PP.Env} (hj : j < n) (h : P j ρ) : Wr (sWhile n c b ρ) Q :=
  W_while0 P (hs P fun h => h) hj h
theorem W_loopC {vs : List Nat} {g : Tg} {c : M Bool} {e : M R} {Q : Cont (List D)} (P : Nat → List D → PP.Env → Prop) {ds : List D} {ρ : PP.Env} (h : P 0 [] ρ) (hz : ds.length ≤ sizeLine)
    (hs : ∀ I : Nat → List D → PP.Env → Prop, (∀ {j acc ρ}, P j acc ρ → I j acc ρ) → ∀ j d acc ρ, ds[j]? = some d → P j acc ρ → Wr (g d ρ) (KcG vs c e (I (j + 1)) acc))
    (he : ∀ acc ρ, P ds.length acc ρ → Q acc ρ) : Wr (loopC vs g c e ds [] ρ) Q :=
  W_loopC0 (k := 0) P h (by simpa using hz) (fun j d acc ρ hj hI => by rw [Nat.zero_add] at hI ⊢; exact hs P (fun h => h) j d acc ρ hj hI) (fun acc ρ hI => he acc ρ (by rw [Nat.zero_add] at hI; exact hI))
theorem W_compR {vs : List Nat} {g : Tg} {c : M Bool} {e : M R} {Q : Cont (List D)} (P : Nat → List D → PP.Env → Prop) {lo : Int} {n : Nat} {ρ : PP.Env} (h : P 0 [] ρ) (hn : n ≤ sizeLine)
    (hs : ∀ I : Nat → List D → PP.Env → Prop, (∀ {j acc ρ}, P j acc ρ → I j acc ρ) → ∀ j acc ρ, j < n → P j acc ρ → Wr (g (.int (lo + j)) ρ) (KcG vs c e (I (j + 1)) acc))
    (he : ∀ acc ρ, P n acc ρ → Q acc ρ) : Wr (loopC vs g c e (rngD lo n 1) [] ρ) Q := W_compR0 P h hn (hs P fun h => h) he
/-! more on lists -/
theorem loopC_enc {γ : Type} (en : γ → D) {i : Nat} {c : M Bool} {e : M R} {p : γ → Bool} {f : γ → D} {ρ : PP.Env} (hn : ρ[i]? = some none) : ∀ (l : List γ) (acc : List D),
    (∀ x ∈ l, c (ρ.set i (some (.sh, en x))) = .ok (p x) (ρ.set i (some (.sh, en x))) ∧ (p x = true → ∃ fl, e (ρ.set i (some (.sh, en x))) = .ok (.v fl (f x)) (ρ.set i (some (.sh, en x))))) → acc.length + l.length ≤ sizeLine →
    loopC [i] (gV i) c e (l.map en) acc ρ = .ok (acc ++ (l.filter p).map f) ρ
  | [], acc, _, _ => by rw [List.map_nil, loopC_nil]; simp
  | d :: ds, acc, h, hz => by
    have hi : i < ρ.length := lt_of_get hn
    obtain ⟨hc, he⟩ := h d List.mem_cons_self
    rw [List.map_cons, loopC_cons, gV_ap, if_pos hi]
    dsimp only
    rw [hc]
    have hz' : acc.length + (ds.length + 1) ≤ sizeLine := by simpa using hz
    cases hp : p d with
    | false =>
      have e1 : wipeE (ρ.set i (some (.sh, en d))) [i] = ρ := set_back hn _
      dsimp only
      rw [e1, loopC_enc en hn ds acc (fun x hx => h x (List.mem_cons_of_mem _ hx)) (by omega), List.filter_cons_of_neg (by rw [hp]; exact Bool.false_ne_true)]
    | true =>
      obtain ⟨fl, he⟩ := he hp
      dsimp only
      rw [he]
      dsimp only
      have e1 : wipeE (ρ.set i (some (.sh, en d))) [i] = ρ := set_back hn _
      rw [if_pos (by omega), e1, loopC_enc en hn ds (acc ++ [f d]) (fun x hx => h x (List.mem_cons_of_mem _ hx)) (by simp; omega), List.filter_cons_of_pos hp]
      simp
/-- [f x for x in l if p x] -/
theorem W_filt {γ : Type} (en : γ → D) {i : Nat} {c : M Bool} {e : M R} (p : γ → Bool) (f : γ → D) {l : List γ} {Q : Cont (List D)} (hn : ρ[i]? = some none) (hz : l.length ≤ sizeLine)
    (hc : ∀ x ∈ l, c (ρ.set i (some (.sh, en x))) = .ok (p x) (ρ.set i (some (.sh, en x)))) (he : ∀ x ∈ l, p x = true → ∃ fl, e (ρ.set i (some (.sh, en x))) = .ok (.v fl (f x)) (ρ.set i (some (.sh, en x))))
    (q : Q ((l.filter p).map f) ρ) : Wr (loopC [i] (gV i) c e (l.map en) [] ρ) Q := by
  refine W_eq (loopC_enc en (p := p) (f := f) hn l [] (fun x hx => ⟨hc x hx, he x hx⟩) (by simpa using hz)) ?_
  simpa using q
/-- [f x for x in l] -/
theorem W_map {γ : Type} (en : γ → D) {i : Nat} {e : M R} (f : γ → D) {l : List γ} {Q : Cont (List D)} (hn : ρ[i]? = some none) (hz : l.length ≤ sizeLine)
    (he : ∀ x ∈ l, ∃ fl, e (ρ.set i (some (.sh, en x))) = .ok (.v fl (f x)) (ρ.set i (some (.sh, en x))))
    (q : Q (l.map f) ρ) : Wr (loopC [i] (gV i) cYes e (l.map en) [] ρ) Q := by
  refine W_filt en (fun _ => true) f hn hz (fun x hx => rfl) (fun x hx _ => he x hx) ?_
  rw [List.filter_eq_self.2 (by simp)]
  exact q
theorem blsOf_map {γ : Type} (f : γ → Bool) : ∀ l : List γ, blsOf (l.map fun x => D.bl (f x)) = some (l.map f)
  | [] => rfl
  | x :: l => by rw [List.map_cons, blsOf, blsOf_map f l]; rfl
theorem allD_map {γ : Type} (f : γ → Bool) (l : List γ) : allD (.lst (l.map fun x => D.bl (f x))) = some (.sh, .bl (l.all f)) := by
  simp [allD, blsOf_map]
theorem anyD_map {γ : Type} (f : γ → Bool) (l : List γ) : anyD (.lst (l.map fun x => D.bl (f x))) = some (.sh, .bl (l.any f)) := by
  simp [anyD, blsOf_map]
theorem at_last (ds : List D) (d : D) : atD (ds ++ [d]) (-1) = some d := by
  unfold atD atI ixN
  rw [if_neg (by omega), if_pos (by rw [List.length_append, List.length_singleton]; omega)]
  have e : ((-1 : Int) + ((ds ++ [d]).length : Int)).toNat = ds.length := by rw [List.length_append, List.length_singleton]; omega
  show (ds ++ [d])[((-1 : Int) + ((ds ++ [d]).length : Int)).toNat]? = some d
  rw [e]
  simp
theorem at_first (d : D) (ds : List D) : atD (d :: ds) 0 = some d := by
  unfold atD atI ixN
  rw [if_pos (by omega), if_pos (by rw [List.length_cons]; omega)]
  rfl
/-- from the end on -/
theorem List.snoc_ind {α : Type} {P : List α → Prop} (h0 : P []) (hs : ∀ l x, P l → P (l ++ [x])) (l : List α) : P l := by
  have : ∀ m : List α, P m.reverse := fun m => by
    induction m with
    | nil => exact h0
    | cons x m ih => rw [List.reverse_cons]; exact hs _ _ ih
  have := this l.reverse
  rwa [List.reverse_reverse] at this
/-- all but the last -/
theorem cut_init (ds : List D) : cutD ds none (some (-1)) = ds.dropLast := by
  have h : HT.sIx ds.length ds.length (some (-1)) = ds.length - 1 := by
    show (if (-1 : Int) < 0 then ((-1 : Int) + (ds.length : Int)).toNat else min (-1 : Int).toNat ds.length) = ds.length - 1
    rw [if_pos (by omega)]
    omega
  unfold cutD
  rw [HT.sIx_none, h, List.drop_zero, Nat.sub_zero, List.dropLast_eq_take]
theorem rngD_eq (lo : Int) (n : Nat) : rngD lo n 1 = ((List.range n).map fun i : Nat => lo + i).map D.int := by
  unfold rngD
  rw [List.map_map]
  apply List.map_congr_left
  intro i _
  simp
/-- a natural number -/
def nD (n : Nat) : D := .int n
theorem rngN (n : Nat) : rngD 0 n 1 = (List.range n).map nD := by
  rw [rngD_eq, List.map_map]
  apply List.map_congr_left
  intro i _
  simp [nD]
theorem map_nD (l : List Nat) : l.map nD = (l.map fun n : Nat => (n : Int)).map D.int := by rw [List.map_map]; rfl
theorem natList_inj {l m : List Nat} : (l.map fun n : Nat => (n : Int)) = m.map (fun n : Nat => (n : Int)) ↔ l = m := by
  constructor
  · intro h
    have := congrArg (List.map Int.toNat) h
    simpa [List.map_map, Function.comp_def] using this
  · intro h; rw [h]
theorem eqD'_tupN (l m : List Nat) : eqD' (.tup (l.map nD)) (.tup (m.map nD)) = some (decide (l = m)) := by
  rw [map_nD, map_nD, eqD'_tups]
  exact congrArg some (decide_eq_decide.2 natList_inj)
theorem eqD'_lstN (l m : List Nat) : eqD' (.lst (l.map nD)) (.lst (m.map nD)) = some (decide (l = m)) := by
  rw [map_nD, map_nD, eqD'_lsts]
  exact congrArg some (decide_eq_decide.2 natList_inj)
theorem eqD_tupN (l m : List Nat) : eqD (.tup (l.map nD)) (.tup (m.map nD)) = some (.sh, .bl (decide (l = m))) := by unfold eqD; rw [eqD'_tupN]; rfl
theorem neD_tupN (l m : List Nat) : neD (.tup (l.map nD)) (.tup (m.map nD)) = some (.sh, .bl (!decide (l = m))) := by unfold neD; rw [eqD'_tupN]; rfl
theorem eqD_lstN (l m : List Nat) : eqD (.lst (l.map nD)) (.lst (m.map nD)) = some (.sh, .bl (decide (l = m))) := by unfold eqD; rw [eqD'_lstN]; rfl
theorem neD_lstN (l m : List Nat) : neD (.lst (l.map nD)) (.lst (m.map nD)) = some (.sh, .bl (!decide (l = m))) := by unfold neD; rw [eqD'_lstN]; rfl
theorem neD_tups (l m : List Int) : neD (.tup (l.map D.int)) (.tup (m.map D.int)) = some (.sh, .bl (!decide (l = m))) := by unfold neD; rw [eqD'_tups]; rfl
theorem neD_lsts (l m : List Int) : neD (.lst (l.map D.int)) (.lst (m.map D.int)) = some (.sh, .bl (!decide (l = m))) := by unfold neD; rw [eqD'_lsts]; rfl
theorem eqD_tups (l m : List Int) : eqD (.tup (l.map D.int)) (.tup (m.map D.int)) = some (.sh, .bl (decide (l = m))) := by unfold eqD; rw [eqD'_tups]; rfl
theorem eqD_lsts (l m : List Int) : eqD (.lst (l.map D.int)) (.lst (m.map D.int)) = some (.sh, .bl (decide (l = m))) := by unfold eqD; rw [eqD'_lsts]; rfl
theorem inSeq_int (x : Int) (l : List Int) (y : D) (hy : seqOf y = some (l.map D.int)) : inSeq (.int x) y = some (decide (x ∈ l)) := by
  unfold inSeq
  rw [hy]
  simp only [toP_int, Option.bind, toPs_ints, shp_lst, show shp (.int x) = true from rfl, Bool.and_self, if_true]
  congr 1
  rw [List.any_map]
  induction l with
  | nil => simp
  | cons a l ih =>
    rw [List.any_cons]
    have e : (List.any l ((fun z => PyData.eqv z (PyData.int x)) ∘ PyData.int)) = decide (x ∈ l) := by
      clear hy ih
      induction l with
      | nil => simp
      | cons b l ih =>
        rw [List.any_cons, ih]
        by_cases h : b = x
        · subst h; simp [PyData.eqv]
        · have : ¬ x = b := fun z => h z.symm
          simp [PyData.eqv, h, this]
    rw [e]
    by_cases h : a = x
    · subst h; simp [PyData.eqv]
    · have : ¬ x = a := fun z => h z.symm
      simp [PyData.eqv, h, this]
theorem inD_lst (x : Int) (l : List Int) : inD (.int x) (.lst (l.map D.int)) = some (.sh, .bl (decide (x ∈ l))) := by
  simp [inD, inD', inSeq_int x l (.lst (l.map D.int)) rfl]
theorem inD_tup (x : Int) (l : List Int) : inD (.int x) (.tup (l.map D.int)) = some (.sh, .bl (decide (x ∈ l))) := by
  simp [inD, inD', inSeq_int x l (.tup (l.map D.int)) rfl]
theorem inD_lstN (x : Nat) (l : List Nat) : inD (.int x) (.lst (l.map nD)) = some (.sh, .bl (decide (x ∈ l))) := by
  rw [map_nD, inD_lst]
  congr 3
  apply decide_eq_decide.2
  constructor
  · intro h
    obtain ⟨a, ha, e⟩ := List.mem_map.1 h
    have : a = x := Int.ofNat.inj e
    exact this ▸ ha
  · intro h; exact List.mem_map.2 ⟨x, h, rfl⟩
/-- a def that raises -/
theorem run_exc {np n : Nat} {b : M PP.Flow} {as : List (Fl × D)} {c : Nat} {p : Option D} {ρ : PP.Env} (h : as.length = np) (e : b (entry n as) = .exc c p ρ) : runF np n b as = .exc c p := by
  rw [runF_def _ _ _ _ h, e]
def isExc (c : Nat) : FRes → Bool
  | .exc c' none => c == c'
  | _ => false
theorem isExc_eq {c : Nat} {r : FRes} (h : isExc c r = true) : r = .exc c none := by
  unfold isExc at h
  split at h
  · rw [eq_of_beq h]
  · cases h
/-- the sequence's first statement raises -/
theorem seq_exc {a b : M PP.Flow} {ρ ρ' : PP.Env} {c : Nat} {p : Option D} (h : a ρ = .exc c p ρ') : sSeq a b ρ = .exc c p ρ' := by rw [sSeq_ap, h]
theorem Hand.mono {k j : Nat} {d : D} (h : Hand k d) (hj : k ≤ j) : Hand j d := by
  obtain ⟨cells, a, b, c, e, h1, h2, h3, h4, h5, h6, h7, h8, h9⟩ := h
  exact ⟨cells, a, b, c, e, h1, h2, h3, h4, h5, h6, h7, h8, by omega⟩
/-- a def that is lent the hand (first), and gives something of which P holds -/
def Hr (r : FRes) (fl : Fl) (k : Nat) (P : D → Prop) : Prop := ∃ d h', r = .ok fl d [(.ow, h')] ∧ Hand k h' ∧ P d
def Khr (as : List (Fl × D)) (fl : Fl) (k : Nat) (P : D → Prop) (f : PP.Flow) (ρ : PP.Env) : Prop := ∃ d h', f = .rt fl d ∧ backs as ρ = some [(.ow, h')] ∧ Hand k h' ∧ P d
theorem Hr_run {np n : Nat} {b : M PP.Flow} {as : List (Fl × D)} {fl : Fl} {k : Nat} {P : D → Prop} (h : as.length = np) (w : Wr (b (entry n as)) (Khr as fl k P)) : Hr (runF np n b as) fl k P := by
  obtain ⟨f, ρ, e, d, h', rfl, hb, hh, hp⟩ := w.ex
  exact ⟨d, h', run_rt h e hb, hh, hp⟩
theorem Kcall_hr {r : FRes} {fl f0 g : Fl} {k i : Nat} {h : D} {vals : List Ag} {P : D → Prop} {Q : Cont R} (e : Hr r fl k P) (hv : ∀ ρ, giveBack vals [] ρ = some ρ) (H : ∀ d h', Hand k h' → P d → Q (.v fl d) (ρ.set i (some (f0, h')))) :
    Kcall r (⟨some (i, f0), g, h⟩ :: vals) ρ Q := by
  obtain ⟨d, h', e, hh, hp⟩ := e
  rw [e]
  show Kopt (giveBack vals [] (ρ.set i (some (f0, h')))) (Kgiven fl d Q)
  rw [hv]
  exact H d h' hh hp
@[simp] theorem addD_lst (xs ys : List D) : addD (.lst xs) (.lst ys) = if xs.length + ys.length ≤ sizeLine then some (.ow, .lst (xs ++ ys)) else none := by
  unfold addD addI iD2 addS addL addT orE
  by_cases h : xs.length + ys.length ≤ sizeLine <;> simp [h]
@[simp] theorem addD_tup (xs ys : List D) : addD (.tup xs) (.tup ys) = if xs.length + ys.length ≤ sizeLine then some (.sh, .tup (xs ++ ys)) else none := by
  unfold addD addI iD2 addS addL addT orE
  by_cases h : xs.length + ys.length ≤ sizeLine <;> simp [h]
@[simp] theorem addD_str (x y : Str) : addD (.str x) (.str y) = if x.length + y.length ≤ sizeLine then some (.sh, .str (x ++ y)) else none := by
  unfold addD addI iD2 addS addL addT orE
  by_cases h : x.length + y.length ≤ sizeLine <;> simp [h]
/-- a if c else b, whose parts only look -/
theorem W_ifx {c : M Bool} {a b : M R} {Q : Cont R} {x : Bool} (fl : Fl) (d : D) (hc : c ρ = .ok x ρ) (ha : x = true → a ρ = .ok (.v fl d) ρ) (hb : x = false → b ρ = .ok (.v fl d) ρ) (q : Q (.v fl d) ρ) : Wr (mIf c a b ρ) Q := by
  rw [mIf_ap, hc]
  cases x with
  | true => dsimp only; rw [if_pos rfl, ha rfl]; exact q
  | false =>
    have h := hb rfl
    have e : (if false = true then a ρ else b ρ) = b ρ := rfl
    dsimp only
    rw [e, h]
    exact q
theorem W_and {a b : M Bool} {Q : Cont Bool} {x : Bool} (z : Bool) (ha : a ρ = .ok x ρ) (hb : x = true → b ρ = .ok z ρ) (hz : x = false → z = false) (q : Q z ρ) : Wr (mAnd a b ρ) Q := by
  rw [mAnd_ap, ha]
  cases x with
  | true => dsimp only; rw [if_pos rfl, hb rfl]; exact q
  | false =>
    rw [hz rfl] at q
    exact q
theorem W_or {a b : M Bool} {Q : Cont Bool} {x : Bool} (z : Bool) (ha : a ρ = .ok x ρ) (hb : x = false → b ρ = .ok z ρ) (hz : x = true → z = true) (q : Q z ρ) : Wr (mOr a b ρ) Q := by
  rw [mOr_ap, ha]
  cases x with
  | true => rw [hz rfl] at q; exact q
  | false =>
    have h := hb rfl
    have e : (if false = true then Res.ok true ρ else b ρ) = b ρ := rfl
    dsimp only
    rw [e, h]
    exact q
@[simp] theorem mTupRgB_ap (m : M (Int × Int)) (ρ : PP.Env) : mTupRgB m ρ = match m ρ with
    | .ok p ρ' => (if (p.2 - p.1).toNat ≤ 2 ^ 24 then .ok (.v .sh (.tup (rngD p.1 (p.2 - p.1).toNat 1))) ρ' else .bad)
    | .exc c p ρ' => .exc c p ρ' | .bad => .bad := by
  unfold mTupRgB bnd
  cases m ρ with
  | ok p ρ' => dsimp only; split <;> rfl
  | exc c p ρ' => rfl
  | bad => rfl
theorem neD_rng (a : Int) (n : Nat) : neD (.tup (rngD a n 1)) (.tup (rngD a n 1)) = some (.sh, .bl false) := by rw [rngD_eq, neD_tups]; simp
theorem neD_selfN (l : List Nat) : neD (.tup (l.map nD)) (.tup (l.map nD)) = some (.sh, .bl false) := by rw [neD_tupN]; simp
theorem neD_selfL (l : List Nat) : neD (.lst (l.map nD)) (.lst (l.map nD)) = some (.sh, .bl false) := by rw [neD_lstN]; simp
@[simp] theorem neD_bl (b c : Bool) : neD (.bl b) (.bl c) = some (.sh, .bl (!decide (b = c))) := by cases b <;> cases c <;> rfl
@[simp] theorem eqD_bl (b c : Bool) : eqD (.bl b) (.bl c) = some (.sh, .bl (decide (b = c))) := by cases b <;> cases c <;> rfl
@[simp] theorem neD_nn : neD .non .non = some (.sh, .bl false) := nr rfl
@[simp] theorem eqD_nn : eqD .non .non = some (.sh, .bl true) := nr rfl
@[simp] theorem isD_b (b c : Bool) : isD (.bl b) (.bl c) = some (.sh, .bl (decide (b = c))) := nr rfl
@[simp] theorem notD_b (b c : Bool) : notD (.bl b) (.bl c) = some (.sh, .bl (!decide (b = c))) := nr rfl
@[simp] theorem min2_int (i j : Int) : min2I (.int i) (.int j) = some (.sh, .int (if j < i then j else i)) := nr rfl
@[simp] theorem max2_int (i j : Int) : max2I (.int i) (.int j) = some (.sh, .int (if j > i then j else i)) := nr rfl
@[simp] theorem powI_int (i j : Int) : powI (.int i) (.int j) = if 0 ≤ j ∧ j ≤ 1000000 ∧ i.natAbs < 18446744073709551616 then some (.sh, .int (i ^ j.toNat)) else none := by
  simp only [powI, iD2, Bool.and_eq_true, decide_eq_true_eq, and_assoc]
  try rfl
theorem rgN_down (a : Nat) : rgN (a : Int) (-1) (-1) = a + 1 ∧ Builtin.Range.rangeSize (a : Int) (-1) (-1) = a + 1 := by
  have : Builtin.Range.rangeSize (a : Int) (-1) (-1) = a + 1 := by
    unfold Builtin.Range.rangeSize
    simp
    omega
  refine ⟨?_, this⟩
  unfold rgN
  rw [this]
  omega
theorem small_down (a : Nat) (h : a < 2 ^ 61) : Builtin.Range.small (a : Int) (-1) (-1) = true := by
  have e := (rgN_down a).2
  unfold Builtin.Range.small
  rw [e]
  simp only [Builtin.Range.rangeFitsLong, Bool.and_eq_true, Bool.or_eq_true, decide_eq_true_eq, beq_iff_eq, show ¬ ((-1 : Int) > 0) by decide, if_false]
  omega
def Kr3E (i j k : Int) (Q : Cont (List D)) (ρ : PP.Env) : Prop := (decide (k ≠ 0) && decide (k.natAbs < 1073741824) && Builtin.Range.small i j k && decide (0 ≤ Builtin.Range.rangeSize i j k)) = true ∧ Q (rngD i (rgN i j k) k) ρ
def Kr3c (ra rb : R) (Q : Cont (List D)) (rc : R) (ρ : PP.Env) : Prop := Kopt ((deref ρ ra).bind intOf) fun i => Kopt ((deref ρ rb).bind intOf) fun j => Kopt ((deref ρ rc).bind intOf) fun k => Kr3E i j k Q ρ
@[simp] theorem Kr3c_ap {ra rb rc : R} {Q : Cont (List D)} : Kr3c ra rb Q rc ρ = Kopt ((deref ρ ra).bind intOf) fun i => Kopt ((deref ρ rb).bind intOf) fun j => Kopt ((deref ρ rc).bind intOf) fun k => Kr3E i j k Q ρ := nr rfl
def Kr3b (c : M R) (ra : R) (Q : Cont (List D)) (rb : R) (ρ : PP.Env) : Prop := Wr (c ρ) (Kr3c ra rb Q)
@[simp] theorem Kr3b_ap {c : M R} {ra rb : R} {Q : Cont (List D)} : Kr3b c ra Q rb ρ = Wr (c ρ) (Kr3c ra rb Q) := nr rfl
def Kr3 (b c : M R) (Q : Cont (List D)) (ra : R) (ρ : PP.Env) : Prop := Wr (b ρ) (Kr3b c ra Q)
@[simp] theorem Kr3_ap {b c : M R} {ra : R} {Q : Cont (List D)} : Kr3 b c Q ra ρ = Wr (b ρ) (Kr3b c ra Q) := nr rfl
@[simp ↓] theorem Wr_rg3 {a b c : M R} {Q : Cont (List D)} : Wr (iRg3 a b c ρ) Q = Wr (a ρ) (Kr3 b c Q) := by
  unfold iRg3
  rw [bnd_ap]
  cases a ρ with
  | ok ra ρ1 =>
    dsimp only [Wr, Kr3]
    rw [bnd_ap]
    cases b ρ1 with
    | ok rb ρ2 =>
      dsimp only [Kr3b]
      rw [bnd_ap]
      cases c ρ2 with
      | ok rc ρ' =>
        show Wr (match (deref ρ' ra).bind intOf, (deref ρ' rb).bind intOf, (deref ρ' rc).bind intOf with
          | some i, some j, some k => if (decide (k ≠ 0) && decide (k.natAbs < 1073741824) && Builtin.Range.small i j k && decide (0 ≤ Builtin.Range.rangeSize i j k)) = true then .ok (rngD i (rgN i j k) k) ρ' else .bad
          | _, _, _ => .bad) Q = Kopt ((deref ρ' ra).bind intOf) fun i => Kopt ((deref ρ' rb).bind intOf) fun j => Kopt ((deref ρ' rc).bind intOf) fun k => Kr3E i j k Q ρ'
        cases (deref ρ' ra).bind intOf with
        | none => rfl
        | some i =>
          cases (deref ρ' rb).bind intOf with
          | none => rfl
          | some j =>
            cases (deref ρ' rc).bind intOf with
            | none => rfl
            | some k =>
              dsimp only [Kopt, Kr3E]
              by_cases h : (decide (k ≠ 0) && decide (k.natAbs < 1073741824) && Builtin.Range.small i j k && decide (0 ≤ Builtin.Range.rangeSize i j k)) = true
              · rw [if_pos h]; exact propext ⟨fun q => ⟨h, q⟩, fun q => q.2⟩
              · rw [if_neg h]; exact propext ⟨fun q => q.elim, fun q => (h q.1).elim⟩
      | exc c p ρ => rfl
      | bad => rfl
    | exc c p ρ => rfl
    | bad => rfl
  | exc c p ρ => rfl
  | bad => rfl
theorem Kr3E_down (a : Nat) (h : a < 2 ^ 61) {Q : Cont (List D)} : Kr3E (a : Int) (-1) (-1) Q ρ = Q (rngD a (a + 1) (-1)) ρ := by
  have e := rgN_down a
  unfold Kr3E
  rw [small_down a h, e.1, e.2]
  have : (decide ((-1 : Int) ≠ 0) && decide ((-1 : Int).natAbs < 1073741824) && true && decide ((0 : Int) ≤ (a : Int) + 1)) = true := by
    simp; omega
  simp only [this, true_and]
/-- over range(a, -1, -1) -/
theorem W_down {g : Tg} {b : M PP.Flow} {Q : Cont PP.Flow} (P : Nat → PP.Env → Prop) {lo : Int} {n : Nat} {ρ : PP.Env} (h : P 0 ρ)
    (hs : ∀ I : Nat → PP.Env → Prop, (∀ {j ρ}, P j ρ → I j ρ) → ∀ j ρ, j < n → P j ρ → Wr (g (.int (lo - j)) ρ) (Kbody b (I (j + 1)) Q))
    (he : ∀ ρ, P n ρ → Q .nx ρ) : Wr (loopF g b (rngD lo n (-1)) ρ) Q := by
  refine W_for P h (fun I hI j d ρ hd hp => ?_) (fun ρ hp => he ρ (by rwa [rngD_len] at hp))
  obtain ⟨hj, rfl⟩ := rngD_get hd
  rw [show lo + (j : Int) * -1 = lo - j by omega]
  exact hs I hI j ρ hj hp
end PP

set_option Elab.async false
set_option linter.all false
set_option maxRecDepth 100000
/-! Data whose repr is sure. -/
namespace PP
open PySem L2
/-! what repr tells is text -/
def SO (x : Str) : Prop := ∀ c ∈ x.cps.toList, c < 1114112
theorem SO_ok {x : Str} : PyData.strOk x = true ↔ SO x := by
  unfold PyData.strOk SO
  rw [← Array.all_toList, List.all_eq_true]
  simp
theorem SO.app {a b : Str} (ha : SO a) (hb : SO b) : SO (a ++ b) := by
  intro c hc
  have e : (a ++ b).cps.toList = a.cps.toList ++ b.cps.toList := by
    show (a.cps ++ b.cps).toList = _
    simp
  rw [e] at hc
  rcases List.mem_append.1 hc with h | h
  · exact ha c h
  · exact hb c h
theorem char_lt (c : Char) : c.toNat < 1114112 := by
  have := c.valid
  rcases this with h | h
  · have : c.toNat < 0xd800 := h
    omega
  · exact h.2
theorem SO.of (s : String) : SO (Str.ofString s) := by
  intro c hc
  rw [Str.ofString_eq_toList] at hc
  simp at hc
  obtain ⟨a, _, rfl⟩ := hc
  exact char_lt a
theorem SO.from : ∀ (ts : List Str) (k : Nat) (acc : Str), SO acc → (∀ t ∈ ts, SO t) → SO (textFrom k acc ts)
  | [], k, acc, h, _ => h
  | t :: ts, k, acc, h, ht => SO.from ts (k + 1) _ ((h.app (SO.of _)).app (ht t (List.mem_cons_self ..))) fun u hu => ht u (List.mem_cons_of_mem _ hu)
theorem SO.join {sep : Str} (hs : SO sep) : ∀ ts : List Str, (∀ t ∈ ts, SO t) → SO (Str.join sep ts)
  | [], _ => by intro c hc; simp [Str.join, Str.empty] at hc
  | [x], h => h x (List.mem_cons_self ..)
  | x :: y :: r, h => ((h x (List.mem_cons_self ..)).app hs).app (SO.join hs (y :: r) fun u hu => h u (List.mem_cons_of_mem _ hu))
theorem rc_lt {q c : Nat} (hc : c < 1114112) : ∀ x ∈ Builtin.Str.reprChar q c, x < 1114112 := by
  intro x hx
  unfold Builtin.Str.reprChar at hx
  have hex : ∀ w, ∀ x ∈ List.replicate (w - ((Nat.toDigits 16 c).map Char.toNat).length) 48 ++ (Nat.toDigits 16 c).map Char.toNat, x < 1114112 := by
    intro w x hx
    rcases List.mem_append.1 hx with h | h
    · have := List.eq_of_mem_replicate h; omega
    · obtain ⟨a, _, rfl⟩ := List.mem_map.1 h
      exact char_lt a
  dsimp only at hx
  have two : ∀ a b : Nat, a < 1114112 → b < 1114112 → ∀ l : List Nat, (∀ y ∈ l, y < 1114112) → ∀ y ∈ [a, b] ++ l, y < 1114112 := by
    intro a b ha hb l hl y hy
    simp at hy
    rcases hy with rfl | rfl | hy
    · exact ha
    · exact hb
    · exact hl y hy
  split at hx
  · simp at hx; omega
  split at hx
  · simp at hx; omega
  split at hx
  · simp at hx; omega
  split at hx
  · simp at hx; omega
  split at hx
  · simp at hx; omega
  split at hx
  · exact two 92 120 (by decide) (by decide) _ (hex 2) x hx
  split at hx
  · exact two 92 117 (by decide) (by decide) _ (hex 4) x hx
  · exact two 92 85 (by decide) (by decide) _ (hex 8) x hx
theorem SO.repr {x : Str} (h : SO x) : SO (reprText x) := by
  have hq : reprQuote x < 1114112 := by unfold reprQuote; split <;> decide
  have fold : ∀ (l : List Nat) (acc : Array Nat), (∀ c ∈ l, c < 1114112) → (∀ c ∈ acc.toList, c < 1114112) → ∀ c ∈ (l.foldl (fun out c => out ++ (Builtin.Str.reprChar (reprQuote x) c).toArray) acc).toList, c < 1114112 := by
    intro l
    induction l with
    | nil => intro acc _ ha; exact ha
    | cons y l ih =>
      intro acc hl ha
      rw [List.foldl_cons]
      refine ih _ (fun c hc => hl c (List.mem_cons_of_mem _ hc)) ?_
      intro c hc
      simp at hc
      rcases hc with hc | hc
      · exact ha c (by simpa using hc)
      · exact rc_lt (hl y (List.mem_cons_self ..)) c hc
  intro c hc
  unfold reprText at hc
  simp only [Array.toList_push, List.mem_append, List.mem_singleton] at hc
  rcases hc with hc | hc
  · rw [← Array.foldl_toList] at hc
    exact fold _ _ h (by intro c hc; simp at hc; omega) c hc
  · omega
mutual
theorem plain_SO : ∀ d : PyData, d.canLay0 = true → SO d.shown
  | .none, _ => by simp only [PyData.shown]; exact SO.of _
  | .bool b, _ => by simp only [PyData.shown]; cases b <;> exact SO.of _
  | .int i, _ => by simp only [PyData.shown]; exact SO.of _
  | .str x, h => by
    simp only [PyData.shown]
    exact SO.repr (SO_ok.1 (by simpa [PyData.canLay0] using h))
  | .list xs, h => by
    simp only [PyData.shown, listText]
    exact (SO.from _ _ _ (SO.of _) (plains_SO xs (by simpa [PyData.canLay0] using h))).app (SO.of _)
  | .tuple xs, h => by
    simp only [PyData.shown, tupleText]
    exact ((SO.of _).app (SO.join (SO.of _) _ (plains_SO xs (by simpa [PyData.canLay0] using h)))).app (SO.of _)
  | .dict _, h => by simp [PyData.canLay0] at h
theorem plains_SO : ∀ xs : List PyData, PyData.canLayAll0 xs = true → ∀ t ∈ PyData.shownAll xs, SO t
  | [], _, t, h => by simp [PyData.shownAll] at h
  | x :: xs, h, t, ht => by
    simp only [PyData.canLayAll0, Bool.and_eq_true] at h
    simp only [PyData.shownAll, List.mem_cons] at ht
    rcases ht with rfl | ht
    · exact plain_SO x h.1
    · exact plains_SO xs h.2 t ht
end
@[simp] theorem neD_strS {t : Str} (h : SO t) : neD (.str t) (.str t) = some (.sh, .bl false) := by
  simp [neD, eqD', toP, shp, SeqAt.shaped, PyData.canLay0, SO_ok.2 h, PyData.depth, PyData.eqv]
@[simp] theorem eqD_strS {t : Str} (h : SO t) : eqD (.str t) (.str t) = some (.sh, .bl true) := by
  simp [eqD, eqD', toP, shp, SeqAt.shaped, PyData.canLay0, SO_ok.2 h, PyData.depth, PyData.eqv]
/-! data whose repr is sure -/
mutual
def plainD : D → Bool
  | .non => true
  | .bl _ => true
  | .int i => decide (i.natAbs < 10 ^ 570)
  | .str x => x.cps.toList.all fun c => decide (c < 1114112)
  | .tup ds => plainDs ds
  | .lst ds => plainDs ds
  | _ => false
def plainDs : List D → Bool
  | [] => true
  | d :: ds => plainD d && plainDs ds
end
mutual
def bulkD : D → Nat
  | .str x => x.cps.size
  | .tup ds => bulkDs ds
  | .lst ds => bulkDs ds
  | _ => 0
def bulkDs : List D → Nat
  | [] => 0
  | d :: ds => bulkD d + 1 + bulkDs ds
end
mutual
def deepD : D → Nat
  | .tup ds => deepDs ds + 1
  | .lst ds => deepDs ds + 1
  | _ => 0
def deepDs : List D → Nat
  | [] => 0
  | d :: ds => max (deepD d) (deepDs ds)
end
theorem int_show {i : Int} (h : i.natAbs < 10 ^ 570) : (PyData.int i).showable = true ∧ (PyData.int i).leavesShort 571 = true := by
  refine ⟨?_, ?_⟩
  · simp only [PyData.showable, decide_eq_true_eq]
    have h2 : (10 : Nat) ^ 570 < 2 ^ 1919 := by decide +kernel
    have : i.natAbs.log2 ≤ 1919 := log_small (Nat.lt_trans h h2)
    omega
  · simp only [PyData.leavesShort, decide_eq_true_eq]
    have := int_text_length_le10 (k := 570) (by decide) h
    have e : (PyData.shown (.int i)).length = (toString i).length := ofString_length _
    clear h
    omega
mutual
theorem plain_ok : ∀ d : D, plainD d = true → ∃ p, toP d = some p ∧ p.showable = true ∧ p.hasDict = false ∧ p.leavesShort 571 = true ∧ p.canLay0 = true ∧ p.bulk = bulkD d ∧ p.depth = deepD d
  | .non, _ => ⟨.none, by simp [toP, PyData.showable, PyData.hasDict, PyData.leavesShort, PyData.canLay0, PyData.bulk, bulkD, PyData.depth, deepD]⟩
  | .bl b, _ => ⟨.bool b, by simp [toP, PyData.showable, PyData.hasDict, PyData.leavesShort, PyData.canLay0, PyData.bulk, bulkD, PyData.depth, deepD]⟩
  | .int i, h => by
    simp only [plainD, decide_eq_true_eq] at h
    obtain ⟨a, b⟩ := int_show h
    exact ⟨.int i, by simp [toP], a, by simp [PyData.hasDict], b, by simp [PyData.canLay0], by simp [PyData.bulk, bulkD], by simp [PyData.depth, deepD]⟩
  | .str x, h => by
    simp only [plainD] at h
    refine ⟨.str x, by simp [toP], by simp [PyData.showable], by simp [PyData.hasDict], ?_, ?_, by simp [PyData.bulk, bulkD], by simp [PyData.depth, deepD]⟩
    · simp only [PyData.leavesShort]
      rw [List.all_eq_true] at h ⊢
      intro c hc
      have := h c hc
      simp only [decide_eq_true_eq] at this ⊢
      omega
    · simp only [PyData.canLay0]
      refine SO_ok.2 fun c hc => ?_
      have := List.all_eq_true.1 h c hc
      simpa using this
  | .tup ds, h => by
    simp only [plainD] at h
    obtain ⟨ps, h1, h2, h3, h4, h7, h5, h6⟩ := plains_ok ds h
    exact ⟨.tuple ps, by simp [toP, h1], by simpa [PyData.showable] using h2, by simpa [PyData.hasDict] using h3, by simpa [PyData.leavesShort] using h4, by simpa [PyData.canLay0] using h7, by simpa [PyData.bulk, bulkD] using h5, by simpa [PyData.depth, deepD] using h6⟩
  | .lst ds, h => by
    simp only [plainD] at h
    obtain ⟨ps, h1, h2, h3, h4, h7, h5, h6⟩ := plains_ok ds h
    exact ⟨.list ps, by simp [toP, h1], by simpa [PyData.showable] using h2, by simpa [PyData.hasDict] using h3, by simpa [PyData.leavesShort] using h4, by simpa [PyData.canLay0] using h7, by simpa [PyData.bulk, bulkD] using h5, by simpa [PyData.depth, deepD] using h6⟩
  | .dK _, h => by simp [plainD] at h
  | .dT _, h => by simp [plainD] at h
  | .fn _, h => by simp [plainD] at h
  | .scr _, h => by simp [plainD] at h
  | .exo, h => by simp [plainD] at h
theorem plains_ok : ∀ ds : List D, plainDs ds = true → ∃ ps, toPs ds = some ps ∧ PyData.showableAll ps = true ∧ PyData.hasDictAll ps = false ∧ PyData.leavesShortAll 571 ps = true ∧ PyData.canLayAll0 ps = true ∧ PyData.bulkAll ps = bulkDs ds ∧ PyData.depthAll ps = deepDs ds
  | [], _ => ⟨[], by simp [toPs, PyData.showableAll, PyData.hasDictAll, PyData.leavesShortAll, PyData.canLayAll0, PyData.bulkAll, bulkDs, PyData.depthAll, deepDs]⟩
  | d :: ds, h => by
    simp only [plainDs, Bool.and_eq_true] at h
    obtain ⟨p, a1, a2, a3, a4, a7, a5, a6⟩ := plain_ok d h.1
    obtain ⟨ps, b1, b2, b3, b4, b7, b5, b6⟩ := plains_ok ds h.2
    exact ⟨p :: ps, by simp [toPs, a1, b1], by simp [PyData.showableAll, a2, b2], by simp [PyData.hasDictAll, a3, b3], by simp [PyData.leavesShortAll, a4, b4], by simp [PyData.canLayAll0, a7, b7], by simp [PyData.bulkAll, bulkDs, a5, b5], by simp [PyData.depthAll, deepDs, a6, b6]⟩
end
theorem reprD_ok {d : D} (h : plainD d = true) (hb : bulkD d ≤ 20000) (hd : deepD d ≤ 60) : ∃ s, reprD d = some (.sh, .str s) ∧ SO s := by
  obtain ⟨p, h1, h2, h3, h4, h7, h5, h6⟩ := plain_ok d h
  have hl := PyData.shown_le_bulk 571 (by decide) p h4
  have hl : p.shown.length ≤ 16777216 := by
    have : (571 + 2) * p.bulk ≤ (571 + 2) * 20000 := Nat.mul_le_mul_left _ (by omega)
    omega
  refine ⟨p.shown, ?_, plain_SO p h7⟩
  simp [reprD, h1, reprOk, h2, h3, h6, hd, sizeLine_eq, hl]
theorem reprD_int {i : Int} (h : i.natAbs < 10 ^ 570) : ∃ s, reprD (.int i) = some (.sh, .str s) ∧ SO s := reprD_ok (by simpa only [plainD, decide_eq_true_eq] using h) (by simp [bulkD]) (by simp [deepD])
theorem p570 {n : Nat} (h : n ≤ 10 ^ 60) : n < 10 ^ 570 := Nat.lt_of_le_of_lt h (by decide +kernel)
theorem plain_nat {x : Nat} (h : x ≤ 10 ^ 60) : plainD (.int x) = true := by
  simp only [plainD, decide_eq_true_eq]
  rw [Int.natAbs_natCast]
  exact p570 h
theorem plains_nat : ∀ {l : List Nat}, (∀ x ∈ l, x ≤ 10 ^ 60) → plainDs (l.map nD) = true ∧ bulkDs (l.map nD) = l.length ∧ deepDs (l.map nD) = 0
  | [], _ => ⟨by simp [plainDs], by simp [bulkDs], by simp [deepDs]⟩
  | x :: l, h => by
    obtain ⟨a, b, c⟩ := plains_nat (l := l) fun y hy => h y (List.mem_cons_of_mem _ hy)
    have := plain_nat (h x (List.mem_cons_self ..))
    refine ⟨?_, ?_, ?_⟩
    · rw [List.map_cons, plainDs, a, nD, this]; rfl
    · simp [bulkDs, b, nD, bulkD]; omega
    · simp [deepDs, c, nD, deepD]
theorem reprD_tupN {l : List Nat} (h : ∀ x ∈ l, x ≤ 10 ^ 60) (hl : l.length ≤ 20000) : ∃ s, reprD (.tup (l.map nD)) = some (.sh, .str s) ∧ SO s := by
  obtain ⟨a, b, c⟩ := plains_nat h
  exact reprD_ok (by rw [plainD]; exact a) (by rw [bulkD, b]; exact hl) (by rw [deepD, c]; omega)
end PP

set_option Elab.async false
set_option linter.all false
set_option maxRecDepth 100000
/-! More rules of the walk: enumerate, comprehensions with any target, greatest, least pairs. -/
namespace PP
open PySem L2
/-! enumerate -/
def enumOf : D → Option (List D)
  | .lst xs => some (enumD xs)
  | .tup xs => some (enumD xs)
  | _ => none
@[simp] theorem enumOf_lst (xs : List D) : enumOf (.lst xs) = some (enumD xs) := nr rfl
@[simp] theorem enumOf_tup (xs : List D) : enumOf (.tup xs) = some (enumD xs) := nr rfl
def Kenum (Q : Cont (List D)) (r : R) (ρ : PP.Env) : Prop := match r with
  | .v _ d => Kopt (enumOf d) (Kat Q ρ)
  | .s _ => False
@[simp] theorem Kenum_v {Q : Cont (List D)} {fl : Fl} {d : D} : Kenum Q (.v fl d) ρ = Kopt (enumOf d) (Kat Q ρ) := nr rfl
@[simp ↓] theorem Wr_enumG {a : M R} {Q : Cont (List D)} : Wr (iEnumG a ρ) Q = Wr (a ρ) (Kenum Q) := by
  unfold iEnumG bnd
  cases a ρ with
  | ok ra ρ' =>
    cases ra with
    | s i => rfl
    | v fl d => cases d <;> rfl
  | exc c p ρ => rfl
  | bad => rfl
def enumX : D → Option (List D)
  | .str x => some (enumD (signs x))
  | _ => none
@[simp] theorem enumX_str (x : Str) : enumX (.str x) = some (enumD (signs x)) := nr rfl
def KenumX (Q : Cont (List D)) (r : R) (ρ : PP.Env) : Prop := match r with
  | .v _ d => Kopt (enumX d) (Kat Q ρ)
  | .s _ => False
@[simp] theorem KenumX_v {Q : Cont (List D)} {fl : Fl} {d : D} : KenumX Q (.v fl d) ρ = Kopt (enumX d) (Kat Q ρ) := nr rfl
@[simp ↓] theorem Wr_enumX {a : M R} {Q : Cont (List D)} : Wr (iEnumX a ρ) Q = Wr (a ρ) (KenumX Q) := by
  unfold iEnumX bnd
  cases a ρ with
  | ok ra ρ' =>
    cases ra with
    | s i => rfl
    | v fl d => cases d <;> rfl
  | exc c p ρ => rfl
  | bad => rfl
theorem enumD_map {γ : Type} (en : γ → D) (l : List γ) : enumD (l.map en) = l.zipIdx.map fun p => .tup [nD p.2, en p.1] := by
  unfold enumD
  apply List.ext_getElem?
  intro i
  rw [List.getElem?_zipWith, List.getElem?_map, List.getElem?_map, List.getElem?_zipIdx]
  cases q : l[i]? with
  | none => simp
  | some x =>
    have : i < l.length := lt_of_get q
    rw [List.getElem?_range (by simpa using this)]
    simp [nD]
@[simp] theorem mRng1_ap (hi : M R) (ρ : PP.Env) : mRng1 hi ρ = match hi ρ with
    | .ok rb ρ2 => (match (deref ρ2 rb).bind intOf with | some j => .ok (0, j) ρ2 | none => .bad)
    | .exc c p ρ' => .exc c p ρ'
    | .bad => .bad := by
  unfold mRng1 bnd
  cases hi ρ <;> rfl
/-! a loop, turn by turn -/
theorem W_forCons {g : Tg} {b : M PP.Flow} {Q : Cont PP.Flow} {d : D} {ds : List D} (h : Wr (g d ρ) (Kbody b (fun ρ' => Wr (loopF g b ds ρ') Q) Q)) : Wr (loopF g b (d :: ds) ρ) Q := by
  rw [loopF_cons]
  obtain ⟨_, ρ1, e1, h1⟩ := h.ex
  rw [e1]
  dsimp only
  obtain ⟨f, ρ2, e2, h2⟩ := Wr.ex h1
  rw [e2]
  dsimp only
  cases f <;> exact h2
theorem W_forNil {g : Tg} {b : M PP.Flow} {Q : Cont PP.Flow} (h : Q .nx ρ) : Wr (loopF g b [] ρ) Q := h
/-! comprehensions with any target -/
theorem loopC_gen {γ : Type} (en : γ → D) (st : γ → PP.Env) {vs : List Nat} {g : Tg} {c : M Bool} {e : M R} {p : γ → Bool} {f : γ → D} {ρ : PP.Env} : ∀ (l : List γ) (acc : List D),
    (∀ x ∈ l, g (en x) ρ = .ok () (st x) ∧ wipeE (st x) vs = ρ ∧ c (st x) = .ok (p x) (st x) ∧ (p x = true → ∃ fl, e (st x) = .ok (.v fl (f x)) (st x))) → acc.length + l.length ≤ sizeLine →
    loopC vs g c e (l.map en) acc ρ = .ok (acc ++ (l.filter p).map f) ρ
  | [], acc, _, _ => by rw [List.map_nil, loopC_nil]; simp
  | d :: ds, acc, h, hz => by
    obtain ⟨hg, hw, hc, he⟩ := h d List.mem_cons_self
    rw [List.map_cons, loopC_cons, hg]
    dsimp only
    rw [hc]
    have hz' : acc.length + (ds.length + 1) ≤ sizeLine := by simpa using hz
    cases hp : p d with
    | false =>
      dsimp only
      rw [hw, loopC_gen en st ds acc (fun x hx => h x (List.mem_cons_of_mem _ hx)) (by omega), List.filter_cons_of_neg (by rw [hp]; exact Bool.false_ne_true)]
    | true =>
      obtain ⟨fl, he⟩ := he hp
      dsimp only
      rw [he]
      dsimp only
      rw [if_pos (by omega), hw, loopC_gen en st ds (acc ++ [f d]) (fun x hx => h x (List.mem_cons_of_mem _ hx)) (by simp; omega), List.filter_cons_of_pos hp]
      simp
theorem W_gen {γ : Type} (en : γ → D) (st : γ → PP.Env) {vs : List Nat} {g : Tg} {c : M Bool} {e : M R} (p : γ → Bool) (f : γ → D) {l : List γ} {Q : Cont (List D)} (hz : l.length ≤ sizeLine)
    (h : ∀ x ∈ l, g (en x) ρ = .ok () (st x) ∧ wipeE (st x) vs = ρ ∧ c (st x) = .ok (p x) (st x) ∧ (p x = true → ∃ fl, e (st x) = .ok (.v fl (f x)) (st x)))
    (q : Q ((l.filter p).map f) ρ) : Wr (loopC vs g c e (l.map en) [] ρ) Q := by
  refine W_eq (loopC_gen en st (p := p) (f := f) l [] h (by simpa using hz)) ?_
  simpa using q
@[simp] theorem mulG_lst (ds : List D) (k : Int) : mulG (.lst ds) (.int k) = repL (.lst ds) (.int k) := by
  unfold mulG
  show orE (repL (.lst ds) (.int k)) (orE none none) = _
  cases repL (.lst ds) (.int k) <;> rfl
@[simp] theorem mulG_str (x : Str) (k : Int) : mulG (.str x) (.int k) = repSD (.str x) (.int k) := by
  unfold mulG
  show orE none (orE none (orE none (repSD (.str x) (.int k)))) = _
  rfl
/-- .. its last -/
theorem cut_end (ds : List D) (d : D) : cutD (ds ++ [d]) (some (-1)) none = [d] := by
  have h : cutD (ds ++ [d]) (some (-1)) none = (ds ++ [d]).drop ds.length := by
    have e := cut_drop (ds ++ [d]) ds.length
    rw [← e]
    have hl : (ds ++ [d]).length = ds.length + 1 := by simp
    unfold cutD
    have s1 : HT.sIx (ds ++ [d]).length 0 (some (-1)) = ds.length := by
      show (if (-1 : Int) < 0 then ((-1 : Int) + ((ds ++ [d]).length : Int)).toNat else min (-1 : Int).toNat (ds ++ [d]).length) = _
      rw [if_pos (by decide), hl]; omega
    have s2 : HT.sIx (ds ++ [d]).length 0 (some (ds.length : Int)) = ds.length := by
      show (if ((ds.length : Int)) < 0 then ((ds.length : Int) + ((ds ++ [d]).length : Int)).toNat else min (ds.length : Int).toNat (ds ++ [d]).length) = _
      rw [if_neg (by omega), hl]; omega
    rw [s1, s2]
  rw [h]; simp
theorem intsOf_nD (l : List Nat) : intsOf (l.map nD) = some (l.map fun x : Nat => (x : Int)) := by rw [map_nD, intsOf_map]
theorem sum_cast : ∀ l : List Nat, (l.map fun x : Nat => (x : Int)).sum = (l.sum : Nat)
  | [] => rfl
  | x :: l => by simp [sum_cast l]
theorem sumD_nD (l : List Nat) : sumD (.lst (l.map nD)) = some (.sh, .int (l.sum : Nat)) := by
  simp [sumD, intsOf_nD, sum_cast]
/-! greatest, least of numbers -/
theorem mostI_max : ∀ (l : List Nat) (x : Nat), mostI (x : Int) (l.map fun y : Nat => (y : Int)) = (l.foldl max x : Nat)
  | [], x => rfl
  | y :: l, x => by
    have e : (if (x : Int) < (y : Int) then (y : Int) else x) = ((max x y : Nat) : Int) := by split <;> omega
    show mostI (if (x : Int) < (y : Int) then (y : Int) else x) _ = _
    rw [e, mostI_max l (max x y)]
    rfl
theorem maxD_nD (x : Nat) (l : List Nat) : maxD (.lst ((x :: l).map nD)) = some (.sh, .int (l.foldl max x : Nat)) := by
  unfold maxD
  have : intsOf ((x :: l).map nD) = some ((x :: l).map fun y : Nat => (y : Int)) := by rw [map_nD, intsOf_map]
  rw [List.map_cons] at this ⊢
  simp only [seqOf, Option.bind, this]
  rw [List.map_cons]
  dsimp only
  rw [mostI_max]
theorem le_foldl_max : ∀ (l : List Nat) (x y : Nat), y ≤ l.foldl max x ↔ y ≤ x ∨ ∃ z ∈ l, y ≤ z
  | [], x, y => by simp
  | z :: l, x, y => by
    rw [List.foldl_cons, le_foldl_max l (max x z) y]
    simp only [List.mem_cons]
    constructor
    · rintro (h | ⟨u, hu, h⟩)
      · by_cases q : y ≤ x
        · exact .inl q
        · exact .inr ⟨z, .inl rfl, by omega⟩
      · exact .inr ⟨u, .inr hu, h⟩
    · rintro (h | ⟨u, rfl | hu, h⟩)
      · exact .inl (by omega)
      · exact .inl (by omega)
      · exact .inr ⟨u, hu, h⟩
theorem foldl_max_mem : ∀ (l : List Nat) (x : Nat), l.foldl max x = x ∨ l.foldl max x ∈ l
  | [], x => .inl rfl
  | z :: l, x => by
    rw [List.foldl_cons]
    rcases foldl_max_mem l (max x z) with h | h
    · rw [h]
      by_cases q : z ≤ x
      · exact .inl (by omega)
      · right; rw [show max x z = z by omega]; simp
    · exact .inr (List.mem_cons_of_mem _ h)
/-! the place of a number -/
theorem findP_int (x : Int) : ∀ (l : List Int) (k : Nat), l[k]? = some x → (∀ j, j < k → l[j]? ≠ some x) → findP (.int x) (l.map PyData.int) = some k
  | [], k, h, _ => by simp at h
  | a :: l, 0, h, _ => by
    have h : some a = some x := h
    cases h
    simp [findP, PyData.eqv]
  | a :: l, k + 1, h, hn => by
    have ha : ¬ a = x := fun z => hn 0 (by omega) (by rw [z]; rfl)
    have ih := findP_int x l k (by simpa using h) (fun j hj => by have := hn (j + 1) (by omega); simpa using this)
    simp [findP, PyData.eqv, ha, ih]
theorem indexD_nD (x : Nat) (l : List Nat) (k : Nat) (h : l[k]? = some x) (hn : ∀ j, j < k → l[j]? ≠ some x) : indexD (.lst (l.map nD)) (.int x) = some (.sh, .int k) := by
  have f := findP_int x (l.map fun y : Nat => (y : Int)) k (by rw [List.getElem?_map, h]; rfl) fun j hj q => by
    rw [List.getElem?_map] at q
    obtain ⟨y, hy, e⟩ := Option.map_eq_some_iff.1 q
    have : y = x := Int.ofNat.inj e
    exact hn j hj (by rw [hy, this])
  have t : toPs (l.map nD) = some ((l.map fun y : Nat => (y : Int)).map PyData.int) := by rw [map_nD, toPs_ints]
  unfold indexD
  dsimp only
  rw [t]
  simp only [toP, shp_lst, show shp (.int (x : Int)) = true from by simp [shp, SeqAt.shaped, PyData.canLay0, PyData.depth], Bool.and_self, if_true, f, Option.map]
/-! lists of rows -/
def tN (l : List Nat) : D := .tup (l.map nD)
def pN (l : List Nat) : PyData := .tuple ((l.map fun x : Nat => (x : Int)).map PyData.int)
theorem toP_tN (l : List Nat) : toP (tN l) = some (pN l) := by
  unfold tN pN
  rw [map_nD]
  simp only [toP, toPs_ints]
theorem toPs_tN : ∀ L : List (List Nat), toPs (L.map tN) = some (L.map pN)
  | [] => by simp [toPs]
  | l :: L => by simp [toPs, toP_tN, toPs_tN L]
theorem eqv_pN (l m : List Nat) : PyData.eqv (pN l) (pN m) = decide (l = m) := by
  unfold pN
  simp only [PyData.eqv, eqv_ints]
  apply decide_eq_decide.2
  constructor
  · intro h
    have := List.map_inj_right (f := fun x : Nat => (x : Int)) (fun a b h => Int.ofNat.inj h) |>.1 h
    exact this
  · rintro rfl; rfl
theorem eqvs_pN : ∀ L M : List (List Nat), PyData.eqvAll (L.map pN) (M.map pN) = decide (L = M)
  | [], [] => by simp [PyData.eqvAll]
  | [], _ :: _ => by simp [PyData.eqvAll]
  | _ :: _, [] => by simp [PyData.eqvAll]
  | l :: L, m :: M => by
    simp only [List.map_cons, PyData.eqvAll, eqv_pN, eqvs_pN L M]
    by_cases h : l = m <;> by_cases g : L = M <;> simp [h, g]
theorem lay_pN (l : List Nat) : (pN l).canLay0 = true := by simp only [pN, PyData.canLay0, lay_ints]
theorem depth_pN (l : List Nat) : (pN l).depth = 1 := by simp only [pN, PyData.depth, depthA_ints]
theorem lays_pN : ∀ L : List (List Nat), PyData.canLayAll0 (L.map pN) = true
  | [] => by simp [PyData.canLayAll0]
  | l :: L => by simp [PyData.canLayAll0, lay_pN, lays_pN L]
theorem depths_pN : ∀ L : List (List Nat), PyData.depthAll (L.map pN) ≤ 1
  | [] => by simp [PyData.depthAll]
  | l :: L => by
    have := depths_pN L
    simp [PyData.depthAll, depth_pN]
    omega
theorem shp_pN (L : List (List Nat)) : shp (.list (L.map pN)) = true := by
  have := depths_pN L
  simp [shp, SeqAt.shaped, PyData.canLay0, lays_pN, PyData.depth]
  omega
theorem eqD'_lTN (L M : List (List Nat)) : eqD' (.lst (L.map tN)) (.lst (M.map tN)) = some (decide (L = M)) := by
  simp [eqD', toP, toPs_tN, shp_pN, PyData.eqv, eqvs_pN]
theorem eqD_lTN (L M : List (List Nat)) : eqD (.lst (L.map tN)) (.lst (M.map tN)) = some (.sh, .bl (decide (L = M))) := by unfold eqD; rw [eqD'_lTN]; rfl
theorem neD_lTN (L M : List (List Nat)) : neD (.lst (L.map tN)) (.lst (M.map tN)) = some (.sh, .bl (!decide (L = M))) := by unfold neD; rw [eqD'_lTN]; rfl
theorem eqD_tN (l m : List Nat) : eqD (tN l) (tN m) = some (.sh, .bl (decide (l = m))) := eqD_tupN l m
/-! the least of pairs -/
theorem dataLt_pq (p q : Int × Int) : PySem.W.dataLt (pq p) (pq q) = (decide (p.1 < q.1) || (decide (p.1 = q.1) && decide (p.2 < q.2))) := by
  have k : ∀ p : Int × Int, PySem.W.keyToks (pq p) = [.inl 1, .inl p.1, .inl 1, .inl p.2, .inl 0] := fun p => by simp [pq, PySem.W.keyToks, PySem.W.keyToksAll]
  have d : ∀ {x y : Int} {r t : List (Int ⊕ List Nat)}, x ≠ y → PyProof.Rows.lexLt PyProof.Rows.itemOrd (.inl x :: r) (.inl y :: t) = decide (x < y) := fun h => PyProof.Rows.lex_diff (O := PyProof.Rows.itemOrd) (fun z => h (Sum.inl.inj z))
  have s : ∀ {x : Int} {r t : List (Int ⊕ List Nat)}, PyProof.Rows.lexLt PyProof.Rows.itemOrd (.inl x :: r) (.inl x :: t) = PyProof.Rows.lexLt PyProof.Rows.itemOrd r t := PyProof.Rows.lex_self (O := PyProof.Rows.itemOrd) _ _ _
  unfold PySem.W.dataLt
  rw [k, k, s]
  by_cases h : p.1 = q.1
  · rw [h, s, s]
    by_cases g : p.2 = q.2
    · rw [g, s]; simp; rfl
    · rw [d g]; simp
  · rw [d h]; simp [h]
theorem alike_pq (p q : Int × Int) : PySem.W.alike (pq p) (pq q) = true := by simp [pq, PySem.W.alike, PySem.W.alikeAll]
theorem alikeB_pq (l : List (Int × Int)) : alikeB (l.map pq) = true := by
  unfold alikeB
  rw [List.all_eq_true]
  intro x hx
  obtain ⟨r, _, rfl⟩ := List.mem_map.1 hx
  simp only [Bool.and_eq_true]
  refine ⟨rfl, List.all_eq_true.2 fun y hy => ?_⟩
  obtain ⟨r', _, rfl⟩ := List.mem_map.1 hy
  exact alike_pq r r'
/-- the least of (-c d, d): the first day of most -/
theorem minPD_most (c : Nat → Nat) (N : Nat) : ∃ b, b < N + 1 ∧ (∀ d, d < N + 1 → c d ≤ c b) ∧ (∀ d, d < b → c d < c b) ∧ minPD (.lst ((List.range (N + 1)).map fun d => pd (-(c d : Int), (d : Int)))) = some (.sh, pd (-(c b : Int), (b : Int))) := by
  have key : ∀ N, ∃ b, b < N + 1 ∧ (∀ d, d < N + 1 → c d ≤ c b) ∧ (∀ d, d < b → c d < c b) ∧ PySem.W.minD (pq (-(c 0 : Int), 0)) ((List.range N).map fun i => pq (-(c (i + 1) : Int), ((i + 1 : Nat) : Int))) = pq (-(c b : Int), (b : Int)) := by
    intro N
    induction N with
    | zero => exact ⟨0, by omega, fun d hd => by rw [show d = 0 by omega]; exact Nat.le_refl _, fun d hd => by omega, rfl⟩
    | succ N ih =>
      obtain ⟨b, h1, h2, h3, h4⟩ := ih
      have e : PySem.W.minD (pq (-(c 0 : Int), 0)) ((List.range (N + 1)).map fun i => pq (-(c (i + 1) : Int), ((i + 1 : Nat) : Int))) = if PySem.W.dataLt (pq (-(c (N + 1) : Int), ((N + 1 : Nat) : Int))) (pq (-(c b : Int), (b : Int))) = true then pq (-(c (N + 1) : Int), ((N + 1 : Nat) : Int)) else pq (-(c b : Int), (b : Int)) := by
        unfold PySem.W.minD at h4 ⊢
        rw [List.range_succ, List.map_append, List.foldl_append, h4]
        rfl
      rw [e, dataLt_pq]
      by_cases z : c b < c (N + 1)
      · refine ⟨N + 1, by omega, fun d hd => ?_, fun d hd => ?_, ?_⟩
        · by_cases y : d = N + 1
          · rw [y]; exact Nat.le_refl _
          · have := h2 d (by omega); omega
        · have := h2 d (by omega); omega
        · rw [if_pos (by simp; omega)]
      · refine ⟨b, by omega, fun d hd => ?_, h3, ?_⟩
        · by_cases y : d = N + 1
          · rw [y]; omega
          · exact h2 d (by omega)
        · rw [if_neg (by simp; omega)]
  obtain ⟨b, h1, h2, h3, h4⟩ := key N
  refine ⟨b, h1, h2, h3, ?_⟩
  have el : (List.range (N + 1)).map (fun d => pd (-(c d : Int), (d : Int))) = pd (-(c 0 : Int), 0) :: ((List.range N).map fun i => (-(c (i + 1) : Int), ((i + 1 : Nat) : Int))).map pd := by
    rw [List.range_succ_eq_map, List.map_cons, List.map_map, List.map_map]
    rfl
  rw [el]
  unfold minPD
  have t : toPs (pd (-(c 0 : Int), 0) :: ((List.range N).map fun i => (-(c (i + 1) : Int), ((i + 1 : Nat) : Int))).map pd) = some (pq (-(c 0 : Int), 0) :: ((List.range N).map fun i => (-(c (i + 1) : Int), ((i + 1 : Nat) : Int))).map pq) := toPs_pd ((-(c 0 : Int), 0) :: (List.range N).map fun i => (-(c (i + 1) : Int), ((i + 1 : Nat) : Int)))
  have a := alikeB_pq ((-(c 0 : Int), 0) :: (List.range N).map fun i => (-(c (i + 1) : Int), ((i + 1 : Nat) : Int)))
  have dp := depth_pqs ((-(c 0 : Int), 0) :: (List.range N).map fun i => (-(c (i + 1) : Int), ((i + 1 : Nat) : Int)))
  rw [List.map_cons] at a dp
  dsimp only
  rw [t]
  dsimp only
  rw [if_pos (by rw [a, Bool.true_and, decide_eq_true_eq]; exact Nat.le_trans dp (by decide))]
  rw [List.map_map]
  have h4' : PySem.W.minD (pq (-(c 0 : Int), 0)) ((List.range N).map (pq ∘ fun i => (-(c (i + 1) : Int), ((i + 1 : Nat) : Int)))) = pq (-(c b : Int), (b : Int)) := h4
  rw [h4', ofP_toP (pd (-(c b : Int), (b : Int))) _ (toP_pd _)]
  rfl
end PP

set_option Elab.async false
set_option linter.all false
set_option maxRecDepth 100000
/-! More rules of the walk: what a call raises, told. -/
namespace PP
open PySem L2
/-- what is told of a call -/
def KsaidE (say : Did → Option (Fl × D)) (Q : Cont R) (ρ : PP.Env) : Prop := Kop (say .ok) Q ρ
@[simp] theorem KsaidE_ap {say : Did → Option (Fl × D)} {Q : Cont R} {ρ : PP.Env} : KsaidE say Q ρ = Kop (say .ok) Q ρ := nr rfl
def Ksaid (r : FRes) (say : Did → Option (Fl × D)) (ags : List Ag) (ρ : PP.Env) (Q : Cont R) : Prop := match r with
  | .ok fl d back => Kopt (giveBack ags back ρ) (KsaidE say Q)
  | .exc c p => Kop (say (.exc c p)) Q ρ
  | .bad => False
@[simp] theorem Ksaid_ok {fl : Fl} {d : D} {back : List (Fl × D)} {say : Did → Option (Fl × D)} {ags : List Ag} {ρ : PP.Env} {Q : Cont R} : Ksaid (.ok fl d back) say ags ρ Q = Kopt (giveBack ags back ρ) (KsaidE say Q) := nr rfl
@[simp] theorem Ksaid_exc {c : Nat} {p : Option D} {say : Did → Option (Fl × D)} {ags : List Ag} {ρ : PP.Env} {Q : Cont R} : Ksaid (.exc c p) say ags ρ Q = Kop (say (.exc c p)) Q ρ := nr rfl
def KsaidF (f : FM) (say : Did → Option (Fl × D)) (Q : Cont R) (ags : List Ag) (ρ : PP.Env) : Prop := Ksaid (f (ags.map fun a => (a.fl, a.d))) say ags ρ Q
@[simp] theorem KsaidF_ap {f : FM} {say : Did → Option (Fl × D)} {Q : Cont R} {ags : List Ag} {ρ : PP.Env} : KsaidF f say Q ags ρ = Ksaid (f (ags.map fun a => (a.fl, a.d))) say ags ρ Q := nr rfl
/-- a call's arguments raise nothing -/
theorem Wr_said {f : FM} {say : Did → Option (Fl × D)} {as : M (List Ag)} {ρ : PP.Env} {Q : Cont R} (h : Wr (as ρ) (KsaidF f say Q)) : Wr (mSaid say (mCall f as) ρ) Q := by
  obtain ⟨ags, ρ', e, h⟩ := h.ex
  rw [mSaid_ap, mCall_ap, e]
  unfold KsaidF at h
  dsimp only
  cases hf : f (ags.map fun a => (a.fl, a.d)) with
  | ok fl d back =>
    rw [hf] at h
    dsimp only [Ksaid] at h ⊢
    cases hg : giveBack ags back ρ' with
    | none => rw [hg] at h; exact h.elim
    | some ρ2 =>
      rw [hg] at h
      dsimp only [Kopt, KsaidE] at h ⊢
      cases hs : say .ok with
      | none => rw [hs] at h; exact h.elim
      | some x => rw [hs] at h; exact h
  | exc c p =>
    rw [hf] at h
    dsimp only [Ksaid] at h ⊢
    cases hs : say (.exc c p) with
    | none => rw [hs] at h; exact h.elim
    | some x => rw [hs] at h; exact h
  | bad => rw [hf] at h; exact h.elim
@[simp ↓] theorem Wr_saidF {f : FM} {say : Did → Option (Fl × D)} {as : M (List Ag)} {ρ : PP.Env} {Q : Cont R} : Wr (mSaidF say f as ρ) Q = Wr (as ρ) (KsaidF f say Q) := by
  unfold mSaidF
  cases e : as ρ with
  | ok ags ρ' =>
    refine propext ⟨fun h => ?_, fun h => Wr_said (by rw [e]; exact h)⟩
    dsimp only at h
    rw [mSaid_ap, mCall_ap, e] at h
    unfold Wr KsaidF
    dsimp only at h ⊢
    cases hf : f (ags.map fun a => (a.fl, a.d)) with
    | ok fl d back =>
      rw [hf] at h
      dsimp only [Ksaid] at h ⊢
      cases hg : giveBack ags back ρ' with
      | none => rw [hg] at h; exact h
      | some ρ2 =>
        rw [hg] at h
        dsimp only [Kopt, KsaidE] at h ⊢
        cases hs : say .ok with
        | none => rw [hs] at h; exact h.elim
        | some x => rw [hs] at h; exact h
    | exc c p =>
      rw [hf] at h
      dsimp only [Ksaid] at h ⊢
      cases hs : say (.exc c p) with
      | none => rw [hs] at h; exact h.elim
      | some x => rw [hs] at h; exact h
    | bad => rw [hf] at h; exact h
  | exc c p ρ' => rfl
  | bad => rfl
theorem seq_assoc (a b c : M PP.Flow) : sSeq (sSeq a b) c = sSeq a (sSeq b c) := by
  funext ρ
  unfold sSeq bnd
  cases a ρ with
  | ok f ρ' => cases f <;> rfl
  | exc _ _ _ => rfl
  | bad => rfl
theorem newK (ρ : PP.Env) : mNewK ρ = .ok (.v .ow (.dK [])) ρ := nr rfl
theorem wr_eq {α : Type} {r : Res α} {v : α} {ρ : PP.Env} (w : Wr r fun a ρ' => a = v ∧ ρ' = ρ) : r = .ok v ρ := by
  obtain ⟨a, ρ', e, rfl, rfl⟩ := w.ex
  exact e
end PP

set_option Elab.async false
set_option linter.all false
set_option maxRecDepth 100000
/-! Plain: dicts as lots of numbers; dict comprehensions by rules of the walk. -/
namespace PP
open PySem L2
/-- a key that is there -/
def kT (k : Int) : Key × D := (.inl k, .bl true)
def addK (js : List Int) (k : Int) : List Int := if k ∈ js then js else js ++ [k]
/-- the numbers, each once, as they come -/
def uq (l : List Int) : List Int := l.foldl addK []
theorem put_kT (js : List Int) (k : Int) : putD (js.map kT) (.inl k) (.bl true) = (addK js k).map kT := by
  unfold putD addK
  have e : ((js.map kT).any fun kv => decide (kv.1 = (.inl k : Key))) = decide (k ∈ js) := by
    rw [List.any_map]
    induction js with
    | nil => simp
    | cons j js ih =>
      rw [List.any_cons, ih]
      by_cases h : j = k
      · subst h; simp [kT]
      · have : ¬ k = j := fun z => h z.symm
        simp [kT, h, this]
  rw [e]
  by_cases h : k ∈ js
  · rw [if_pos (by simpa using h), if_pos h, List.map_map]
    apply List.map_congr_left
    intro j _
    by_cases z : j = k
    · subst z; simp [kT]
    · simp [kT, z]
  · rw [if_neg (by simpa using h), if_neg h, List.map_append]
    rfl
theorem put_kTs : ∀ (ks js : List Int), (ks.map kT).foldl (fun acc kv => putD acc kv.1 kv.2) (js.map kT) = (ks.foldl addK js).map kT
  | [], js => rfl
  | k :: ks, js => by
    rw [List.map_cons, List.foldl_cons, List.foldl_cons]
    show (ks.map kT).foldl _ (putD (js.map kT) (.inl k) (.bl true)) = _
    rw [put_kT, put_kTs ks]
theorem mem_adds : ∀ (ks js : List Int) (x : Int), x ∈ ks.foldl addK js ↔ x ∈ js ∨ x ∈ ks
  | [], js, x => by simp
  | k :: ks, js, x => by
    rw [List.foldl_cons, mem_adds ks]
    unfold addK
    split
    · rename_i h
      simp only [List.mem_cons]
      constructor
      · rintro (z | z)
        · exact .inl z
        · exact .inr (.inr z)
      · rintro (z | rfl | z)
        · exact .inl z
        · exact .inl h
        · exact .inr z
    · simp only [List.mem_append, List.mem_singleton, List.mem_cons, or_assoc, List.not_mem_nil, false_or]
theorem nodup_adds : ∀ (ks js : List Int), js.Nodup → (ks.foldl addK js).Nodup
  | [], js, h => h
  | k :: ks, js, h => by
    rw [List.foldl_cons]
    refine nodup_adds ks _ ?_
    unfold addK
    split
    · exact h
    · rename_i hk
      rw [List.nodup_append]
      refine ⟨h, by simp, fun a ha b hb => ?_⟩
      rw [List.mem_singleton] at hb
      subst hb
      exact fun z => hk (z ▸ ha)
theorem len_adds : ∀ (ks js : List Int), (ks.foldl addK js).length ≤ js.length + ks.length
  | [], js => by simp
  | k :: ks, js => by
    rw [List.foldl_cons]
    have := len_adds ks (addK js k)
    have h : (addK js k).length ≤ js.length + 1 := by unfold addK; split <;> simp
    simp only [List.length_cons]
    omega
theorem mem_uq {l : List Int} {x : Int} : x ∈ uq l ↔ x ∈ l := by simp [uq, mem_adds]
theorem nodup_uq (l : List Int) : (uq l).Nodup := nodup_adds l [] List.nodup_nil
theorem len_uq (l : List Int) : (uq l).length ≤ l.length := by have := len_adds l []; simpa [uq] using this
theorem intKeys_kT : ∀ l : List Int, intKeys (l.map kT) = some l
  | [] => rfl
  | k :: l => by
    show (match intKeys (l.map kT) with | some is => some (k :: is) | none => none) = _
    rw [intKeys_kT l]
theorem sortedKD_kT {l : List Int} (h : l.length < 64) : sortedKD (.dK (l.map kT)) = some (.ow, .lst ((sortI l).map D.int)) := by
  simp only [sortedKD, intKeys_kT, h, if_true]
/-- a pair that makes a key -/
def pT (k : Int) : D := .tup [.int k, .bl true]
theorem pairsOf_pT : ∀ l : List Int, pairsOf (l.map pT) = some (l.map kT)
  | [] => rfl
  | k :: l => by
    show (match keyOf (.int k), pairsOf (l.map pT) with | some k, some r => some ((k, D.bl true) :: r) | _, _ => none) = _
    rw [pairsOf_pT l]
    rfl
theorem dictPD_pT (l : List Int) : dictPD (.lst (l.map pT)) = some (.ow, .dK ((uq l).map kT)) := by
  unfold dictPD
  dsimp only
  rw [pairsOf_pT]
  have := put_kTs l []
  rw [List.map_nil] at this
  simp only [Option.map_some, this]
  rfl
theorem natsOf : ∀ l : List Int, (∀ x ∈ l, 0 ≤ x) → ∃ m : List Nat, l = m.map fun x : Nat => (x : Int)
  | [], _ => ⟨[], rfl⟩
  | x :: l, h => by
    obtain ⟨m, e⟩ := natsOf l fun y hy => h y (List.mem_cons_of_mem _ hy)
    have := h x List.mem_cons_self
    exact ⟨x.toNat :: m, by rw [List.map_cons, ← e, show ((x.toNat : Nat) : Int) = x by omega]⟩
/-- numbers in order, each once -/
theorem sorted_nats (l : List Nat) : ∃ m : List Nat, sortI (uq (l.map fun x : Nat => (x : Int))) = m.map (fun x : Nat => (x : Int)) ∧ (∀ x, x ∈ m ↔ x ∈ l) ∧ m.Nodup ∧ m.Pairwise (· ≤ ·) ∧ m.length ≤ l.length := by
  have p := sortI_perm (uq (l.map fun x : Nat => (x : Int)))
  have s := sortI_sorted (uq (l.map fun x : Nat => (x : Int)))
  have hm : ∀ x, x ∈ sortI (uq (l.map fun x : Nat => (x : Int))) ↔ x ∈ l.map fun x : Nat => (x : Int) := fun x => by rw [p.mem_iff, mem_uq]
  obtain ⟨m, e⟩ := natsOf (sortI (uq (l.map fun x : Nat => (x : Int)))) fun x hx => by
    obtain ⟨y, _, rfl⟩ := List.mem_map.1 ((hm x).1 hx)
    omega
  have nd := p.nodup_iff.2 (nodup_uq _)
  have ln := p.length_eq
  rw [e] at s hm nd ln
  refine ⟨m, e, fun x => ?_, ?_, ?_, ?_⟩
  · have := hm (x : Int)
    constructor
    · intro h
      obtain ⟨y, hy, ey⟩ := List.mem_map.1 (this.1 (List.mem_map.2 ⟨x, h, rfl⟩))
      rwa [← Int.ofNat.inj ey]
    · intro h
      obtain ⟨y, hy, ey⟩ := List.mem_map.1 (this.2 (List.mem_map.2 ⟨x, h, rfl⟩))
      rwa [← Int.ofNat.inj ey]
  · exact List.Pairwise.of_map _ (fun a b h z => h (by rw [z])) nd
  · refine List.Pairwise.of_map (fun x : Nat => (x : Int)) (fun a b h => ?_) s
    have h : (a : Int) ≤ b := h
    omega
  · rw [List.length_map] at ln
    have := len_uq (l.map fun x : Nat => (x : Int))
    rw [List.length_map] at this
    omega
/-! dict comprehensions -/
def KcompKE (vs : List Nat) (ρ0 : PP.Env) (Q : Cont R) (acc : List (Key × D)) (ρ : PP.Env) : Prop := Q (.v .ow (.dK acc)) (restore ρ0 vs ρ)
@[simp] theorem KcompKE_ap {vs : List Nat} {ρ0 ρ : PP.Env} {Q : Cont R} {acc : List (Key × D)} : KcompKE vs ρ0 Q acc ρ = Q (.v .ow (.dK acc)) (restore ρ0 vs ρ) := nr rfl
def KcompK (vs : List Nat) (g : Tg) (c : M Bool) (ek ev : M R) (Q : Cont R) (ds : List D) (ρ : PP.Env) : Prop := Wr (loopK vs g c ek ev ds [] (wipeE ρ vs)) (KcompKE vs ρ Q)
@[simp] theorem KcompK_ap {vs : List Nat} {g : Tg} {c : M Bool} {ek ev : M R} {Q : Cont R} {ds : List D} {ρ : PP.Env} : KcompK vs g c ek ev Q ds ρ = Wr (loopK vs g c ek ev ds [] (wipeE ρ vs)) (KcompKE vs ρ Q) := nr rfl
@[simp ↓] theorem Wr_compK {vs : List Nat} {it : M (List D)} {g : Tg} {c : M Bool} {ek ev : M R} {Q : Cont R} {ρ : PP.Env} : Wr (mCompK vs it g c ek ev ρ) Q = Wr (it ρ) (KcompK vs g c ek ev Q) := by
  unfold mCompK
  rw [bnd_ap]
  cases it ρ with
  | ok ds ρ0 => dsimp only [Wr, KcompK]; cases loopK vs g c ek ev ds [] (wipeE ρ0 vs) <;> rfl
  | exc c p ρ => rfl
  | bad => rfl
theorem loopK_gen {γ : Type} (en : γ → D) (st : γ → PP.Env) {vs : List Nat} {g : Tg} {c : M Bool} {ek ev : M R} {p : γ → Bool} {f : γ → Int} {ρ : PP.Env} : ∀ (l : List γ) (js : List Int),
    (∀ x ∈ l, g (en x) ρ = .ok () (st x) ∧ wipeE (st x) vs = ρ ∧ c (st x) = .ok (p x) (st x) ∧ (p x = true → (∃ fl, ek (st x) = .ok (.v fl (.int (f x))) (st x)) ∧ ∃ fl, ev (st x) = .ok (.v fl (.bl true)) (st x))) → js.length + l.length ≤ sizeLine →
    loopK vs g c ek ev (l.map en) (js.map kT) ρ = .ok ((((l.filter p).map f).foldl addK js).map kT) ρ
  | [], js, _, _ => rfl
  | d :: ds, js, h, hz => by
    obtain ⟨hg, hw, hc, he⟩ := h d List.mem_cons_self
    have hz' : js.length + (ds.length + 1) ≤ sizeLine := by simpa using hz
    show (match g (en d) ρ with
      | .ok _ ρ1 => (match c ρ1 with
        | .ok true ρ2 => (match ek ρ2 with
          | .ok (.v _ kd) ρ3 => (match keyOf kd with
            | some k => (match ev ρ3 with
              | .ok (.v _ y) ρ4 => if (js.map kT).length < sizeLine then loopK vs g c ek ev (ds.map en) (putD (js.map kT) k y) (wipeE ρ4 vs) else .bad
              | _ => .bad)
            | none => .bad)
          | _ => .bad)
        | .ok false ρ2 => loopK vs g c ek ev (ds.map en) (js.map kT) (wipeE ρ2 vs)
        | _ => .bad)
      | _ => Res.bad) = _
    rw [hg]
    dsimp only
    rw [hc]
    cases hp : p d with
    | false =>
      dsimp only
      rw [hw, loopK_gen en st ds js (fun x hx => h x (List.mem_cons_of_mem _ hx)) (by omega), List.filter_cons_of_neg (by rw [hp]; exact Bool.false_ne_true)]
    | true =>
      obtain ⟨⟨fl, h1⟩, fl2, h2⟩ := he hp
      dsimp only
      rw [h1]
      dsimp only [keyOf]
      rw [h2]
      dsimp only
      have hl : (addK js (f d)).length ≤ js.length + 1 := by unfold addK; split <;> simp
      rw [if_pos (by rw [List.length_map]; omega), hw, put_kT, loopK_gen en st ds (addK js (f d)) (fun x hx => h x (List.mem_cons_of_mem _ hx)) (by omega), List.filter_cons_of_pos hp, List.map_cons, List.foldl_cons]
/-- {f x: True for x in l if p x} -/
theorem W_genK {γ : Type} {ρ : PP.Env} (en : γ → D) (st : γ → PP.Env) {vs : List Nat} {g : Tg} {c : M Bool} {ek ev : M R} (p : γ → Bool) (f : γ → Int) {l : List γ} {Q : Cont (List (Key × D))} (hz : l.length ≤ sizeLine)
    (h : ∀ x ∈ l, g (en x) ρ = .ok () (st x) ∧ wipeE (st x) vs = ρ ∧ c (st x) = .ok (p x) (st x) ∧ (p x = true → (∃ fl, ek (st x) = .ok (.v fl (.int (f x))) (st x)) ∧ ∃ fl, ev (st x) = .ok (.v fl (.bl true)) (st x)))
    (q : Q ((uq ((l.filter p).map f)).map kT) ρ) : Wr (loopK vs g c ek ev (l.map en) [] ρ) Q := by
  have e := loopK_gen en st (p := p) (f := f) l [] h (by simpa using hz)
  rw [List.map_nil] at e
  rw [e]
  exact q
/-- over more of them -/
theorem updateD_kT {js ks : List Int} (h : js.length + ks.length ≤ sizeLine) : updateD (.dK (js.map kT)) [.dK (ks.map kT)] = some (.dK ((ks.foldl addK js).map kT), .non) := by
  unfold updateD
  dsimp only
  rw [if_pos (by simpa using h), put_kTs]
end PP

set_option Elab.async false
set_option linter.all false
set_option maxRecDepth 100000
/-! More rules of the walk: zip, xs[k] += e, lists of a range. -/
namespace PP
open PySem L2
/-! zip -/
def zipOf (x y : D) : Option (List D) := match x, y with
  | .lst xs, .lst ys => some (zipD xs ys)
  | .tup xs, .tup ys => some (zipD xs ys)
  | _, _ => none
@[simp] theorem zipOf_lst (xs ys : List D) : zipOf (.lst xs) (.lst ys) = some (zipD xs ys) := nr rfl
@[simp] theorem zipOf_tup (xs ys : List D) : zipOf (.tup xs) (.tup ys) = some (zipD xs ys) := nr rfl
def Kzip2 (x : D) (Q : Cont (List D)) (r : R) (ρ : PP.Env) : Prop := match r with
  | .v _ y => Kopt (zipOf x y) (Kat Q ρ)
  | .s _ => False
@[simp] theorem Kzip2_v {x y : D} {fl : Fl} {Q : Cont (List D)} {ρ : PP.Env} : Kzip2 x Q (.v fl y) ρ = Kopt (zipOf x y) (Kat Q ρ) := nr rfl
def Kzip (b : M R) (Q : Cont (List D)) (r : R) (ρ : PP.Env) : Prop := match r with
  | .v _ x => Wr (b ρ) (Kzip2 x Q)
  | .s _ => False
@[simp] theorem Kzip_v {b : M R} {x : D} {fl : Fl} {Q : Cont (List D)} {ρ : PP.Env} : Kzip b Q (.v fl x) ρ = Wr (b ρ) (Kzip2 x Q) := nr rfl
@[simp ↓] theorem Wr_zip {a b : M R} {Q : Cont (List D)} {ρ : PP.Env} : Wr (iZip a b ρ) Q = Wr (a ρ) (Kzip b Q) := by
  unfold iZip
  rw [bnd_ap]
  cases a ρ with
  | ok ra ρ1 =>
    cases ra with
    | s i => rfl
    | v fl x =>
      dsimp only [Wr, Kzip]
      rw [bnd_ap]
      cases b ρ1 with
      | ok rb ρ2 =>
        cases rb with
        | s i => rfl
        | v fl2 y => cases x <;> cases y <;> rfl
      | exc c p ρ => rfl
      | bad => rfl
  | exc c p ρ => rfl
  | bad => rfl
/-! xs[k] += e -/
def KaugE (i : Nat) (j : Int) (a : Int) (Q : Cont PP.Flow) (r : R) (ρ : PP.Env) : Prop := ∃ y fl es, deref ρ r = some (.int y) ∧ ρ[i]? = some (some (fl, .lst es)) ∧ fl.own = true ∧ j.toNat < es.length ∧ Q .nx (ρ.set i (some (fl, .lst (es.set j.toNat (.int (a + y))))))
def KaugK (i : Nat) (me : M R) (Q : Cont PP.Flow) (r : R) (ρ : PP.Env) : Prop := ∃ j fl ds a, deref ρ r = some (.int j) ∧ ρ[i]? = some (some (fl, .lst ds)) ∧ 0 ≤ j ∧ ds[j.toNat]? = some (.int a) ∧ Wr (me ρ) (KaugE i j a Q)
theorem Wr_augS {i : Nat} {mk me : M R} {Q : Cont PP.Flow} {ρ : PP.Env} (h : Wr (mk ρ) (KaugK i me Q)) (hs : ∃ s, ρ[i]? = some (some s)) : Wr (sAugS i mk me ρ) Q := by
  obtain ⟨s, hs⟩ := hs
  obtain ⟨rk, ρ1, e1, j, fl, ds, a, h1, h2, h3, h4, h5⟩ := h.ex
  obtain ⟨re, ρ2, e2, y, fl2, es, k1, k2, k3, k4, k5⟩ := h5.ex
  have e : sAugS i mk me ρ = .ok .nx (ρ2.set i (some (fl2, .lst (es.set j.toNat (.int (a + y)))))) := by
    unfold sAugS
    rw [hs]
    dsimp only
    rw [bnd_ap, e1]
    dsimp only
    rw [h1, h2]
    dsimp only
    rw [if_pos h3, h4]
    dsimp only
    rw [bnd_ap, e2]
    dsimp only
    rw [k1, k2]
    dsimp only
    rw [if_pos ⟨k3, k4⟩]
  rw [e]
  exact k5
@[simp] theorem popD_snoc (ds : List D) (d : D) : popD (.lst (ds ++ [d])) [] = some (.lst ds, d) := by
  unfold popD
  simp
theorem zipD_map {γ δ : Type} (en : γ → D) (em : δ → D) : ∀ (l : List γ) (m : List δ), zipD (l.map en) (m.map em) = (l.zip m).map fun p => .tup [en p.1, em p.2]
  | [], m => by simp [zipD]
  | x :: l, [] => by simp [zipD]
  | x :: l, y :: m => by
    have := zipD_map en em l m
    unfold zipD at this ⊢
    simp only [List.map_cons, List.zipWith_cons_cons, List.zip_cons_cons, this]
end PP

set_option Elab.async false
set_option linter.all false
set_option maxRecDepth 100000
/-! Parts: how many, walked. -/
namespace PF
open PySem L2 PP
def D_raw_with_most : M PP.Flow :=
    (sSeq (sSet 2 (mOp2 addD (mLst (mCons (mC (.int 1)) mNil)) (mOp2 repL (mLst (mCons (mC (.int 0)) mNil)) (mB 0))))
    (sSeq (sFor (iRg2 (mC (.int 1)) (mOp2 addD (mOp2 min2I (mB 1) (mB 0)) (mC (.int 1)))) (gV 3) (sFor (iRg2 (mB 3) (mOp2 addD (mB 0) (mC (.int 1)))) (gV 4) (sAugS 2 (mB 4) (mOp2 ixD (mB 2) (mOp2 subI (mB 4) (mB 3))))))
    (sRet (mOp2 ixD (mB 2) (mB 0)))))
def F_raw_with_most : FM := runF 2 5 D_raw_with_most
theorem min_cast (k n : Nat) : (if (n : Int) < (k : Int) then (n : Int) else (k : Int)) = (min k n : Nat) := by split <;> omega
theorem min_cast' (k n : Nat) : (if n < k then (n : Int) else (k : Int)) = (min k n : Nat) := by split <;> omega
/-- a row of numbers -/
def rowD (n : Nat) (f : Nat → Nat) : List D := (List.range n).map fun v => nD (f v)
theorem rowD_len (n : Nat) (f : Nat → Nat) : (rowD n f).length = n := by simp [rowD]
theorem rowD_get {n v : Nat} (f : Nat → Nat) (h : v < n) : (rowD n f)[v]? = some (nD (f v)) := by simp [rowD, h]
theorem rowD_at {n v : Nat} (f : Nat → Nat) (h : v < n) : atD (rowD n f) (v : Int) = some (nD (f v)) := by
  unfold atD atI ixN
  rw [if_pos (by omega), if_pos (by rw [rowD_len]; omega)]
  simpa using rowD_get f h
theorem rowD_congr {n : Nat} {f g : Nat → Nat} (h : ∀ v, v < n → f v = g v) : rowD n f = rowD n g := by
  apply List.map_congr_left
  intro v hv
  rw [h v (List.mem_range.1 hv)]
theorem rowD_set {n w : Nat} (f : Nat → Nat) (x : Nat) : (rowD n f).set w (nD x) = rowD n fun v => if v = w then x else f v := by
  apply List.ext_getElem?
  intro i
  unfold rowD
  rw [List.getElem?_set, List.getElem?_map, List.getElem?_map]
  by_cases z : i < n
  · rw [List.getElem?_range z]
    by_cases q : w = i
    · subst q; simp [z]
    · have : ¬ i = w := fun y => q y.symm
      simp [q, this]
  · rw [List.getElem?_eq_none (by simpa using z)]
    by_cases q : w = i
    · subst q; simp [z]
    · simp [q]
theorem row0 (n : Nat) : ([.int 1] ++ (List.replicate n ([.int 0] : List D)).flatten : List D) = rowD (n + 1) fun w => pm w 0 := by
  unfold rowD
  rw [List.range_succ_eq_map, List.map_cons, List.map_map]
  have : (List.replicate n ([.int 0] : List D)).flatten = (List.range n).map ((fun v => nD (pm v 0)) ∘ Nat.succ) := by
    apply List.ext_getElem?
    intro i
    have e : (List.replicate n ([.int 0] : List D)).flatten = List.replicate n (.int 0) := by
      induction n with
      | zero => rfl
      | succ n ih => rw [List.replicate_succ, List.flatten_cons, ih]; rfl
    rw [e, List.getElem?_replicate, List.getElem?_map]
    by_cases z : i < n
    · rw [if_pos z, List.getElem?_range z]
      simp [pm_0, nD]
    · rw [if_neg z, List.getElem?_eq_none (by simpa using z)]
      rfl
  rw [this]
  simp [pm_0, nD]
/-- between two parts -/
def mid (p w v : Nat) : Nat := if v < w then pm v (p + 1) else pm v p
theorem mid_0 (p v : Nat) : mid p (p + 1) v = pm v p := by
  unfold mid
  by_cases h : v < p + 1
  · rw [if_pos h, pm_s, if_neg (by omega)]; rfl
  · rw [if_neg h]
theorem mid_s (p w v : Nat) : (if v = w then pm w (p + 1) else mid p w v) = mid p (w + 1) v := by
  unfold mid
  by_cases h : v = w
  · subst h; rw [if_pos rfl, if_pos (by omega)]
  · rw [if_neg h]
    by_cases g : v < w
    · rw [if_pos g, if_pos (by omega)]
    · rw [if_neg g, if_neg (by omega)]
theorem with_most_ok {n k : Nat} (hn : n ≤ 1000) (hk : k ≤ 1000) : F_raw_with_most [(.sh, .int n), (.sh, .int k)] = .ok .sh (.int (pm n k)) [] := by
  refine run_w rfl ?_
  unfold D_raw_with_most
  have rp : repL (.lst [.int 0]) (.int n) = some (.ow, .lst (List.replicate n (.int 0))) := by
    unfold repL
    simp [sizeLine_eq]
    omega
  have r0 : (D.int 1 :: List.replicate n (D.int 0)) = rowD (n + 1) fun w => pm w 0 := by
    have := row0 n
    simpa using this
  have rg : ((min k n : Nat) : Int) + 1 - 1 = (min k n : Nat) := by omega
  simp [entry, sizeLine_eq, rp, show 1 + n ≤ 16777216 by omega, r0, min_cast', small62_eq]
  refine ⟨by omega, ?_⟩
  refine W_range (fun j ρ => ∃ s3 s4, ρ = [some (.sh, .int n), some (.sh, .int k), some (.ow, .lst (rowD (n + 1) fun w => pm w j)), s3, s4]) ⟨none, none, rfl⟩ (fun I hI j ρ hj ⟨s3, s4, e⟩ => ?_) (fun ρ ⟨s3, s4, e⟩ => ?_)
  · subst e
    have hj : j < min k n := by omega
    have rg2 : ((n : Int) + 1 - (1 + j)).toNat = n - j := by omega
    simp [small62_eq, rg2]
    refine ⟨by omega, ?_⟩
    refine W_range (fun i ρ => ∃ s4, ρ = [some (.sh, .int n), some (.sh, .int k), some (.ow, .lst (rowD (n + 1) (mid j (j + 1 + i)))), some (.sh, .int (1 + j)), s4]) ⟨s4, by rw [Nat.add_zero, show mid j (j + 1) = fun w => pm w j from funext (mid_0 j)]⟩ (fun I2 hI2 i ρ hi ⟨s4, e⟩ => ?_) (fun ρ ⟨s4, e⟩ => ?_)
    · subst e
      have e1 : (1 : Int) + j + i = (j + 1 + i : Nat) := by push_cast; omega
      have e2 : (1 : Int) + j + i - (1 + j) = (i : Nat) := by omega
      rw [e1]
      simp
      refine Wr_augS ?_ ⟨_, rfl⟩
      have g1 := rowD_get (mid j (j + 1 + i)) (show j + 1 + i < n + 1 by omega)
      have g2 := rowD_at (mid j (j + 1 + i)) (show i < n + 1 by omega)
      have m1 : mid j (j + 1 + i) i = pm i (j + 1) := by unfold mid; rw [if_pos (by omega)]
      have m2 : mid j (j + 1 + i) (j + 1 + i) = pm (j + 1 + i) j := by unfold mid; rw [if_neg (by omega)]
      rw [m1] at g2
      rw [m2] at g1
      have ps := pm_s (j + 1 + i) j
      rw [if_pos (by omega), show j + 1 + i - (j + 1) = i by omega] at ps
      simp
      refine ⟨(j + 1 + i : Nat), .ow, _, _, by simp, rfl, by omega, by rw [Int.toNat_natCast]; exact g1, ?_⟩
      have e3 : ((j : Int) + 1 + i - (1 + j)) = (i : Nat) := by omega
      simp
      rw [e3, g2]
      simp [nD]
      refine ⟨_, .ow, _, rfl, rfl, rfl, by rw [rowD_len]; omega, ?_⟩
      simp
      refine hI2 ⟨some (.sh, .int (j + 1 + i : Nat)), ?_⟩
      have st := rowD_set (n := n + 1) (w := j + 1 + i) (mid j (j + 1 + i)) (pm (j + 1 + i) (j + 1))
      have e4 : ((pm (j + 1 + i) j : Nat) : Int) + (pm i (j + 1) : Nat) = (pm (j + 1 + i) (j + 1) : Nat) := by rw [ps]; push_cast; rfl
      rw [show (.int ((pm (j + 1 + i) j : Nat) + (pm i (j + 1) : Nat)) : D) = nD (pm (j + 1 + i) (j + 1)) from congrArg D.int e4, show ((j : Int) + 1 + i).toNat = j + 1 + i by omega, st, show (fun v => if v = j + 1 + i then pm (j + 1 + i) (j + 1) else mid j (j + 1 + i) v) = mid j (j + 1 + (i + 1)) from funext fun v => mid_s j (j + 1 + i) v]
      simp
    · subst e
      refine hI ⟨some (.sh, .int (1 + j)), s4, ?_⟩
      have : rowD (n + 1) (mid j (j + 1 + (n - j))) = rowD (n + 1) fun w => pm w (j + 1) := rowD_congr fun v hv => by unfold mid; rw [if_pos (by omega)]
      rw [this]
  · subst e
    have g := rowD_at (n := n + 1) (v := n) (fun w => pm w (min k n)) (by omega)
    have e : ((min k n : Nat) : Int) + 1 - 1 = (min k n : Nat) := by omega
    simp only [pm_min] at g
    simp [g, nD, pm_min]
end PF

set_option Elab.async false
set_option linter.all false
set_option maxRecDepth 100000
/-! Parts: looked at, numbered, turned; walked. -/
namespace PF
open PySem L2 PP
def D_is_integer : M PP.Flow :=
    (sRet (mAndV (mOp1 (isiD .int) (mB 0)) (mNotV (mOp1 (isiD .bool) (mB 0)))))
def F_is_integer : FM := runF 1 1 D_is_integer
def D_is_within : M PP.Flow :=
    (sRet (mAndV (mCall F_is_integer (aVal (mV 0) aNil)) (mChain cLe cLe (mB 1) (mB 0) (mB 2))))
def F_is_within : FM := runF 3 3 D_is_within
theorem within_int (i a b : Int) : F_is_within [(.sh, .int i), (.sh, .int a), (.sh, .int b)] = .ok .sh (.bl (decide (a ≤ i ∧ i ≤ b))) [] := by
  simp [F_is_within, runF_def, D_is_within, entry, F_is_integer, D_is_integer, runF_def, isiD]
  by_cases h : a ≤ i <;> simp [h]
def D_is_parts : M PP.Flow :=
    (sSeq (sIf (mOr (mNot (mTru (mOp1 (isiD .tuple) (mB 0)))) (mTst (mOp2 gtI (mOp1 lenD (mB 0)) (mC (.int 60))))) (sRet (mC (.bl false))) sNil)
    (sSeq (sIf (mNot (mTru (mOp1 allD (mComp [1] (iSeq (mV 0)) (gV 1) cYes (mCall F_is_within (aVal (mV 1) (aVal (mC (.int 1)) (aVal (mC (.int 60)) aNil)))))))) (sRet (mC (.bl false))) sNil)
    (sRet (mAndV (mOp2 leI (mOp1 sumGD (mB 0)) (mC (.int 60))) (mOp1 allD (mComp [1, 2] (iZip (mV 0) (mSlice (mB 0) (some (mC (.int 1))) none)) (gT [(gV 1), (gV 2)]) cYes (mOp2 geI (mB 1) (mB 2))))))))
def F_is_parts : FM := runF 1 3 D_is_parts
def PO (ps : List Nat) : Prop := ps.Pairwise (· ≥ ·) ∧ (∀ x ∈ ps, 1 ≤ x) ∧ ps.sum ≤ 60
theorem PO.le {ps : List Nat} (h : PO ps) : ∀ x ∈ ps, x ≤ 60 := fun x hx => by
  have : ∀ l : List Nat, x ∈ l → x ≤ l.sum := fun l => by
    induction l with
    | nil => intro h; simp at h
    | cons y l ih =>
      intro h
      rw [List.sum_cons]
      rcases List.mem_cons.1 h with rfl | h
      · omega
      · have := ih h; omega
  have := this ps hx
  have := h.2.2
  omega
theorem PO.len {ps : List Nat} (h : PO ps) : ps.length ≤ 60 := by
  have : ∀ l : List Nat, (∀ x ∈ l, 1 ≤ x) → l.length ≤ l.sum := fun l => by
    induction l with
    | nil => intro _; simp
    | cons y l ih =>
      intro h
      have := ih fun x hx => h x (List.mem_cons_of_mem _ hx)
      have := h y List.mem_cons_self
      rw [List.sum_cons, List.length_cons]
      omega
  have := this ps h.2.1
  have := h.2.2
  omega
theorem PO.pt {ps : List Nat} (h : PO ps) : Pt ps.sum ps.sum ps := Pt.of h.1 fun x hx => ⟨h.2.1 x hx, by
  have : ∀ l : List Nat, x ∈ l → x ≤ l.sum := fun l => by
    induction l with
    | nil => intro h; simp at h
    | cons y l ih =>
      intro h
      rw [List.sum_cons]
      rcases List.mem_cons.1 h with rfl | h
      · omega
      · have := ih h; omega
  exact this ps hx⟩
theorem sumGD_tN (l : List Nat) : sumGD (tN l) = some (.sh, .int (l.sum : Nat)) := by
  unfold sumGD tN
  simp only [seqOf, intsOf_nD, Option.map_some, sum_cast]
theorem sumGD_tup (l : List Nat) : sumGD (.tup (l.map nD)) = some (.sh, .int (l.sum : Nat)) := sumGD_tN l
theorem zip_tail : ∀ {l : List Nat}, l.Pairwise (· ≥ ·) → ∀ p ∈ l.zip (l.drop 1), p.1 ≥ p.2
  | [], _, p, hp => by simp at hp
  | [x], _, p, hp => by simp at hp
  | x :: y :: l, h, p, hp => by
    obtain ⟨h1, h2⟩ := List.pairwise_cons.1 h
    simp only [List.drop_succ_cons, List.drop_zero, List.zip_cons_cons] at hp
    rcases List.mem_cons.1 hp with rfl | hp
    · exact h1 y List.mem_cons_self
    · exact zip_tail h2 p (by simpa using hp)
theorem cutD_1 (l : List Nat) : cutD (l.map nD) (some 1) none = (l.drop 1).map nD := by
  have := cut_drop (l.map nD) 1
  rw [show ((1 : Nat) : Int) = 1 from rfl] at this
  rw [this, List.map_drop]
theorem is_parts_ok {ps : List Nat} (h : PO ps) : F_is_parts [(.sh, tN ps)] = .ok .sh (.bl true) [] := by
  refine run_w rfl ?_
  unfold D_is_parts
  have hl := h.len
  have hs := h.2.2
  simp [entry, tN, isiD, show ¬ (60 : Int) < ps.length by omega]
  refine W_map nD (fun _ => .bl true) rfl (by rw [sizeLine_eq]; omega) (fun x hx => ⟨.sh, ?_⟩) ?_
  · have := h.2.1 x hx
    have := h.le x hx
    simp [nD, within_int]
    omega
  · have a1 : allD (.lst (ps.map fun _ => D.bl true)) = some (.sh, .bl true) := by
      have := allD_map (fun _ : Nat => true) ps
      rw [this, List.all_eq_true.2 (by simp)]
    simp [a1, sumGD_tup, show ((ps.sum : Nat) : Int) ≤ 60 by omega, cutD_1, sliceD]
    rw [← List.drop_one, ← List.map_drop, zipD_map]
    refine W_gen (fun p : Nat × Nat => D.tup [nD p.1, nD p.2]) (fun p => [some (.sh, .tup (ps.map nD)), some (.sh, nD p.1), some (.sh, nD p.2)]) (fun _ => true) (fun p => .bl (decide (p.1 ≥ p.2))) (by rw [sizeLine_eq, List.length_zip]; omega) (fun p hp => ⟨by simp, by simp, rfl, fun _ => ⟨.sh, by simp [nD]⟩⟩) ?_
    have a2 := allD_map (fun p : Nat × Nat => decide (p.1 ≥ p.2)) (ps.zip (ps.drop 1))
    have a3 : (ps.zip (ps.drop 1)).all (fun p : Nat × Nat => decide (p.1 ≥ p.2)) = true := by
      rw [List.all_eq_true]
      intro p hp
      simpa using zip_tail h.1 p hp
    rw [List.filter_eq_self.2 (by simp)]
    rw [a3] at a2
    simp only [ge_iff_le, List.drop_one] at a2
    simp [a2]
/-! the place -/
theorem sg_range (n a : Nat) : ∀ d, ((List.range d).map fun i => pm (n - (a + 1 + i)) (a + 1 + i)).sum = sg n a d
  | 0 => rfl
  | d + 1 => by rw [List.range_succ, List.map_append, List.sum_append, sg_range n a d, sg]; simp [show a + 1 + d = a + d + 1 by omega]
@[irreducible] def D_parts_place0 : M PP.Flow := (sSeq (sSet 5 (mListRg (mRng (mOp2 addD (mB 4) (mC (.int 1))) (mOp2 addD (mOp2 min2I (mB 3) (mB 1)) (mC (.int 1))))))
    (sSeq (sSet 2 (mOp2 addD (mB 2) (mOp1 sumD (mComp [6] (iSeq (mV 5)) (gV 6) cYes (mCall F_raw_with_most (aVal (mOp2 subI (mB 1) (mB 6)) (aVal (mV 6) aNil)))))))
    (sPar [1, 3] [(mOp2 subI (mB 1) (mB 4)), (mV 4)])))
theorem rgOk_small {a b : Int} (h1 : -1000 ≤ a) (h2 : a ≤ 1000) (h3 : -1000 ≤ b) (h4 : b ≤ 1000) : rgOk a b = true := by
  unfold rgOk
  rw [small62_eq, small62_eq]
  simp
  omega
/-- one part of the place -/
theorem place_step {n k p f : Nat} (hn : n ≤ 100) (hk : k ≤ 100) (h1 : 1 ≤ p) (h2 : p ≤ k) (h3 : p ≤ n) {s0 s5 s6 : Slot} (h6 : s6 = none) {Q : Cont PP.Flow}
    (H : ∀ s5, Q .nx [s0, some (.sh, .int (n - p : Nat)), some (.sh, .int (f + (pm n k - pm n p) : Nat)), some (.sh, .int p), some (.sh, nD p), s5, none]) :
    Wr (D_parts_place0 [s0, some (.sh, .int n), some (.sh, .int f), some (.sh, .int k), some (.sh, nD p), s5, s6]) Q := by
  subst h6
  unfold D_parts_place0
  have hmin : min k n = min k n := rfl
  generalize hm : min k n = m
  have hpm : p ≤ m := by omega
  have hmn : m ≤ n := by omega
  have tl := tele (n := n) (a := p) (m - p) (by omega)
  rw [show p + (m - p) = m by omega, ← hm, pm_min, hm] at tl
  have sr := sg_range n p (m - p)
  have rg : ((m : Int) + 1 - (p + 1)).toNat = m - p := by omega
  have mc := min_cast k n
  have mc' := min_cast' k n
  rw [hm] at mc mc'
  simp [nD, mc', rgOk_small (a := (p : Int) + 1) (b := (m : Int) + 1) (by omega) (by omega) (by omega) (by omega), rg]
  rw [rngD_eq, List.map_map]
  refine W_map (D.int ∘ fun i : Nat => (p : Int) + 1 + i) (fun i : Nat => nD (pm (n - (p + 1 + i)) (p + 1 + i))) rfl (by rw [sizeLine_eq]; simp; omega) (fun i hi => ?_) ?_
  · have hi : i < m - p := List.mem_range.1 hi
    have e := with_most_ok (n := n - (p + 1 + i)) (k := p + 1 + i) (by omega) (by omega)
    have e1 : (n : Int) - ((p : Int) + 1 + i) = (n - (p + 1 + i) : Nat) := by omega
    have e2 : ((p : Int) + 1 + i) = (p + 1 + i : Nat) := by push_cast; rfl
    refine ⟨.sh, wr_eq ?_⟩
    simp
    rw [e1, e2, e]
    simp [nD]
  · have e := sumD_nD ((List.range (m - p)).map fun i => pm (n - (p + 1 + i)) (p + 1 + i))
    rw [sr, List.map_map] at e
    rw [show ((List.range (m - p)).map fun i : Nat => nD (pm (n - (p + 1 + i)) (p + 1 + i))) = (List.range (m - p)).map (nD ∘ fun i => pm (n - (p + 1 + i)) (p + 1 + i)) from rfl]
    have e3 : (n : Int) - p = (n - p : Nat) := by omega
    simp [e, e3]
    have e4 : f + (pm n k - pm n p) = f + sg n p (m - p) := by omega
    rw [e4] at H
    simpa [nD] using H _
/-! turned -/
theorem cnt_eq (ps : List Nat) (j : Nat) : (ps.filter fun x => decide (1 + j ≤ x)).length = cnt ps j := by
  unfold cnt
  simp only [Nat.add_comm]
theorem cj_map (ps : List Nat) {h : Nat} (e : ps.getD 0 0 = h) : (List.range h).map (fun j => nD (cnt ps j)) = (cj ps).map nD := by
  unfold cj
  rw [e, List.map_map]
  rfl
def D_raw_turned : M PP.Flow :=
    (sSeq (sSet 1 (mIf (mTst (mOp2 gtI (mOp1 lenD (mB 0)) (mC (.int 0)))) (mOp2 ixD (mB 0) (mC (.int 0))) (mC (.int 0))))
    (sRet (mOp1 tupleD (mComp [3] (iRg2 (mC (.int 1)) (mOp2 addD (mB 1) (mC (.int 1)))) (gV 3) cYes (mOp1 lenD (mComp [2] (iSeq (mV 0)) (gV 2) (mTst (mOp2 geI (mB 2) (mB 3))) (mV 2)))))))
def F_raw_turned : FM := runF 1 4 D_raw_turned
theorem turned_ok {ps : List Nat} (h : PO ps) : F_raw_turned [(.sh, tN ps)] = .ok .sh (tN (cj ps)) [] := by
  cases ps with
  | nil => kernel_rfl
  | cons hd l =>
  refine run_w rfl ?_
  unfold D_raw_turned
  have hl := h.len
  have hd60 : hd ≤ 60 := h.le hd List.mem_cons_self
  have cm := cj_map (hd :: l) (h := hd) rfl
  have a0 := at_first (nD hd) (l.map nD)
  have rg : ((hd : Int) + 1 - 1).toNat = hd := by omega
  have e : tN (hd :: l) = .tup (nD hd :: l.map nD) := rfl
  have it : iterD (tN (hd :: l)) = some ((hd :: l).map nD) := rfl
  have ix : ixD (tN (hd :: l)) (.int 0) = some (.sh, .int hd) := by rw [e]; simp only [ixD, a0]; rfl
  have ln : lenD (tN (hd :: l)) = some (.sh, .int ((hd :: l).length : Nat)) := by rw [e]; simp [lenD]
  have lp : (0 : Int) < ((hd :: l).length : Nat) := by simp
  generalize tN (hd :: l) = T at *
  simp only [List.length_cons] at hl
  simp [entry, ln, ix, show (0 : Int) < (l.length : Int) + 1 by omega, small62_eq, rg]
  refine ⟨by omega, ?_⟩
  rw [rngD_eq, List.map_map]
  refine W_map (D.int ∘ fun i : Nat => (1 : Int) + i) (fun j => nD (cnt (hd :: l) j)) rfl (by rw [sizeLine_eq]; simp; omega) (fun j hj => ⟨.sh, wr_eq ?_⟩) ?_
  · simp [it]
    refine W_filt (l := hd :: l) nD (fun x => decide (1 + j ≤ x)) nD rfl (by rw [sizeLine_eq]; simp; omega) (fun x hx => ?_) (fun x hx _ => ⟨.sh, by simp⟩) ?_
    · have : (1 + (j : Int) ≤ x) ↔ 1 + j ≤ x := by omega
      simp [nD, this]
    · have ce := cnt_eq (hd :: l) j
      simp [lenD, ce, nD]
  · rw [cm]
    simp [tN]
def D__law_turned : M PP.Flow :=
    (sRet (mOp1 tupleD (mComp [2] (iRg2 (mC (.int 1)) (mOp2 addD (mOp2 ixD (mB 0) (mC (.int 0))) (mC (.int 1)))) (gV 2) cYes (mOp1 lenD (mComp [1] (iSeq (mV 0)) (gV 1) (mTst (mOp2 geI (mB 1) (mB 2))) (mC (.int 1)))))))
def F__law_turned : FM := runF 1 3 D__law_turned
theorem law_turned_ok {ps : List Nat} (h : PO ps) (h0 : ps ≠ []) : F__law_turned [(.sh, tN ps)] = .ok .sh (tN (cj ps)) [] := by
  refine run_w rfl ?_
  unfold D__law_turned
  have hl := h.len
  obtain ⟨hd, l, rfl⟩ := List.exists_cons_of_ne_nil h0
  have hd60 : hd ≤ 60 := h.le hd List.mem_cons_self
  have cm := cj_map (hd :: l) (h := hd) rfl
  have a0 := at_first (nD hd) (l.map nD)
  have rg : ((hd : Int) + 1 - 1).toNat = hd := by omega
  have e : tN (hd :: l) = .tup (nD hd :: l.map nD) := rfl
  have it : iterD (tN (hd :: l)) = some ((hd :: l).map nD) := rfl
  have ix : ixD (tN (hd :: l)) (.int 0) = some (.sh, .int hd) := by rw [e]; simp only [ixD, a0]; rfl
  generalize tN (hd :: l) = T at *
  simp only [List.length_cons] at hl
  simp [entry, ix, small62_eq, rg]
  refine ⟨by omega, ?_⟩
  rw [rngD_eq, List.map_map]
  refine W_map (D.int ∘ fun i : Nat => (1 : Int) + i) (fun j => nD (cnt (hd :: l) j)) rfl (by rw [sizeLine_eq]; simp; omega) (fun j hj => ⟨.sh, wr_eq ?_⟩) ?_
  · simp [it]
    refine W_filt (l := hd :: l) nD (fun x => decide (1 + j ≤ x)) (fun _ => .int 1) rfl (by rw [sizeLine_eq]; simp; omega) (fun x hx => ?_) (fun x hx _ => ⟨.sh, by simp⟩) ?_
    · have : (1 + (j : Int) ≤ x) ↔ 1 + j ≤ x := by omega
      simp [nD, this]
    · have ce := cnt_eq (hd :: l) j
      simp [lenD, ce, nD]
  · rw [cm]
    simp [tN]
end PF

set_option Elab.async false
set_option linter.all false
set_option maxRecDepth 100000
/-! The law K62: parts, numbered. -/
namespace K62
open PySem L2 PP PF
theorem rm : F_raw_with_most = PF.F_raw_with_most := rfl
theorem ip : F_is_parts = PF.F_is_parts := rfl
theorem iw : F_is_within = PF.F_is_within := rfl
theorem tu : F_raw_turned = PF.F_raw_turned := rfl
theorem lt : F__law_turned = PF.F__law_turned := rfl
theorem check_ok {ps : List Nat} (h : PO ps) : F_check_parts [(.sh, tN ps)] = .ok .sh .non [] := by
  refine run_wn rfl ?_
  unfold D_check_parts
  simp [entry, ip, is_parts_ok h]
theorem number_ok {n : Nat} (h : n ≤ 60) : F_check_number [(.sh, .int n)] = .ok .sh .non [] := by
  refine run_wn rfl ?_
  unfold D_check_number
  simp [entry, iw, within_int, show (n : Int) ≤ 60 by omega]
theorem parts_many_ok {n : Nat} (h : n ≤ 60) : F_parts_many [(.sh, .int n)] = .ok .sh (.int (pm n n)) [] := by
  refine run_w rfl ?_
  unfold D_parts_many
  simp [entry, number_ok h, rm, with_most_ok (n := n) (k := n) (by omega) (by omega)]
/-! the table -/
@[irreducible] def tabD (m : Nat) : D := .lst ((List.range m).map fun n => .lst (rowD 61 (pm n)))
theorem tabD_eq (m : Nat) : tabD m = .lst ((List.range m).map fun n => .lst (rowD 61 (pm n))) := by unfold tabD; rfl
theorem tab_at {m n : Nat} (h : n < m) : atD ((List.range m).map fun n => D.lst (rowD 61 (pm n))) (n : Int) = some (.lst (rowD 61 (pm n))) := by
  unfold atD atI ixN
  rw [if_pos (by omega), if_pos (by simp; omega)]
  simp [h]
theorem rowD_snoc (k : Nat) (f : Nat → Nat) : rowD (k + 1) f ++ [nD (f (k + 1))] = rowD (k + 2) f := by
  unfold rowD
  rw [List.range_succ (n := k + 1), List.map_append]
  rfl
theorem rowD_last (k : Nat) (f : Nat → Nat) : atD (rowD (k + 1) f) (-1) = some (nD (f k)) := by
  unfold rowD
  rw [List.range_succ, List.map_append]
  exact at_last _ _
theorem ones_row : (List.replicate 61 (D.int 1)) = rowD 61 (pm 0) := by
  unfold rowD
  apply List.ext_getElem?
  intro i
  rw [List.getElem?_replicate, List.getElem?_map]
  by_cases z : i < 61
  · rw [if_pos z, List.getElem?_range z]; simp [pm_zero, nD]
  · rw [if_neg z, List.getElem?_eq_none (by simpa using z)]; rfl
def trow : M PP.Flow := (sExp (mMut 3 isLst (mCons (mOp2 addD (mOp2 ixD (mB 3) (mOp1 negI (mC (.int 1)))) (mIf (mTst (mOp2 leI (mB 4) (mB 2))) (mOp2 ixD (mOp2 ixD (mB 1) (mOp2 subI (mB 2) (mB 4))) (mOp2 min2I (mB 4) (mOp2 subI (mB 2) (mB 4)))) (mC (.int 0)))) mNil) appendD))
theorem trow_step {n k : Nat} (hn : n ≤ 60) (hk : k < 60) {vn vk : Int} (en : vn = (n : Nat)) (ek : vk = (k + 1 : Nat)) {s0 : Slot} {Q : Cont PP.Flow}
    (H : Q .nx [s0, some (.ow, tabD n), some (.sh, .int vn), some (.ow, .lst (rowD (k + 2) (pm n))), some (.sh, .int vk)]) :
    Wr (trow [s0, some (.ow, tabD n), some (.sh, .int vn), some (.ow, .lst (rowD (k + 1) (pm n))), some (.sh, .int vk)]) Q := by
  subst en ek
  unfold trow
  have r1 := rowD_last k (pm n)
  have ps := pm_s n k
  have len : (rowD (k + 1) (pm n)).length < sizeLine := by rw [rowD_len, sizeLine_eq]; omega
  have sn := rowD_snoc k (pm n)
  generalize hR : rowD (k + 1) (pm n) = R at *
  by_cases z : k + 1 ≤ n
  · rw [if_pos z] at ps
    have t1 := tab_at (m := n) (n := n - (k + 1)) (by omega)
    have r2 := rowD_at (pm (n - (k + 1))) (show min (k + 1) (n - (k + 1)) < 61 by omega)
    rw [pm_min] at r2
    have e1 : (n : Int) - ((k : Int) + 1) = (n - (k + 1) : Nat) := by omega
    have mc : (if ((n - (k + 1) : Nat) : Int) < (k : Int) + 1 then ((n - (k + 1) : Nat) : Int) else (k : Int) + 1) = (min (k + 1) (n - (k + 1)) : Nat) := by split <;> omega
    have e2 : ((pm n k : Nat) : Int) + (pm (n - (k + 1)) (k + 1) : Nat) = (pm n (k + 1) : Nat) := by rw [ps]; push_cast; rfl
    have sn' : R ++ [.int ((pm n (k + 1) : Nat) : Int)] = rowD (k + 2) (pm n) := sn
    simp [r1, nD, show (k : Int) + 1 ≤ n by omega, tabD_eq, e1, t1, mc, r2, e2, isLst, appendD, len, sn']
    simpa [tabD_eq] using H
  · rw [if_neg z] at ps
    have ps : pm n (k + 1) = pm n k := by omega
    have sn' : R ++ [.int ((pm n k : Nat) : Int)] = rowD (k + 2) (pm n) := by rw [← ps]; exact sn
    simp [r1, nD, show ¬ (k : Int) + 1 ≤ n by omega, isLst, appendD, len, sn']
    simpa using H
theorem tab_snoc (n : Nat) : ((List.range n).map fun n => D.lst (rowD 61 (pm n))) ++ [.lst (rowD 61 (pm n))] = (List.range (n + 1)).map fun n => D.lst (rowD 61 (pm n)) := by
  rw [List.range_succ, List.map_append]
  rfl
theorem table_ok : F__law_table [(.sh, .int 60)] = .ok .ow (tabD 61) [] := by
  refine run_w rfl ?_
  have eD : D__law_table = (sSeq (sSet 1 (mLst (mCons (mOp2 repL (mLst (mCons (mC (.int 1)) mNil)) (mOp2 addD (mB 0) (mC (.int 1)))) mNil)))
    (sSeq (sFor (iRg2 (mC (.int 1)) (mOp2 addD (mB 0) (mC (.int 1)))) (gV 2) (sSeq (sSet 3 (mLst (mCons (mC (.int 0)) mNil)))
    (sSeq (sFor (iRg2 (mC (.int 1)) (mOp2 addD (mB 0) (mC (.int 1)))) (gV 4) trow)
    (sExp (mMut 1 isLst (mCons (mV 3) mNil) appendD)))))
    (sRetV 1))) := rfl
  rw [eD]
  have rp : repL (.lst [.int 1]) (.int 61) = some (.ow, .lst (rowD 61 (pm 0))) := by
    rw [← ones_row]
    unfold repL
    simp [sizeLine_eq]
  have t1 : tabD 1 = .lst [.lst (rowD 61 (pm 0))] := tabD_eq 1
  simp [entry, sizeLine_eq, rp, small62_eq]
  rw [← t1]
  refine W_range (fun j ρ => ∃ s2 s3 s4, ρ = [some (.sh, .int 60), some (.ow, tabD (j + 1)), s2, s3, s4]) ⟨none, none, none, rfl⟩ (fun I hI j ρ hj ⟨s2, s3, s4, e⟩ => ?_) (fun ρ ⟨s2, s3, s4, e⟩ => ?_)
  · subst e
    have e1 : (1 : Int) + j = (j + 1 : Nat) := by omega
    rw [e1]
    have r1 : (rowD 1 (pm (j + 1))) = [.int 0] := by simp [rowD, pm_0, nD]
    simp only [gV_ap]
    simp [sizeLine_eq, small62_eq]
    rw [← r1]
    refine W_range (fun i ρ => ∃ s4, ρ = [some (.sh, .int 60), some (.ow, tabD (j + 1)), some (.sh, .int (j + 1 : Nat)), some (.ow, .lst (rowD (i + 1) (pm (j + 1)))), s4]) ⟨s4, by simp⟩ (fun I2 hI2 i ρ hi ⟨s4, e⟩ => ?_) (fun ρ ⟨s4, e⟩ => ?_)
    · subst e
      simp
      refine trow_step (n := j + 1) (k := i) (by omega) (by omega) (by omega) (by omega) ?_
      simp
      exact hI2 ⟨_, rfl⟩
    · subst e
      have sn := tab_snoc (j + 1)
      simp [tabD_eq, isLst, appendD, sizeLine_eq, show j + 1 < 16777216 by omega]
      rw [sn, ← tabD_eq]
      exact hI ⟨_, _, _, rfl⟩
  · subst e
    simp
end K62

set_option Elab.async false
set_option linter.all false
set_option maxRecDepth 100000
/-! The law K62: places. -/
namespace K62
open PySem L2 PP PF
theorem ptInv {n k p : Nat} {ps : List Nat} (h : Pt n k (p :: ps)) : 1 ≤ p ∧ p ≤ k ∧ p ≤ n ∧ Pt (n - p) p ps := h
theorem plCons (n k p : Nat) (ps : List Nat) : pl n k (p :: ps) = (pm n k - pm n p) + pl (n - p) p ps := rfl
theorem plNil (n k : Nat) : pl n k [] = 0 := rfl
def RQ (ps : List Nat) (n : Nat) : Prop := PO ps ∧ ps.sum = n
theorem place_ok {ps : List Nat} (h : PO ps) : F_parts_place [(.sh, tN ps)] = .ok .sh (.int (pl ps.sum ps.sum ps)) [] := by
  refine run_w rfl ?_
  have eD : D_parts_place = (sSeq (sExp (mCall F_check_parts (aVal (mV 0) aNil)))
    (sSeq (sSet 1 (mOp1 sumGD (mB 0)))
    (sSeq (sPar [2, 3] [(mC (.int 0)), (mV 1)])
    (sSeq (sFor (iSeq (mV 0)) (gV 4) D_parts_place0)
    (sRetV 2))))) := by unfold D_parts_place D_parts_place0; rfl
  rw [eD]
  have ck := check_ok h
  have sg := sumGD_tN ps
  have it : iterD (tN ps) = some (ps.map nD) := rfl
  have pt := h.pt
  have s60 := h.2.2
  generalize hT : tN ps = T at *
  simp [entry, ck, sg, it]
  refine W_forL nD (fun j ρ => ∃ n f k s4 s5, Pt n k (ps.drop j) ∧ n ≤ 60 ∧ k ≤ 60 ∧ f + pl n k (ps.drop j) = pl ps.sum ps.sum ps ∧ ρ = [some (.sh, T), some (.sh, .int (n : Nat)), some (.sh, .int (f : Nat)), some (.sh, .int (k : Nat)), s4, s5, none]) ⟨ps.sum, 0, ps.sum, none, none, pt, s60, s60, by simp, by simp⟩ (fun I hI j p ρ hj ⟨n, f, k, s4, s5, h1, h2, h3, h4, e⟩ => ?_) (fun ρ ⟨n, f, k, s4, s5, h1, h2, h3, h4, e⟩ => ?_)
  · subst e
    have ed : ps.drop j = p :: ps.drop (j + 1) := by
      rw [List.drop_eq_getElem_cons (lt_of_get hj)]
      congr 1
      have := List.getElem?_eq_getElem (lt_of_get hj)
      rw [this] at hj
      exact Option.some.inj hj
    have h1 : Pt n k (p :: ps.drop (j + 1)) := by rw [← ed]; exact h1
    have h4 : f + pl n k (p :: ps.drop (j + 1)) = pl ps.sum ps.sum ps := by rw [← ed]; exact h4
    have g := ptInv h1
    have g1 := g.1
    have g2 := g.2.1
    have g3 := g.2.2.1
    have g4 := g.2.2.2
    rw [plCons] at h4
    simp
    refine place_step (by omega) (by omega) g1 g2 g3 rfl fun s5 => ?_
    exact hI ⟨n - p, f + (pm n k - pm n p), p, some (.sh, nD p), s5, g4, by omega, by omega, by omega, rfl⟩
  · subst e
    rw [List.drop_length] at h4
    rw [plNil, Nat.add_zero] at h4
    subst h4
    simp
def lpl : M PP.Flow := (sSeq (sSet 2 (mOp2 subI (mOp2 addD (mB 2) (mOp2 ixD (mOp2 ixD (mB 1) (mB 3)) (mOp2 min2I (mB 4) (mB 3)))) (mOp2 ixD (mOp2 ixD (mB 1) (mB 3)) (mOp2 min2I (mB 5) (mB 3)))))
    (sPar [3, 4] [(mOp2 subI (mB 3) (mB 5)), (mV 5)]))
theorem law_place_ok {ps : List Nat} (h : PO ps) : F__law_place [(.sh, tN ps), (.sh, tabD 61)] = .ok .sh (.int (pl ps.sum ps.sum ps)) [] := by
  refine run_w rfl ?_
  have eD : D__law_place = (sSeq (sPar [2, 3, 4] [(mC (.int 0)), (mOp1 sumGD (mB 0)), (mOp1 sumGD (mB 0))])
    (sSeq (sFor (iSeq (mV 0)) (gV 5) lpl)
    (sRetV 2))) := rfl
  rw [eD]
  have sg := sumGD_tN ps
  have it : iterD (tN ps) = some (ps.map nD) := rfl
  have pt := h.pt
  have s60 := h.2.2
  generalize hT : tN ps = T at *
  simp [entry, sg, it]
  refine W_forL nD (fun j ρ => ∃ n f k s5, Pt n k (ps.drop j) ∧ n ≤ 60 ∧ k ≤ 60 ∧ f + pl n k (ps.drop j) = pl ps.sum ps.sum ps ∧ ρ = [some (.sh, T), some (.sh, tabD 61), some (.sh, .int (f : Nat)), some (.sh, .int (n : Nat)), some (.sh, .int (k : Nat)), s5]) ⟨ps.sum, 0, ps.sum, none, pt, s60, s60, by simp, by simp⟩ (fun I hI j p ρ hj ⟨n, f, k, s5, h1, h2, h3, h4, e⟩ => ?_) (fun ρ ⟨n, f, k, s5, h1, h2, h3, h4, e⟩ => ?_)
  · subst e
    have ed : ps.drop j = p :: ps.drop (j + 1) := by
      rw [List.drop_eq_getElem_cons (lt_of_get hj)]
      congr 1
      have := List.getElem?_eq_getElem (lt_of_get hj)
      rw [this] at hj
      exact Option.some.inj hj
    have h1 : Pt n k (p :: ps.drop (j + 1)) := by rw [← ed]; exact h1
    have h4 : f + pl n k (p :: ps.drop (j + 1)) = pl ps.sum ps.sum ps := by rw [← ed]; exact h4
    have g := ptInv h1
    have g1 := g.1
    have g2 := g.2.1
    have g3 := g.2.2.1
    have g4 := g.2.2.2
    rw [plCons] at h4
    have m := pm_mono (n := n) g2
    have t1 := tab_at (m := 61) (n := n) (by omega)
    have r1 := rowD_at (pm n) (show min k n < 61 by omega)
    have r2 := rowD_at (pm n) (show min p n < 61 by omega)
    rw [pm_min] at r1 r2
    have e1 := min_cast' k n
    have e2 := min_cast' p n
    have e3 : (n : Int) - p = (n - p : Nat) := by omega
    have e4 : (f : Int) + (pm n k : Nat) - (pm n p : Nat) = (f + (pm n k - pm n p) : Nat) := by omega
    unfold lpl
    simp only [tabD_eq] at hI ⊢
    simp [nD, t1, e1, e2, r1, r2, e3]
    rw [e4]
    exact hI ⟨n - p, f + (pm n k - pm n p), p, some (.sh, nD p), g4, by omega, by omega, by omega, rfl⟩
  · subst e
    rw [List.drop_length] at h4
    rw [plNil, Nat.add_zero] at h4
    subst h4
    simp
/-! the parts at a place -/
def pac : M Bool := (mTst (mOp2 geI (mB 3) (mCall F_raw_with_most (aVal (mOp2 subI (mB 4) (mB 6)) (aVal (mV 6) aNil)))))
def pab : M PP.Flow := (sSeq (sSet 3 (mOp2 subI (mB 3) (mCall F_raw_with_most (aVal (mOp2 subI (mB 4) (mB 6)) (aVal (mV 6) aNil)))))
    (sSet 6 (mOp2 subI (mB 6) (mC (.int 1)))))
theorem pa_loop {n k p L : Nat} {ps : List Nat} (hn : n ≤ 60) (hk : k ≤ 60) (h : Pt n k (p :: ps)) (hL : L = pl n k (p :: ps)) {s0 s1 s2 s5 : Slot} {Q : Cont PP.Flow}
    (H : Q .nx [s0, s1, s2, some (.sh, .int (pl (n - p) p ps)), some (.sh, .int n), s5, some (.sh, .int p)]) :
    Wr (sWhile 100000 pac pab [s0, s1, s2, some (.sh, .int L), some (.sh, .int n), s5, some (.sh, .int (min k n : Nat))]) Q := by
  obtain ⟨g1, g2, g3, g4⟩ := ptInv h
  rw [plCons] at hL
  have lt := pl_lt g4
  refine W_while (fun j ρ => ∃ l q : Nat, p ≤ q ∧ q ≤ n ∧ q ≤ k ∧ j = q - p ∧ l + (pm n k - pm n q) = L ∧ ρ = [s0, s1, s2, some (.sh, .int l), some (.sh, .int n), s5, some (.sh, .int q)])
    (fun I hI j ρ ⟨l, q, h1, h2, h3, h4, h5, e⟩ => ?_) (j := min k n - p) (by omega) ⟨L, min k n, by omega, by omega, by omega, rfl, by rw [pm_min]; omega, rfl⟩
  subst e
  unfold pac pab
  have e := with_most_ok (n := n - q) (k := q) (by omega) (by omega)
  have e1 : (n : Int) - q = (n - q : Nat) := by omega
  have o := pm_out (n := n) (p := q) (by omega) h2
  have mk := pm_mono (n := n) h3
  have mp := pm_mono (n := n) (show p ≤ q from h1)
  by_cases z : q = p
  · subst z
    have hlt : l < pm (n - q) q := by omega
    have hl : l = pl (n - q) q ps := by omega
    subst hl
    simp [rm, e1, e, show ¬ ((pm (n - q) q : Nat) : Int) ≤ (pl (n - q) q ps : Nat) by omega]
    exact H
  · have mp2 := pm_mono (n := n) (show p ≤ q - 1 by omega)
    have hge : pm (n - q) q ≤ l := by omega
    have e2 : (l : Int) - (pm (n - q) q : Nat) = (l - pm (n - q) q : Nat) := by omega
    have e3 : (q : Int) - 1 = (q - 1 : Nat) := by omega
    simp [rm, e1, e, show ((pm (n - q) q : Nat) : Int) ≤ (l : Nat) by omega, e2, e3]
    exact ⟨j - 1, by omega, hI ⟨l - pm (n - q) q, q - 1, by omega, by omega, by omega, by omega, by omega, rfl⟩⟩
theorem parts_at_ok {ps : List Nat} (h : PO ps) (h0 : ps ≠ []) : F_parts_at [(.sh, .int (ps.sum : Nat)), (.sh, .int (pl ps.sum ps.sum ps))] = .ok .sh (tN ps) [] := by
  refine run_w rfl ?_
  have eD : D_parts_at = (sSeq (sExp (mCall F_check_number (aVal (mV 0) aNil)))
    (sSeq (sIf (mNot (mTru (mCall F_is_within (aVal (mV 1) (aVal (mC (.int 0)) (aVal (mOp2 subI (mCall F_raw_with_most (aVal (mV 0) (aVal (mV 0) aNil))) (mC (.int 1))) aNil)))))) (sRaise 7 mNil) sNil)
    (sSeq (sPar [2, 3, 4, 5] [(mLst mNil), (mV 1), (mV 0), (mV 0)])
    (sSeq (sWhile 100000 (mTst (mOp2 gtI (mB 4) (mC (.int 0)))) (sSeq (sSet 6 (mOp2 min2I (mB 5) (mB 4)))
    (sSeq (sWhile 100000 pac pab)
    (sSeq (sExp (mMut 2 isLst (mCons (mV 6) mNil) appendD))
    (sPar [4, 5] [(mOp2 subI (mB 4) (mB 6)), (mV 6)])))))
    (sRet (mOp1 tupleD (mB 2))))))) := rfl
  rw [eD]
  have pt := h.pt
  have s60 := h.2.2
  have lt := pl_lt pt
  have hlen := h.len
  generalize hS : ps.sum = n at *
  generalize hP : pl n n ps = P at *
  have e := with_most_ok (n := n) (k := n) (by omega) (by omega)
  have wi := within_int (P : Nat) 0 ((pm n n : Nat) - 1)
  rw [decide_eq_true (by omega)] at wi
  simp [entry, number_ok (n := n) s60, rm, e, iw, wi, sizeLine_eq]
  refine W_while (fun j ρ => ∃ m k L i s6, Pt m k (ps.drop i) ∧ i ≤ ps.length ∧ j = ps.length - i ∧ m ≤ 60 ∧ k ≤ 60 ∧ L = pl m k (ps.drop i) ∧ ρ = [some (.sh, .int (n : Nat)), some (.sh, .int (P : Nat)), some (.ow, .lst ((ps.take i).map nD)), some (.sh, .int (L : Nat)), some (.sh, .int (m : Nat)), some (.sh, .int (k : Nat)), s6])
    (fun I hI j ρ ⟨m, k, L, i, s6, h1, h2, h3, h4, h5, h6, e⟩ => ?_) (j := ps.length) (by omega) ⟨n, n, P, 0, none, pt, by omega, rfl, s60, s60, hP.symm, by simp⟩
  subst e
  cases ed : ps.drop i with
  | nil =>
    rw [ed] at h1
    have h1 : m = 0 := h1
    subst h1
    have hi : ps.length ≤ i := by
      have := congrArg List.length ed
      simp at this
      omega
    rw [List.take_of_length_le hi]
    simp [tN]
  | cons p t =>
    rw [ed] at h1 h6
    have hi : i < ps.length := by
      have := congrArg List.length ed
      simp at this
      omega
    obtain ⟨g1, g2, g3, g4⟩ := ptInv h1
    have ed2 : ps.drop (i + 1) = t := by
      have := congrArg (List.drop 1) ed
      rw [List.drop_drop] at this
      simpa using this
    have hp : ps[i]? = some p := by
      have := congrArg (fun l => l[0]?) ed
      simpa using this
    have et : ps.take (i + 1) = ps.take i ++ [p] := by rw [List.take_succ, hp]; rfl
    have mc := min_cast' k m
    have e3 : (m : Int) - p = (m - p : Nat) := by omega
    simp [show 0 < m by omega, mc]
    refine pa_loop h4 h5 h1 h6 ?_
    simp [isLst, appendD, sizeLine_eq, show min i ps.length < 16777216 by omega, e3]
    refine ⟨j - 1, by omega, hI ⟨m - p, p, pl (m - p) p t, i + 1, some (.sh, .int p), by rw [ed2]; exact g4, by omega, by omega, by omega, by omega, by rw [ed2], by rw [et]; simp [nD]⟩⟩
end K62

set_option Elab.async false
set_option linter.all false
set_option maxRecDepth 100000
/-! The law K62: the next parts. -/
namespace K62
open PySem L2 PP PF
/-- no one at the end -/
def NoOne (base : List Nat) : Prop := base = [] ∨ ∃ pre a, base = pre ++ [a] ∧ 2 ≤ a
@[irreducible] def rnc : M Bool := (mAnd (mTst (mOp2 gtI (mOp1 lenD (mB 1)) (mC (.int 0)))) (mTst (mOp2 eqD (mOp2 ixD (mB 1) (mOp1 negI (mC (.int 1)))) (mC (.int 1)))))
@[irreducible] def rnb : M PP.Flow := (sSeq (sExp (mMut 1 isLst mNil popD))
    (sSet 2 (mOp2 addD (mB 2) (mC (.int 1)))))
theorem rn1 {base : List Nat} (hb : NoOne base) {m : Nat} (hl : base.length + m ≤ 1000) {s0 s3 s4 : Slot} {Q : Cont PP.Flow}
    (H : Q .nx [s0, some (.ow, .lst (base.map nD)), some (.sh, .int m), s3, s4]) :
    Wr (sWhile 100000 rnc rnb [s0, some (.ow, .lst ((base ++ List.replicate m 1).map nD)), some (.sh, .int 0), s3, s4]) Q := by
  refine W_while (fun i ρ => i ≤ m ∧ ρ = [s0, some (.ow, .lst ((base ++ List.replicate i 1).map nD)), some (.sh, .int (m - i : Nat)), s3, s4]) (fun I hI i ρ ⟨hi, e⟩ => ?_) (j := m) (by omega) ⟨Nat.le_refl _, by simp⟩
  subst e
  unfold rnc rnb
  cases i with
  | zero =>
    rcases hb with rfl | ⟨pre, a, rfl, ha⟩
    · simp
      exact H
    · have e := at_last (pre.map nD) (nD a)
      have ne : ¬ (a : Int) = 1 := by omega
      simp
      simp [e]
      simp [nD, ne]
      simpa [nD] using H
  | succ i =>
    have er : base ++ List.replicate (i + 1) 1 = (base ++ List.replicate i 1) ++ [1] := by rw [List.replicate_succ', List.append_assoc]
    rw [er, List.map_append]
    have e := at_last ((base ++ List.replicate i 1).map nD) (nD 1)
    have e2 : ((m - (i + 1) : Nat) : Int) + 1 = (m - i : Nat) := by omega
    generalize hB : (base ++ List.replicate i 1).map nD = B at *
    have pd := popD_snoc B (nD 1)
    have l0 : (0 : Int) < (B.length : Int) + 1 := by omega
    simp [e, l0]
    simp [nD]
    have pd' : popD (.lst (B ++ [.int 1])) [] = some (.lst B, .int 1) := pd
    simp [isLst, pd', e2]
    refine ⟨i, by omega, hI ⟨by omega, ?_⟩⟩
    rw [← hB]
@[irreducible] def fic : M Bool := (mTst (mOp2 gtI (mB 4) (mC (.int 0))))
@[irreducible] def fib : M PP.Flow := (sSeq (sExp (mMut 1 isLst (mCons (mOp2 min2I (mB 3) (mB 4)) mNil) appendD))
    (sSet 4 (mOp2 subI (mB 4) (mOp2 ixD (mB 1) (mOp1 negI (mC (.int 1)))))))
theorem rn2 {pre l : List Nat} {k n : Nat} (hk : 0 < k) (hk2 : k ≤ 100) (hn : n ≤ 100) (hf : Fill k n l) (hl : pre.length + n ≤ 1000) {s0 s2 : Slot} {Q : Cont PP.Flow}
    (H : ∀ s4, Q .nx [s0, some (.ow, .lst ((pre ++ l).map nD)), s2, some (.sh, .int k), s4]) :
    Wr (sWhile 100000 fic fib [s0, some (.ow, .lst (pre.map nD)), s2, some (.sh, .int k), some (.sh, .int n)]) Q := by
  refine W_while (fun n ρ => ∃ pr t, Fill k n t ∧ pr ++ t = pre ++ l ∧ n ≤ 100 ∧ pr.length + n ≤ 1000 ∧ ρ = [s0, some (.ow, .lst (pr.map nD)), s2, some (.sh, .int k), some (.sh, .int n)]) (fun I hI n ρ ⟨pr, t, h1, h2, h3, h4, e⟩ => ?_) (j := n) (by omega) ⟨pre, l, hf, rfl, hn, hl, rfl⟩
  subst e
  unfold fic fib
  rcases Nat.eq_zero_or_pos n with z | z
  · subst z
    rw [Fill.zero h1, List.append_nil] at h2
    subst h2
    simp
    have := H (some (.sh, .int 0))
    simpa using this
  · obtain ⟨t', e, h1'⟩ := h1.inv z
    subst e
    have mc := min_cast' k n
    have e := at_last (pr.map nD) (nD (min k n))
    have e2 : (n : Int) - (min k n : Nat) = (n - min k n : Nat) := by omega
    have h2' : (pr ++ [min k n]) ++ t' = pre ++ l := by rw [← h2]; simp
    generalize hM : min k n = M at *
    have e' : atD (pr.map nD ++ [.int M]) (-1) = some (.int M) := e
    simp [z, isLst, appendD, mc, sizeLine_eq, show pr.length < 16777216 by omega, e', e2]
    refine ⟨n - M, by omega, hI ⟨pr ++ [M], t', h1', h2', by omega, by simp; omega, by simp [nD]⟩⟩
theorem raw_next_ones {m : Nat} (hm : m ≤ 100) : F_raw_next [(.sh, tN (List.replicate m 1))] = .ok .sh .non [] := by
  refine run_w rfl ?_
  have eD : D_raw_next = (sSeq (sSet 1 (mOp1 listD (mB 0)))
    (sSeq (sSet 2 (mC (.int 0)))
    (sSeq (sWhile 100000 rnc rnb)
    (sSeq (sIf (mTst (mOp2 eqD (mOp1 lenD (mB 1)) (mC (.int 0)))) (sRet (mC .non)) sNil)
    (sSeq (sSet 3 (mOp2 subI (mMut 1 isLst mNil popD) (mC (.int 1))))
    (sSeq (sSet 4 (mOp2 addD (mB 2) (mC (.int 1))))
    (sSeq (sExp (mMut 1 isLst (mCons (mV 3) mNil) appendD))
    (sSeq (sWhile 100000 fic fib)
    (sRet (mOp1 tupleD (mB 1))))))))))) := by unfold D_raw_next rnc rnb fic fib; rfl
  rw [eD]
  have ls : listD (tN (List.replicate m 1)) = some (.ow, .lst ((List.replicate m 1).map nD)) := rfl
  generalize tN (List.replicate m 1) = T at *
  simp only [Wr_seq, Wr_set, entry]
  simp [ls]
  have := rn1 (base := []) (.inl rfl) (m := m) (by simp; omega) (s0 := some (.sh, T)) (s3 := none) (s4 := none) (Q := Kseq (sSeq (sIf (mTst (mOp2 eqD (mOp1 lenD (mB 1)) (mC (.int 0)))) (sRet (mC .non)) sNil)
    (sSeq (sSet 3 (mOp2 subI (mMut 1 isLst mNil popD) (mC (.int 1))))
    (sSeq (sSet 4 (mOp2 addD (mB 2) (mC (.int 1))))
    (sSeq (sExp (mMut 1 isLst (mCons (mV 3) mNil) appendD))
    (sSeq (sWhile 100000 fic fib)
    (sRet (mOp1 tupleD (mB 1)))))))) (Kend [(.sh, T)] .sh .non [])) (by simp)
  simpa using this
theorem raw_next_some {pre : List Nat} {a m : Nat} {l : List Nat} (ha : 2 ≤ a) (hm : a + m ≤ 60) (hl : pre.length ≤ 60) (hf : Fill (a - 1) (m + 1) l) : F_raw_next [(.sh, tN (pre ++ a :: List.replicate m 1))] = .ok .sh (tN (pre ++ (a - 1) :: l)) [] := by
  refine run_w rfl ?_
  have eD : D_raw_next = (sSeq (sSet 1 (mOp1 listD (mB 0)))
    (sSeq (sSet 2 (mC (.int 0)))
    (sSeq (sWhile 100000 rnc rnb)
    (sSeq (sIf (mTst (mOp2 eqD (mOp1 lenD (mB 1)) (mC (.int 0)))) (sRet (mC .non)) sNil)
    (sSeq (sSet 3 (mOp2 subI (mMut 1 isLst mNil popD) (mC (.int 1))))
    (sSeq (sSet 4 (mOp2 addD (mB 2) (mC (.int 1))))
    (sSeq (sExp (mMut 1 isLst (mCons (mV 3) mNil) appendD))
    (sSeq (sWhile 100000 fic fib)
    (sRet (mOp1 tupleD (mB 1))))))))))) := by unfold D_raw_next rnc rnb fic fib; rfl
  rw [eD]
  have eb : pre ++ a :: List.replicate m 1 = (pre ++ [a]) ++ List.replicate m 1 := by simp
  rw [eb]
  have ls : listD (tN ((pre ++ [a]) ++ List.replicate m 1)) = some (.ow, .lst (((pre ++ [a]) ++ List.replicate m 1).map nD)) := rfl
  generalize tN ((pre ++ [a]) ++ List.replicate m 1) = T at *
  simp only [Wr_seq, Wr_set, entry]
  simp only [Wr_op1, List.length_cons, List.length_nil, List.replicate, List.append]
  simp only [mB_ap]
  simp [ls]
  have := rn1 (base := pre ++ [a]) (.inr ⟨pre, a, rfl, ha⟩) (m := m) (by simp; omega) (s0 := some (.sh, T)) (s3 := none) (s4 := none) (Q := Kseq (sSeq (sIf (mTst (mOp2 eqD (mOp1 lenD (mB 1)) (mC (.int 0)))) (sRet (mC .non)) sNil)
    (sSeq (sSet 3 (mOp2 subI (mMut 1 isLst mNil popD) (mC (.int 1))))
    (sSeq (sSet 4 (mOp2 addD (mB 2) (mC (.int 1))))
    (sSeq (sExp (mMut 1 isLst (mCons (mV 3) mNil) appendD))
    (sSeq (sWhile 100000 fic fib)
    (sRet (mOp1 tupleD (mB 1)))))))) (Kend [(.sh, T)] .sh (tN (pre ++ (a - 1) :: l)) [])) (by
      have pd := popD_snoc (pre.map nD) (nD a)
      have pd' : popD (.lst (pre.map nD ++ [.int a])) [] = some (.lst (pre.map nD), .int a) := pd
      have e3 : (a : Int) - 1 = (a - 1 : Nat) := by omega
      have ne : ¬ (pre.length : Int) + 1 = 0 := by omega
      have em : (pre ++ [a]).map nD = pre.map nD ++ [.int a] := by simp [nD]
      rw [em]
      simp [ne, isLst, pd', e3, appendD, sizeLine_eq, show pre.length < 16777216 by omega]
      have e4 : pre.map nD ++ [.int ((a - 1 : Nat) : Int)] = (pre ++ [a - 1]).map nD := by simp [nD]
      have e5 : (m : Int) + 1 = (m + 1 : Nat) := by omega
      rw [e4, e5]
      refine rn2 (k := a - 1) (n := m + 1) (by omega) (by omega) (by omega) hf (by simp; omega) fun s4 => ?_
      simp [tN])
  simpa using this
end K62

set_option Elab.async false
set_option linter.all false
set_option maxRecDepth 100000
/-! The law K62: the next parts as the law finds them. -/
namespace K62
open PySem L2 PP PF
theorem cnt1 : ∀ (ps : List Nat), (∀ x ∈ ps, 2 ≤ x) → ps.filter (fun x => decide (x = 1)) = []
  | [], _ => rfl
  | x :: ps, h => by
    have := h x List.mem_cons_self
    rw [List.filter_cons_of_neg (by simp; omega), cnt1 ps fun y hy => h y (List.mem_cons_of_mem _ hy)]
theorem filt1 (m : Nat) : (List.replicate m 1).filter (fun x => decide (x = 1)) = List.replicate m 1 := by
  apply List.filter_eq_self.2
  intro x hx
  simpa using List.eq_of_mem_replicate hx
@[irreducible] def ln1 : M PP.Flow := (sSet 1 (mOp1 lenD (mComp [2] (iSeq (mV 0)) (gV 2) (mTst (mOp2 eqD (mB 2) (mC (.int 1)))) (mC (.int 1)))))
theorem ln1_step {ps : List Nat} (hl : ps.length ≤ 100) {m : Nat} (hm : (ps.filter fun x => decide (x = 1)).length = m) {s1 s3 s4 s5 s6 s7 : Slot} {Q : Cont PP.Flow}
    (H : Q .nx [some (.sh, tN ps), some (.sh, .int m), none, s3, s4, s5, s6, s7]) :
    Wr (ln1 [some (.sh, tN ps), s1, none, s3, s4, s5, s6, s7]) Q := by
  unfold ln1
  simp [tN]
  refine W_filt nD (fun x => decide (x = 1)) (fun _ => .int 1) rfl (by rw [sizeLine_eq]; omega) (fun x hx => ?_) (fun x hx _ => ⟨.sh, by simp⟩) ?_
  · have : ((x : Int) = 1) ↔ x = 1 := by omega
    simp [nD, this]
  · simp [lenD, hm]
    simpa [tN] using H
@[irreducible] def ln2 : M PP.Flow := (sFor (iRg1 (mC (.int 61))) (gV 7) (sIf (mTst (mOp2 gtI (mB 5) (mC (.int 0)))) (sPar [6, 5] [(mOp2 addD (mB 6) (mTup (mCons (mOp2 min2I (mB 4) (mB 5)) mNil))), (mOp2 subI (mB 5) (mOp2 min2I (mB 4) (mB 5)))]) sNil))
theorem ln2_step {pre l : List Nat} {k n : Nat} (hk : 0 < k) (hn : n ≤ 61) (hl : pre.length ≤ 100) (hf : Fill k n l) {s0 s1 s2 s3 : Slot} {Q : Cont PP.Flow}
    (H : ∀ s5 s7, Q .nx [s0, s1, s2, s3, some (.sh, .int k), s5, some (.sh, tN (pre ++ l)), s7]) :
    Wr (ln2 [s0, s1, s2, s3, some (.sh, .int k), some (.sh, .int n), some (.sh, tN pre), none]) Q := by
  unfold ln2
  simp [small62_eq]
  refine W_range (fun j ρ => ∃ pr t n s7, Fill k n t ∧ pr ++ t = pre ++ l ∧ n + j ≤ 61 + (61 * 0) + (if n = 0 then j else 0) ∧ pr.length ≤ 100 + j ∧ ρ = [s0, s1, s2, s3, some (.sh, .int k), some (.sh, .int (n : Nat)), some (.sh, tN pr), s7]) ⟨pre, l, n, none, hf, rfl, by omega, by omega, rfl⟩ (fun I hI j ρ hj ⟨pr, t, n, s7, h1, h2, h3, h4, e⟩ => ?_) (fun ρ ⟨pr, t, n, s7, h1, h2, h3, h4, e⟩ => ?_)
  · subst e
    rcases Nat.eq_zero_or_pos n with z | z
    · subst z
      simp
      exact hI ⟨pr, t, 0, some (.sh, .int j), h1, h2, by simp, by omega, by simp⟩
    · obtain ⟨t', e, h1'⟩ := h1.inv z
      subst e
      have mc := min_cast' k n
      have e2 : (n : Int) - (min k n : Nat) = (n - min k n : Nat) := by omega
      have h2' : (pr ++ [min k n]) ++ t' = pre ++ l := by rw [← h2]; simp
      have hpos : 1 ≤ min k n := by omega
      rw [if_neg (by omega)] at h3
      generalize hM : min k n = M at *
      simp [z, mc, sizeLine_eq, tN, show pr.length + 1 ≤ 16777216 by omega, e2]
      refine hI ⟨pr ++ [M], t', n - M, some (.sh, .int j), h1', h2', ?_, by simp; omega, by simp [tN, nD]⟩
      split <;> omega
  · subst e
    have z : n = 0 := by
      by_cases z : n = 0
      · exact z
      · rw [if_neg z] at h3; omega
    subst z
    rw [Fill.zero h1, List.append_nil] at h2
    subst h2
    exact H _ _
theorem law_next_ones {m : Nat} (hm : m ≤ 100) : F__law_next [(.sh, tN (List.replicate m 1))] = .ok .sh .non [] := by
  refine run_w rfl ?_
  have eD : D__law_next = (sSeq ln1
    (sSeq (sIf (mTst (mOp2 eqD (mB 1) (mOp1 lenD (mB 0)))) (sRet (mC .non)) sNil)
    (sSeq (sSet 3 (mOp2 subI (mOp2 subI (mOp1 lenD (mB 0)) (mB 1)) (mC (.int 1))))
    (sSeq (sPar [4, 5] [(mOp2 subI (mOp2 ixD (mB 0) (mB 3)) (mC (.int 1))), (mOp2 addD (mB 1) (mOp2 ixD (mB 0) (mB 3)))])
    (sSeq (sSet 6 (mSlice (mB 0) none (some (mB 3))))
    (sSeq ln2
    (sRetV 6))))))) := by unfold D__law_next ln1 ln2; rfl
  rw [eD]
  simp [entry]
  refine ln1_step (by simpa using hm) (m := m) (by rw [filt1]; simp) ?_
  simp [tN, lenD]
theorem law_next_some {pre : List Nat} {a m : Nat} {l : List Nat} (ha : 2 ≤ a) (hp : ∀ x ∈ pre, 2 ≤ x) (hm : a + m ≤ 60) (hl : pre.length + 1 + m ≤ 60) (hf : Fill (a - 1) (m + 1) l) : F__law_next [(.sh, tN (pre ++ a :: List.replicate m 1))] = .ok .sh (tN (pre ++ (a - 1) :: l)) [] := by
  refine run_w rfl ?_
  have eD : D__law_next = (sSeq ln1
    (sSeq (sIf (mTst (mOp2 eqD (mB 1) (mOp1 lenD (mB 0)))) (sRet (mC .non)) sNil)
    (sSeq (sSet 3 (mOp2 subI (mOp2 subI (mOp1 lenD (mB 0)) (mB 1)) (mC (.int 1))))
    (sSeq (sPar [4, 5] [(mOp2 subI (mOp2 ixD (mB 0) (mB 3)) (mC (.int 1))), (mOp2 addD (mB 1) (mOp2 ixD (mB 0) (mB 3)))])
    (sSeq (sSet 6 (mSlice (mB 0) none (some (mB 3))))
    (sSeq ln2
    (sRetV 6))))))) := by unfold D__law_next ln1 ln2; rfl
  rw [eD]
  simp [entry]
  have len : (pre ++ a :: List.replicate m 1).length = pre.length + 1 + m := by simp; omega
  have c1 : ((pre ++ a :: List.replicate m 1).filter fun x => decide (x = 1)).length = m := by
    rw [List.filter_append, cnt1 pre hp, List.filter_cons_of_neg (by simp; omega), filt1]
    simp
  refine ln1_step (by rw [len]; omega) c1 ?_
  have ln : lenD (tN (pre ++ a :: List.replicate m 1)) = some (.sh, .int (pre.length + 1 + m : Nat)) := by
    unfold tN
    simp only [lenD, List.length_map, len]
  have at1 : ixD (tN (pre ++ a :: List.replicate m 1)) (.int (pre.length : Nat)) = some (.sh, .int a) := by
    unfold tN ixD
    have : atD ((pre ++ a :: List.replicate m 1).map nD) (pre.length : Nat) = some (nD a) := by
      unfold atD atI ixN
      rw [if_pos (by omega), if_pos (by simp; omega)]
      simp
    simp only [this]
    rfl
  have sl : sliceD (tN (pre ++ a :: List.replicate m 1)) none (some (pre.length : Nat)) = some (.sh, tN pre) := by
    unfold tN sliceD
    have := cut_take ((pre ++ a :: List.replicate m 1).map nD) pre.length
    simp only [this]
    rw [← List.map_take, List.take_left]
  have e1 : ((pre.length + 1 + m : Nat) : Int) - m - 1 = (pre.length : Nat) := by omega
  have e2 : (a : Int) - 1 = (a - 1 : Nat) := by omega
  have ne : ¬ (m : Int) = ((pre.length + 1 + m : Nat) : Int) := by omega
  have hf2 : Fill (a - 1) (m + a) ((a - 1) :: l) := by
    have := Fill.cons (k := a - 1) (n := m + a) (l := l) (by omega) (by rw [show m + a - min (a - 1) (m + a) = m + 1 by omega]; exact hf)
    rwa [show min (a - 1) (m + a) = a - 1 by omega] at this
  generalize tN (pre ++ a :: List.replicate m 1) = T at *
  generalize hN : pre.length + 1 + m = N at *
  obtain ⟨M, hM⟩ : ∃ M, M = m + a := ⟨_, rfl⟩
  have e3 : (m : Int) + a = (M : Nat) := by omega
  rw [← hM] at hf2
  simp only [Kseq_nx, Wr_seq]
  simp [ln, ne, e1, at1, e2, e3, sl]
  refine ln2_step (k := a - 1) (n := M) (by omega) (by omega) (by omega) hf2 fun s5 s7 => ?_
  simp
end K62

set_option Elab.async false
set_option linter.all false
set_option maxRecDepth 100000
/-! Data whose repr is sure, by parts. -/
namespace PP
open PySem L2
/-- plain, of so many things, so deep -/
def Rk3 (d : D) (b k : Nat) : Prop := plainD d = true ∧ bulkD d ≤ b ∧ deepD d ≤ k
def Rks (ds : List D) (b k : Nat) : Prop := plainDs ds = true ∧ bulkDs ds ≤ b ∧ deepDs ds ≤ k
theorem Rk3.repr {d : D} {b k : Nat} (h : Rk3 d b k) (hb : b ≤ 20000) (hk : k ≤ 60) : ∃ s, reprD d = some (.sh, .str s) ∧ SO s := reprD_ok h.1 (Nat.le_trans h.2.1 hb) (Nat.le_trans h.2.2 hk)
theorem Rk3.int {i : Int} (h : i.natAbs ≤ 10 ^ 500) : Rk3 (.int i) 0 0 := ⟨by simp only [plainD, decide_eq_true_eq]; exact Nat.lt_of_le_of_lt h (by decide +kernel), by simp [bulkD], by simp [deepD]⟩
theorem Rk3.nat {n : Nat} (h : n ≤ 10 ^ 500) : Rk3 (nD n) 0 0 := Rk3.int (by rw [Int.natAbs_natCast]; exact h)
theorem Rk3.bl (x : Bool) : Rk3 (.bl x) 0 0 := ⟨by simp [plainD], by simp [bulkD], by simp [deepD]⟩
theorem Rk3.non : Rk3 .non 0 0 := ⟨by simp [plainD], by simp [bulkD], by simp [deepD]⟩
theorem Rk3.mono {d : D} {b k b' k' : Nat} (h : Rk3 d b k) (hb : b ≤ b') (hk : k ≤ k') : Rk3 d b' k' := ⟨h.1, Nat.le_trans h.2.1 hb, Nat.le_trans h.2.2 hk⟩
theorem Rks.nil : Rks [] 0 0 := ⟨by simp [plainDs], by simp [bulkDs], by simp [deepDs]⟩
theorem Rks.cons {d : D} {ds : List D} {b k b' k' : Nat} (h : Rk3 d b k) (hs : Rks ds b' k') : Rks (d :: ds) (b + 1 + b') (max k k') := by
  refine ⟨by simp [plainDs, h.1, hs.1], ?_, ?_⟩
  · rw [bulkDs]; have := h.2.1; have := hs.2.1; omega
  · rw [deepDs]; have := h.2.2; have := hs.2.2; omega
theorem Rks.tup {ds : List D} {b k : Nat} (h : Rks ds b k) : Rk3 (.tup ds) b (k + 1) := ⟨by rw [plainD]; exact h.1, by rw [bulkD]; exact h.2.1, by rw [deepD]; have := h.2.2; omega⟩
theorem Rks.lst {ds : List D} {b k : Nat} (h : Rks ds b k) : Rk3 (.lst ds) b (k + 1) := ⟨by rw [plainD]; exact h.1, by rw [bulkD]; exact h.2.1, by rw [deepD]; have := h.2.2; omega⟩
theorem Rks.map {γ : Type} {f : γ → D} {b k : Nat} : ∀ {l : List γ}, (∀ x ∈ l, Rk3 (f x) b k) → Rks (l.map f) (l.length * (b + 1)) k
  | [], _ => ⟨by simp [plainDs], by simp [bulkDs], by simp [deepDs]⟩
  | x :: l, h => by
    have a := h x List.mem_cons_self
    have c := Rks.map (l := l) fun y hy => h y (List.mem_cons_of_mem _ hy)
    have d := Rks.cons a c
    refine ⟨d.1, Nat.le_trans d.2.1 ?_, Nat.le_trans d.2.2 (by omega)⟩
    rw [List.length_cons, Nat.succ_mul]
    omega
theorem Rks.nats {l : List Nat} (h : ∀ x ∈ l, x ≤ 10 ^ 500) : Rks (l.map nD) l.length 0 := by
  have := Rks.map (f := nD) (b := 0) (k := 0) fun x hx => Rk3.nat (h x hx)
  simpa using this
theorem Rk3.tN {l : List Nat} (h : ∀ x ∈ l, x ≤ 10 ^ 500) : Rk3 (tN l) l.length 1 := (Rks.nats h).tup
end PP

set_option Elab.async false
set_option linter.all false
set_option maxRecDepth 100000
/-! The law K62: squares, hooks. -/
namespace K62
open PySem L2 PP PF
def sq (ps : List Nat) : Nat := ((List.range ps.length).filter (dg ps)).length
theorem filt_more {p : Nat → Bool} {n : Nat} (h : ∀ i, n ≤ i → p i = false) : ∀ d, (List.range (n + d)).filter p = (List.range n).filter p
  | 0 => rfl
  | d + 1 => by
    rw [show n + (d + 1) = (n + d) + 1 by omega, List.range_succ, List.filter_append, filt_more h d]
    simp [h (n + d) (by omega)]
theorem dg_out {ps : List Nat} {i : Nat} (h : ps.length ≤ i) : dg ps i = false := by
  unfold dg
  rw [List.getD_eq_getElem?_getD, List.getElem?_eq_none h]
  simp
theorem sq_cj {ps : List Nat} (h : PO ps) : sq (cj ps) = sq ps := by
  unfold sq
  have e1 := filt_more (p := dg ps) (n := ps.length) (fun i hi => dg_out hi) (cj ps).length
  have e2 := filt_more (p := dg (cj ps)) (n := (cj ps).length) (fun i hi => dg_out hi) ps.length
  have e3 : (List.range ((cj ps).length + ps.length)).filter (dg (cj ps)) = (List.range ((cj ps).length + ps.length)).filter (dg ps) := List.filter_congr fun i _ => dg_cj h.1 i
  rw [← e1, ← e2, e3, Nat.add_comm]
theorem zip_idx (ps : List Nat) : ps.zipIdx = (List.range ps.length).map fun i => (ps.getD i 0, i) := by
  apply List.ext_getElem?
  intro i
  rw [List.getElem?_zipIdx, List.getElem?_map]
  by_cases h : i < ps.length
  · rw [List.getElem?_eq_getElem h, List.getElem?_range h]
    simp [h]
  · rw [List.getElem?_eq_none (by omega), List.getElem?_eq_none (by simpa using h)]
    rfl
theorem sq_zip (ps : List Nat) : (ps.zipIdx.filter fun q => decide (q.2 + 1 ≤ q.1)).length = sq ps := by
  rw [zip_idx, List.filter_map, List.length_map]
  rfl
theorem square_ok {ps : List Nat} (h : PO ps) : F_square_in [(.sh, tN ps)] = .ok .sh (.int (sq ps)) [] := by
  refine run_w rfl ?_
  unfold D_square_in
  have ck := check_ok h
  have hl := h.len
  simp [entry, ck]
  simp [tN, enumD_map]
  refine W_gen (fun q : Nat × Nat => D.tup [nD q.2, nD q.1]) (fun q => [some (.sh, .tup (ps.map nD)), some (.sh, nD q.2), some (.sh, nD q.1)]) (fun q => decide (q.2 + 1 ≤ q.1)) (fun _ => .int 1) (by rw [List.length_zipIdx, sizeLine_eq]; omega) (fun q hq => ⟨by simp, by simp, wr_eq ?_, fun _ => ⟨.sh, by simp⟩⟩) ?_
  · have : ((q.2 : Int) + 1 ≤ q.1) ↔ q.2 + 1 ≤ q.1 := by omega
    simp [nD, this]
  · have e := sq_zip ps
    simp [lenD, e]
/-! the greatest size by going through -/
def sc (ps : List Nat) (s : Nat) : Bool := decide (s ≤ (ps.filter fun x => decide (s ≤ x)).length)
theorem sc_0 (ps : List Nat) : sc ps 0 = true := by simp [sc]
theorem sc_s {ps : List Nat} (h : PO ps) (s : Nat) : sc ps (s + 1) = dg ps s := by
  unfold sc dg
  exact decide_eq_decide.2 (cnt_iff h.1 s s)
theorem sc_range {ps : List Nat} (h : PO ps) : (List.range (ps.length + 1)).filter (sc ps) = List.range (sq ps + 1) := by
  rw [List.range_succ_eq_map, List.filter_cons_of_pos (sc_0 ps), List.filter_map, List.range_succ_eq_map]
  have e : (List.range ps.length).filter (sc ps ∘ Nat.succ) = (List.range ps.length).filter (dg ps) := List.filter_congr fun i _ => sc_s h i
  rw [e]
  obtain ⟨d1, _⟩ := down_range (p := dg ps) (fun i hi => dg_down h.1 hi) ps.length
  rw [d1]
  unfold sq
  rw [← d1]
theorem max_range (k : Nat) : maxD (.lst ((List.range (k + 1)).map nD)) = some (.sh, .int k) := by
  rw [List.range_succ_eq_map, maxD_nD]
  congr 3
  have h1 := le_foldl_max ((List.range k).map Nat.succ) 0 k
  rcases foldl_max_mem ((List.range k).map Nat.succ) 0 with h2 | h2
  · rw [h2]
    have : k ≤ ((List.range k).map Nat.succ).foldl max 0 := h1.2 (by
      cases k with
      | zero => exact .inl (Nat.le_refl _)
      | succ k => exact .inr ⟨k + 1, List.mem_map.2 ⟨k, by simp, rfl⟩, Nat.le_refl _⟩)
    rw [h2] at this
    omega
  · obtain ⟨i, hi, e⟩ := List.mem_map.1 h2
    have hi := List.mem_range.1 hi
    have : k ≤ ((List.range k).map Nat.succ).foldl max 0 := h1.2 (by
      cases k with
      | zero => exact .inl (Nat.le_refl _)
      | succ k => exact .inr ⟨k + 1, List.mem_map.2 ⟨k, by simp, rfl⟩, Nat.le_refl _⟩)
    omega
/-! hooks -/
def hk (ps : List Nat) (q : Nat × Nat) : D := .tup ((List.range q.1).map fun c => .int ((q.1 : Int) - c + (cnt ps c : Nat) - q.2 - 1))
def hks (ps : List Nat) : D := .tup (ps.zipIdx.map (hk ps))
@[irreducible] def hkb (i : Nat) : M PP.Flow := (sExp (mMut 2 isLst (mCons (mOp1 tupleD (mComp [5] (iRg1 (mB 4)) (gV 5) cYes (mOp2 subI (mOp2 subI (mOp2 addD (mOp2 subI (mB 4) (mB 5)) (mOp2 ixD (mB 1) (mB 5))) (mB 3)) (mC (.int 1))))) mNil) appendD))
theorem cj_at {ps : List Nat} (h : PO ps) {c : Nat} (hc : c < ps.getD 0 0) : ixD (tN (cj ps)) (.int c) = some (.sh, .int (cnt ps c : Nat)) := by
  unfold tN ixD
  have : atD ((cj ps).map nD) (c : Nat) = some (nD (cnt ps c)) := by
    have hl := cj_len ps
    unfold atD atI ixN
    rw [if_pos (by omega), if_pos (by rw [List.length_map]; omega)]
    have e : (cj ps)[c]? = some (cnt ps c) := by
      unfold cj
      rw [List.getElem?_map, List.getElem?_range hc]
      rfl
    simp [e]
  simp only [this]
  rfl
theorem hkb_step {ps : List Nat} (h : PO ps) {q : Nat × Nat} (hq : q.1 ≤ ps.getD 0 0) (h60 : q.1 ≤ 60) {rows : List D} (hr : rows.length ≤ 100) {s0 : Slot} {Q : Cont PP.Flow}
    (H : Q .nx [s0, some (.sh, tN (cj ps)), some (.ow, .lst (rows ++ [hk ps q])), some (.sh, nD q.2), some (.sh, nD q.1), none]) :
    Wr (hkb 0 [s0, some (.sh, tN (cj ps)), some (.ow, .lst rows), some (.sh, nD q.2), some (.sh, nD q.1), none]) Q := by
  unfold hkb
  have at1 := fun {c : Nat} (hc : c < ps.getD 0 0) => cj_at h hc
  generalize tN (cj ps) = T at *
  simp [isLst]
  simp [nD, small62_eq]
  refine ⟨by omega, ?_⟩
  rw [rngN]
  refine W_map nD (fun c => .int ((q.1 : Int) - c + (cnt ps c : Nat) - q.2 - 1)) rfl (by rw [sizeLine_eq]; simp; omega) (fun c hc => ⟨.sh, wr_eq ?_⟩) ?_
  · have hc := List.mem_range.1 hc
    simp [nD]
    rw [at1 (by omega)]
    simp
  · simp [appendD, sizeLine_eq, show rows.length < 16777216 by omega]
    simpa [hk, nD] using H
theorem hooks_ok {ps : List Nat} (h : PO ps) : F_hooks [(.sh, tN ps)] = .ok .sh (hks ps) [] := by
  refine run_w rfl ?_
  have eD : D_hooks = (sSeq (sExp (mCall F_check_parts (aVal (mV 0) aNil)))
    (sSeq (sSet 1 (mCall F_raw_turned (aVal (mV 0) aNil)))
    (sSeq (sSet 2 (mLst mNil))
    (sSeq (sFor (iEnumG (mV 0)) (gT [(gV 3), (gV 4)]) (hkb 0))
    (sRet (mOp1 tupleD (mB 2))))))) := by unfold D_hooks hkb; rfl
  rw [eD]
  have ck := check_ok h
  have tk := turned_ok h
  have hl := h.len
  have en : enumOf (tN ps) = some (ps.zipIdx.map fun q : Nat × Nat => D.tup [nD q.2, nD q.1]) := by unfold tN; rw [enumOf_tup, enumD_map]
  generalize tN ps = T at *
  simp [entry, ck, tu, tk, sizeLine_eq, en]
  refine W_forL (fun q : Nat × Nat => D.tup [nD q.2, nD q.1]) (fun j ρ => ∃ s3 s4, ρ = [some (.sh, T), some (.sh, tN (cj ps)), some (.ow, .lst ((ps.zipIdx.take j).map (hk ps))), s3, s4, none]) ⟨none, none, by simp⟩ (fun I hI j q ρ hj ⟨s3, s4, e⟩ => ?_) (fun ρ ⟨s3, s4, e⟩ => ?_)
  · subst e
    have et : ps.zipIdx.take (j + 1) = ps.zipIdx.take j ++ [q] := by rw [List.take_succ, hj]; rfl
    have hq : q.1 ∈ ps := by
      obtain ⟨_, _, h3⟩ := List.mem_zipIdx (List.mem_of_getElem? hj)
      rw [h3]; exact List.getElem_mem _
    have q60 := h.le q.1 hq
    have qh : q.1 ≤ ps.getD 0 0 := by
      cases ps with
      | nil => simp at hq
      | cons p l =>
        rcases List.mem_cons.1 hq with e | e
        · rw [e]; exact Nat.le_refl _
        · exact (List.pairwise_cons.1 h.1).1 _ e
    simp
    refine hkb_step h qh q60 (by simp; omega) ?_
    simp
    exact hI ⟨some (.sh, nD q.2), some (.sh, nD q.1), by rw [et]; simp⟩
  · subst e
    rw [List.take_of_length_le (by simp)]
    simp [hks]
theorem law_hooks_ok {ps : List Nat} (h : PO ps) (h0 : ps ≠ []) : F__law_hooks [(.sh, tN ps)] = .ok .sh (hks ps) [] := by
  refine run_w rfl ?_
  have eD : D__law_hooks = (sSeq (sSet 1 (mCall F__law_turned (aVal (mV 0) aNil)))
    (sSeq (sSet 2 (mLst mNil))
    (sSeq (sFor (iEnumG (mV 0)) (gT [(gV 3), (gV 4)]) (hkb 0))
    (sRet (mOp1 tupleD (mB 2)))))) := by unfold D__law_hooks hkb; rfl
  rw [eD]
  have tk := law_turned_ok h h0
  have hl := h.len
  have en : enumOf (tN ps) = some (ps.zipIdx.map fun q : Nat × Nat => D.tup [nD q.2, nD q.1]) := by unfold tN; rw [enumOf_tup, enumD_map]
  generalize tN ps = T at *
  simp [entry, lt, tk, sizeLine_eq, en]
  refine W_forL (fun q : Nat × Nat => D.tup [nD q.2, nD q.1]) (fun j ρ => ∃ s3 s4, ρ = [some (.sh, T), some (.sh, tN (cj ps)), some (.ow, .lst ((ps.zipIdx.take j).map (hk ps))), s3, s4, none]) ⟨none, none, by simp⟩ (fun I hI j q ρ hj ⟨s3, s4, e⟩ => ?_) (fun ρ ⟨s3, s4, e⟩ => ?_)
  · subst e
    have et : ps.zipIdx.take (j + 1) = ps.zipIdx.take j ++ [q] := by rw [List.take_succ, hj]; rfl
    have hq : q.1 ∈ ps := by
      obtain ⟨_, _, h3⟩ := List.mem_zipIdx (List.mem_of_getElem? hj)
      rw [h3]; exact List.getElem_mem _
    have q60 := h.le q.1 hq
    have qh : q.1 ≤ ps.getD 0 0 := by
      cases ps with
      | nil => simp at hq
      | cons p l =>
        rcases List.mem_cons.1 hq with e | e
        · rw [e]; exact Nat.le_refl _
        · exact (List.pairwise_cons.1 h.1).1 _ e
    simp
    refine hkb_step h qh q60 (by simp; omega) ?_
    simp
    exact hI ⟨some (.sh, nD q.2), some (.sh, nD q.1), by rw [et]; simp⟩
  · subst e
    rw [List.take_of_length_le (by simp)]
    simp [hks]
theorem turned_parts_ok {ps : List Nat} (h : PO ps) : F_turned_parts [(.sh, tN ps)] = .ok .sh (tN (cj ps)) [] := by
  refine run_w rfl ?_
  unfold D_turned_parts
  have ck := check_ok h
  have tk := turned_ok h
  generalize tN ps = T at *
  simp [entry, ck, tu, tk]
theorem own_ok {ps : List Nat} (h : PO ps) : F_own_turned [(.sh, tN ps)] = .ok .sh (.bl (decide (cj ps = ps))) [] := by
  refine run_w rfl ?_
  unfold D_own_turned
  have ck := check_ok h
  have tk := turned_ok h
  have e := eqD_tN (cj ps) ps
  generalize tN ps = T at *
  simp [entry, ck, tu, tk, e]
theorem next_parts_ok {ps : List Nat} (h : PO ps) {fl : Fl} {d : D} (e : F_raw_next [(.sh, tN ps)] = .ok .sh d []) : F_next_parts [(.sh, tN ps)] = .ok .sh d [] := by
  refine run_w rfl ?_
  unfold D_next_parts
  have ck := check_ok h
  generalize tN ps = T at *
  simp [entry, ck, e]
end K62

set_option Elab.async false
set_option linter.all false
set_option maxRecDepth 100000
/-! The law K62: all the parts of few. -/
namespace K62
open PySem L2 PP PF
/-- the parts of n, each at most k, the greatest first -/
def allP : Nat → Nat → Nat → List (List Nat)
  | 0, _, _ => [[]]
  | f + 1, n, k => if n = 0 then [[]] else ((List.range (min n k)).reverse.map fun i => (allP f (n - (i + 1)) (i + 1)).map fun l => (i + 1) :: l).flatten
def ap (n : Nat) : List (List Nat) := allP 13 n n
theorem ap_small : ∀ n < 13, (ap n).length ≤ 100 ∧ ∀ l ∈ ap n, l.length ≤ 12 ∧ ∀ x ∈ l, x ≤ 12 := by decide +kernel
def apT (n : Nat) : List D := (ap n).map fun l => .tup (l.map nD)
theorem lt13 {n : Nat} (h : n < 13) : n = 0 ∨ n = 1 ∨ n = 2 ∨ n = 3 ∨ n = 4 ∨ n = 5 ∨ n = 6 ∨ n = 7 ∨ n = 8 ∨ n = 9 ∨ n = 10 ∨ n = 11 ∨ n = 12 := by omega
theorem all_parts_ok {n : Nat} (h : n < 13) : F_all_parts [(.sh, .int n)] = .ok .sh (.tup (apT n)) [] := by
  rcases lt13 h with rfl | rfl | rfl | rfl | rfl | rfl | rfl | rfl | rfl | rfl | rfl | rfl | rfl <;> kernel_rfl
theorem law_all_ok {n : Nat} (h : n < 13) : F__law_all [(.sh, .int n), (.sh, .int n)] = .ok .ow (.lst (apT n)) [] := by
  rcases lt13 h with rfl | rfl | rfl | rfl | rfl | rfl | rfl | rfl | rfl | rfl | rfl | rfl | rfl <;> kernel_rfl
theorem ap_repr {n : Nat} (h : n < 13) : ∃ s, reprD (.lst (apT n)) = some (.sh, .str s) ∧ SO s := by
  obtain ⟨a, b⟩ := ap_small n h
  have r := Rks.map (f := fun l : List Nat => D.tup (l.map nD)) (b := 12) (k := 1) (l := ap n) fun l hl => (Rk3.tN (l := l) fun x hx => Nat.le_trans ((b l hl).2 x hx) (by omega)).mono (b l hl).1 (by omega)
  refine r.lst.repr ?_ (by omega)
  omega
end K62

set_option Elab.async false
set_option linter.all false
set_option maxRecDepth 100000
/-! Plain: what the laws with a tape share: draws. -/
namespace PP
open PySem L2
namespace TP
def D__law_tape : M PP.Flow :=
    (sSeq (sSet 1 (mComp [2] (iSeq (mSlice (mB 0) none (some (mC (.int 63))))) (gV 2) cYes (mOp1 absI (mOp1 intD (mB 2)))))
    (sRet (mLst (mCons (mV 1) (mCons (mC (.int 0)) (mCons (mC (.int 0)) (mCons (mOp2 addD (mC (.int 31)) (mOp1 lenD (mB 1))) (mCons (mC (.int 0)) mNil))))))))
def F__law_tape : FM := runF 1 3 D__law_tape
/-- _law_pick(tape, many): 0 tape, 1 many, 2 cell, 3 digit, 4 number -/
def D__law_pick : M PP.Flow :=
    (sSeq (sIf (mAnd (mTst (mOp2 eqD (mOp2 ixD (mB 0) (mC (.int 2))) (mC (.int 0)))) (mTst (mOp2 ltI (mOp2 ixD (mB 0) (mC (.int 1))) (mOp1 lenD (mOp2 ixD (mB 0) (mC (.int 0))))))) (sSeq (sSet 2 (mOp2 ixD (mOp2 ixD (mB 0) (mC (.int 0))) (mOp2 ixD (mB 0) (mC (.int 1)))))
    (sSeq (sPut 0 (mOp2 addD (mOp2 ixD (mB 0) (mC (.int 1))) (mC (.int 1))) (mC (.int 1)) putList)
    (sSeq (sPut 0 (mOp2 modI (mOp1 intD (mOp2 addD (mOp2 addD (mOp2 mulI (mOp2 ixD (mB 0) (mC (.int 3))) (mC (.int 69621))) (mB 2)) (mC (.int 11)))) (mC (.int 2147483629))) (mC (.int 3)) putList)
    (sIf (mTst (mOp2 geI (mB 2) (mOp2 powI (mC (.int 10)) (mC (.int 18))))) (sPut 0 (mV 2) (mC (.int 2)) putList) sNil)))) sNil)
    (sSeq (sIf (mTst (mOp2 gtI (mOp2 ixD (mB 0) (mC (.int 2))) (mC (.int 0)))) (sSeq (sSet 3 (mOp2 modI (mOp1 intD (mOp2 ixD (mB 0) (mC (.int 2)))) (mB 1)))
    (sSeq (sPut 0 (mOp2 fdivI (mOp2 ixD (mB 0) (mC (.int 2))) (mB 1)) (mC (.int 2)) putList)
    (sRetV 3))) sNil)
    (sSeq (sPut 0 (mOp2 addD (mOp2 ixD (mB 0) (mC (.int 4))) (mC (.int 1))) (mC (.int 4)) putList)
    (sSeq (sSet 4 (mOp2 modI (mOp1 intD (mOp2 mulI (mOp1 intD (mOp2 addD (mOp2 ixD (mB 0) (mC (.int 3))) (mOp2 mulI (mC (.int 7919)) (mOp2 ixD (mB 0) (mC (.int 4)))))) (mC (.int 48271)))) (mC (.int 2147483647))))
    (sSeq (sSet 4 (mOp2 modI (mOp1 intD (mOp2 mulI (mB 4) (mOp2 addD (mOp2 fdivI (mB 4) (mC (.int 1009))) (mC (.int 69621))))) (mC (.int 2147483647))))
    (sSeq (sSet 4 (mOp2 modI (mOp1 intD (mOp2 mulI (mB 4) (mOp2 addD (mOp2 fdivI (mB 4) (mC (.int 2003))) (mC (.int 40692))))) (mC (.int 2147483399))))
    (sRet (mOp2 modI (mOp1 intD (mOp2 fdivI (mB 4) (mC (.int 16)))) (mB 1)))))))))
def F__law_pick : FM := runF 2 5 D__law_pick
/-- _law_any(tape, things): 0 tape, 1 things -/
def D__law_any : M PP.Flow :=
    (sRet (mOp2 ixD (mB 1) (mCall F__law_pick (aLend 0 (aVal (mOp1 lenD (mB 1)) aNil)))))
def F__law_any : FM := runF 2 2 D__law_any
/-- _law_deep(tape): 0 tape, 1 thing, 2 step -/
def D__law_deep : M PP.Flow :=
    (sSeq (sSet 1 (mCall F__law_any (aLend 0 (aVal (mLst (mCons (mC .non) (mCons (mC (.str "?")) (mCons (mNewK) mNil)))) aNil))))
    (sSeq (sFor (iRg1 (mCall F__law_any (aLend 0 (aVal (mLst (mCons (mC (.int 6)) (mCons (mC (.int 9)) (mCons (mC (.int 30)) mNil)))) aNil)))) (gV 2) (sSet 1 (mCall F__law_any (aLend 0 (aVal (mLst (mCons (mTup (mCons (mV 1) mNil)) (mCons (mLst (mCons (mV 1) mNil)) mNil))) aNil)))))
    (sRetV 1)))
def F__law_deep : FM := runF 1 3 D__law_deep

end TP
/-- a tape: drawn at most k times -/
def Tape (k : Nat) (d : D) : Prop := ∃ (cells : List Int) (a b c e : Int), d = .lst [.lst (cells.map D.int), .int a, .int b, .int c, .int e] ∧ (∀ x ∈ cells, 0 ≤ x) ∧ 0 ≤ a ∧ 0 ≤ b ∧ 0 ≤ c ∧ c < 2 ^ 62 ∧ 0 ≤ e ∧ e ≤ k
theorem Tape.mono {k j : Nat} {d : D} (h : Tape k d) (hj : k ≤ j) : Tape j d := by
  obtain ⟨cells, a, b, c, e, h1, h2, h3, h4, h5, h6, h7, h8⟩ := h
  exact ⟨cells, a, b, c, e, h1, h2, h3, h4, h5, h6, h7, by omega⟩
variable {ρ : PP.Env}
def Kpick (k : Nat) (h : D) (m : Int) (f : PP.Flow) (ρ : PP.Env) : Prop := ∃ (r : Int) (h' : D), f = .rt .sh (.int r) ∧ backs [(.ow, h), (.sh, .int m)] ρ = some [(.ow, h')] ∧ 0 ≤ r ∧ r < m ∧ Tape (k + 1) h'
theorem pick_tail {k : Nat} {cells : List Int} {a c e m : Int} {s2 s3 s4 : Slot} {h : D} (h1 : ∀ x ∈ cells, 0 ≤ x) (h2 : 0 ≤ a) (hc : 0 ≤ c ∧ c < 2 ^ 62) (he : 0 ≤ e ∧ e ≤ k) (hk : k < 2 ^ 60) (hm : 0 < m) :
    Wr ((sSeq (sPut 0 (mOp2 addD (mOp2 ixD (mB 0) (mC (.int 4))) (mC (.int 1))) (mC (.int 4)) putList)
    (sSeq (sSet 4 (mOp2 modI (mOp1 intD (mOp2 mulI (mOp1 intD (mOp2 addD (mOp2 ixD (mB 0) (mC (.int 3))) (mOp2 mulI (mC (.int 7919)) (mOp2 ixD (mB 0) (mC (.int 4)))))) (mC (.int 48271)))) (mC (.int 2147483647))))
    (sSeq (sSet 4 (mOp2 modI (mOp1 intD (mOp2 mulI (mB 4) (mOp2 addD (mOp2 fdivI (mB 4) (mC (.int 1009))) (mC (.int 69621))))) (mC (.int 2147483647))))
    (sSeq (sSet 4 (mOp2 modI (mOp1 intD (mOp2 mulI (mB 4) (mOp2 addD (mOp2 fdivI (mB 4) (mC (.int 2003))) (mC (.int 40692))))) (mC (.int 2147483399))))
    (sRet (mOp2 modI (mOp1 intD (mOp2 fdivI (mB 4) (mC (.int 16)))) (mB 1))))))) [some (.pa, .lst [.lst (cells.map D.int), .int a, .int 0, .int c, .int e]), some (.sh, .int m), s2, s3, s4]) (Kpick k h m) := by
  have lg : ∀ {i : Int}, i.natAbs < 2 ^ 100 → i.natAbs.log2 ≤ 100 := fun h => log_small h
  generalize hn1 : (c + 7919 * (e + 1)) * 48271 % 2147483647 = n1
  generalize hn2 : n1 * (n1 / 1009 + 69621) % 2147483647 = n2
  generalize hn3 : n2 * (n2 / 2003 + 40692) % 2147483399 = n3
  have b1 : 0 ≤ n1 ∧ n1 < 2147483647 := by omega
  have b2 : 0 ≤ n2 ∧ n2 < 2147483647 := by
    rw [← hn2]; exact ⟨Int.emod_nonneg _ (by omega), Int.emod_lt_of_pos _ (by omega)⟩
  have b3 : 0 ≤ n3 ∧ n3 < 2147483399 := by
    rw [← hn3]; exact ⟨Int.emod_nonneg _ (by omega), Int.emod_lt_of_pos _ (by omega)⟩
  have g1 := lg (i := e + 1) (by omega)
  have g2 := lg (i := c + 7919 * (e + 1)) (by omega)
  have g3 := lg (i := n1) (by omega)
  have g4 := lg (i := n1 / 1009 + 69621) (by omega)
  have g5 := lg (i := n2) (by omega)
  have g6 := lg (i := n2 / 2003 + 40692) (by omega)
  simp [show Nat.log2 7919 = 12 by decide, show Nat.log2 48271 = 15 by decide, show Nat.log2 1009 < 9000 by decide, show Nat.log2 2003 < 9000 by decide, show Nat.log2 16 < 9000 by decide, hm,
    show 12 + (e + 1).natAbs.log2 < 1000000 by omega, show (c + 7919 * (e + 1)).natAbs.log2 + 15 < 1000000 by omega, hn1, show n1.natAbs.log2 + (n1 / 1009 + 69621).natAbs.log2 < 1000000 by omega, hn2,
    show n2.natAbs.log2 + (n2 / 2003 + 40692).natAbs.log2 < 1000000 by omega, hn3]
  exact ⟨n3 / 16 % m, _, rfl, rfl, Int.emod_nonneg _ (by omega), Int.emod_lt_of_pos _ hm, cells, a, 0, c, e + 1, rfl, h1, h2, Int.le_refl _, hc.1, hc.2, by omega, by omega⟩
theorem pick_mid {k : Nat} {cells : List Int} {a b c e m : Int} {s2 s3 s4 : Slot} {h : D} (h1 : ∀ x ∈ cells, 0 ≤ x) (h2 : 0 ≤ a) (hb : 0 ≤ b) (hc : 0 ≤ c ∧ c < 2 ^ 62) (he : 0 ≤ e ∧ e ≤ k) (hk : k < 2 ^ 60) (hm : 0 < m) (hm2 : m < 2 ^ 200) :
    Wr ((sSeq (sIf (mTst (mOp2 gtI (mOp2 ixD (mB 0) (mC (.int 2))) (mC (.int 0)))) (sSeq (sSet 3 (mOp2 modI (mOp1 intD (mOp2 ixD (mB 0) (mC (.int 2)))) (mB 1)))
    (sSeq (sPut 0 (mOp2 fdivI (mOp2 ixD (mB 0) (mC (.int 2))) (mB 1)) (mC (.int 2)) putList)
    (sRetV 3))) sNil)
    (sSeq (sPut 0 (mOp2 addD (mOp2 ixD (mB 0) (mC (.int 4))) (mC (.int 1))) (mC (.int 4)) putList)
    (sSeq (sSet 4 (mOp2 modI (mOp1 intD (mOp2 mulI (mOp1 intD (mOp2 addD (mOp2 ixD (mB 0) (mC (.int 3))) (mOp2 mulI (mC (.int 7919)) (mOp2 ixD (mB 0) (mC (.int 4)))))) (mC (.int 48271)))) (mC (.int 2147483647))))
    (sSeq (sSet 4 (mOp2 modI (mOp1 intD (mOp2 mulI (mB 4) (mOp2 addD (mOp2 fdivI (mB 4) (mC (.int 1009))) (mC (.int 69621))))) (mC (.int 2147483647))))
    (sSeq (sSet 4 (mOp2 modI (mOp1 intD (mOp2 mulI (mB 4) (mOp2 addD (mOp2 fdivI (mB 4) (mC (.int 2003))) (mC (.int 40692))))) (mC (.int 2147483399))))
    (sRet (mOp2 modI (mOp1 intD (mOp2 fdivI (mB 4) (mC (.int 16)))) (mB 1)))))))) [some (.pa, .lst [.lst (cells.map D.int), .int a, .int b, .int c, .int e]), some (.sh, .int m), s2, s3, s4]) (Kpick k h m) := by
  by_cases q : 0 < b
  · have lm : m.natAbs.log2 ≤ 200 := log_small (by omega)
    simp [q, hm, show m.natAbs.log2 < 9000 by omega]
    exact ⟨b % m, _, rfl, rfl, Int.emod_nonneg _ (by omega), Int.emod_lt_of_pos _ hm, cells, a, b / m, c, e, rfl, h1, h2, Int.ediv_nonneg hb (by omega), hc.1, hc.2, by omega, by omega⟩
  · obtain rfl : b = 0 := by omega
    have t := pick_tail (s2 := s2) (s3 := s3) (s4 := s4) (h := h) h1 h2 hc he hk hm
    exact W_seq (by simp) t
theorem pick_ok {k : Nat} {d : D} {m : Int} (h : Tape k d) (hk : k < 2 ^ 60) (hm : 0 < m) (hm2 : m < 2 ^ 200) : ∃ (r : Int) (d' : D), TP.F__law_pick [(.ow, d), (.sh, .int m)] = .ok .sh (.int r) [(.ow, d')] ∧ 0 ≤ r ∧ r < m ∧ Tape (k + 1) d' := by
  obtain ⟨cells, a, b, c, e, rfl, hcells, ha, hb0, hc0, hc1, he0, he1⟩ := h
  have key : Wr (TP.D__law_pick (entry 5 [(.ow, .lst [.lst (cells.map D.int), .int a, .int b, .int c, .int e]), (.sh, .int m)])) (Kpick k (.lst [.lst (cells.map D.int), .int a, .int b, .int c, .int e]) m) := by
    have e0 : entry 5 [(Fl.ow, D.lst [.lst (cells.map D.int), .int a, .int b, .int c, .int e]), (Fl.sh, D.int m)] = [some (.pa, .lst [.lst (cells.map D.int), .int a, .int b, .int c, .int e]), some (.sh, .int m), none, none, none] := rfl
    rw [e0]
    unfold TP.D__law_pick
    by_cases q : b = 0 ∧ a < cells.length
    · obtain ⟨rfl, qa⟩ := q
      have hget : (cells.map D.int)[a.toNat]? = some (.int cells[a.toNat]) := by
        rw [List.getElem?_map, List.getElem?_eq_getElem (by omega)]; rfl
      have hat : atD (cells.map D.int) a = some (.int cells[a.toNat]) := by
        have := atI_nat' _ _ _ hget
        have e : ((a.toNat : Nat) : Int) = a := by omega
        rw [e] at this; exact this
      have hcell := hcells cells[a.toNat] (List.getElem_mem _)
      generalize cells[a.toNat] = cell at hat hcell
      have lc : c.natAbs.log2 ≤ 62 := log_small (by omega)
      generalize hc' : (c * 69621 + cell + 11) % 2147483629 = c'
      have bc : 0 ≤ c' ∧ c' < 2 ^ 62 := by omega
      by_cases qc : 10 ^ 18 ≤ cell
      · have t := pick_mid (k := k) (cells := cells) (a := a + 1) (b := cell) (c := c') (e := e) (m := m) (s2 := some (.sh, .int cell)) (s3 := none) (s4 := none) (h := .lst [.lst (cells.map D.int), .int a, .int 0, .int c, .int e]) hcells (by omega) hcell bc ⟨he0, he1⟩ hk hm hm2
        exact W_seq (by simp [qa, hat, show Nat.log2 69621 = 16 by decide, show c.natAbs.log2 + 16 < 1000000 by omega, hc', show (1000000000000000000 : Int) ≤ cell by omega]) t
      · have t := pick_mid (k := k) (cells := cells) (a := a + 1) (b := 0) (c := c') (e := e) (m := m) (s2 := some (.sh, .int cell)) (s3 := none) (s4 := none) (h := .lst [.lst (cells.map D.int), .int a, .int 0, .int c, .int e]) hcells (by omega) (by omega) bc ⟨he0, he1⟩ hk hm hm2
        exact W_seq (by simp [qa, hat, show Nat.log2 69621 = 16 by decide, show c.natAbs.log2 + 16 < 1000000 by omega, hc', show ¬ (1000000000000000000 : Int) ≤ cell by omega]) t
    · have t := pick_mid (k := k) (cells := cells) (a := a) (b := b) (c := c) (e := e) (m := m) (s2 := none) (s3 := none) (s4 := none) (h := .lst [.lst (cells.map D.int), .int a, .int b, .int c, .int e]) hcells (by omega) hb0 ⟨hc0, hc1⟩ ⟨he0, he1⟩ hk hm hm2
      by_cases qb : b = 0
      · have : ¬ a < cells.length := fun z => q ⟨qb, z⟩
        subst qb
        exact W_seq (by simp [this]) t
      · exact W_seq (by simp [qb]) t
  obtain ⟨f, ρ, e1, r, h', rfl, hb, r0, r1, ht⟩ := key.ex
  exact ⟨r, h', run_rt rfl e1 hb, r0, r1, ht⟩
theorem tape_ok (ns : List Int) (hl : ns.length ≤ 63) : ∃ d, TP.F__law_tape [(.sh, .scr ns)] = .ok .ow d [] ∧ Tape 0 d := by
  have hc : cutD (ns.map D.int) none (some 63) = ns.map D.int := by
    have := cut_take (ns.map D.int) 63
    rw [List.take_of_length_le (by simpa using hl)] at this
    exact this
  refine ⟨.lst [.lst ((ns.map fun i : Int => if i < 0 then -i else i).map D.int), .int 0, .int 0, .int (31 + ns.length), .int 0], ?_, _, 0, 0, _, 0, rfl, fun x hx => ?_, by omega, by omega, by omega, by omega, by omega, by omega⟩
  · refine run_w rfl ?_
    unfold TP.D__law_tape
    simp [entry, hc]
    refine W_map D.int (fun i => .int (if i < 0 then -i else i)) rfl (by rw [sizeLine_eq]; omega) (fun x hx => ⟨.sh, by simp⟩) ?_
    simp [sizeLine_eq, Function.comp_def]
  · obtain ⟨i, _, rfl⟩ := List.mem_map.1 hx
    split <;> omega
theorem tany_ok {k : Nat} {d : D} (h : Tape k d) (hk : k < 2 ^ 60) (ds : List D) (h0 : 0 < ds.length) (h1 : ds.length < 1000) : ∃ (x d' : D), TP.F__law_any [(.ow, d), (.sh, .lst ds)] = .ok .sh x [(.ow, d')] ∧ x ∈ ds ∧ Tape (k + 1) d' := by
  obtain ⟨r, d', e, r0, r1, hd⟩ := pick_ok (m := (ds.length : Int)) h hk (by omega) (by omega)
  obtain ⟨n, rfl⟩ : ∃ n : Nat, r = n := ⟨r.toNat, by omega⟩
  have hn : n < ds.length := by omega
  refine ⟨ds[n], d', ?_, List.getElem_mem _, hd⟩
  simp [TP.F__law_any, runF_def, TP.D__law_any, entry, e, atI_nat' _ _ _ (List.getElem?_eq_getElem hn)]
/-- .. of a tuple -/
theorem tanyT_ok {k : Nat} {d : D} (h : Tape k d) (hk : k < 2 ^ 60) (ds : List D) (h0 : 0 < ds.length) (h1 : ds.length < 1000) : ∃ (x d' : D), TP.F__law_any [(.ow, d), (.sh, .tup ds)] = .ok .sh x [(.ow, d')] ∧ x ∈ ds ∧ Tape (k + 1) d' := by
  obtain ⟨r, d', e, r0, r1, hd⟩ := pick_ok (m := (ds.length : Int)) h hk (by omega) (by omega)
  obtain ⟨n, rfl⟩ : ∃ n : Nat, r = n := ⟨r.toNat, by omega⟩
  have hn : n < ds.length := by omega
  refine ⟨ds[n], d', ?_, List.getElem_mem _, hd⟩
  simp [TP.F__law_any, runF_def, TP.D__law_any, entry, e, atI_nat' _ _ _ (List.getElem?_eq_getElem hn)]
/-- a def that is lent the tape -/
def Tr (r : FRes) (fl : Fl) (k : Nat) (P : D → Prop) : Prop := ∃ d h', r = .ok fl d [(.ow, h')] ∧ Tape k h' ∧ P d
def Ktr (as : List (Fl × D)) (fl : Fl) (k : Nat) (P : D → Prop) (f : PP.Flow) (ρ : PP.Env) : Prop := ∃ d h', f = .rt fl d ∧ backs as ρ = some [(.ow, h')] ∧ Tape k h' ∧ P d
theorem Tr_run {np n : Nat} {b : M PP.Flow} {as : List (Fl × D)} {fl : Fl} {k : Nat} {P : D → Prop} (h : as.length = np) (w : Wr (b (entry n as)) (Ktr as fl k P)) : Tr (runF np n b as) fl k P := by
  obtain ⟨f, ρ, e, d, h', rfl, hb, hh, hp⟩ := w.ex
  exact ⟨d, h', run_rt h e hb, hh, hp⟩
theorem Kcall_tr {r : FRes} {fl f0 g : Fl} {k i : Nat} {h : D} {vals : List Ag} {P : D → Prop} {Q : Cont R} (e : Tr r fl k P) (hv : ∀ ρ, giveBack vals [] ρ = some ρ) (H : ∀ d h', Tape k h' → P d → Q (.v fl d) (ρ.set i (some (f0, h')))) :
    Kcall r (⟨some (i, f0), g, h⟩ :: vals) ρ Q := by
  obtain ⟨d, h', e, hh, hp⟩ := e
  rw [e]
  show Kopt (giveBack vals [] (ρ.set i (some (f0, h')))) (Kgiven fl d Q)
  rw [hv]
  exact H d h' hh hp
theorem W_pick {k : Nat} {h : D} {m : Int} {i : Nat} {fl : Fl} {Q : Cont R} (hh : Tape k h) (hk : k < 2 ^ 60) (hm : 0 < m) (hm2 : m < 2 ^ 200) (H : ∀ (r : Nat) h', (r : Int) < m → Tape (k + 1) h' → Q (.v .sh (.int r)) (ρ.set i (some (fl, h')))) :
    Kcall (TP.F__law_pick [(.ow, h), (.sh, .int m)]) [⟨some (i, fl), .ow, h⟩, ⟨none, .sh, .int m⟩] ρ Q := by
  obtain ⟨r, h', e, r0, r1, hd⟩ := pick_ok hh hk hm hm2
  rw [e]
  have := H r.toNat h' (by omega) hd
  rw [show ((r.toNat : Nat) : Int) = r by omega] at this
  exact this
theorem W_tany {k : Nat} {h : D} {ds : List D} {i : Nat} {fl : Fl} {Q : Cont R} (hh : Tape k h) (hk : k < 2 ^ 60) (h0 : 0 < ds.length) (h1 : ds.length < 1000) (H : ∀ x h', x ∈ ds → Tape (k + 1) h' → Q (.v .sh x) (ρ.set i (some (fl, h')))) :
    Kcall (TP.F__law_any [(.ow, h), (.sh, .lst ds)]) [⟨some (i, fl), .ow, h⟩, ⟨none, .sh, .lst ds⟩] ρ Q := by
  obtain ⟨x, h', e, hx, hd⟩ := tany_ok hh hk ds h0 h1
  rw [e]
  exact H x h' hx hd
theorem W_tanyT {k : Nat} {h : D} {ds : List D} {i : Nat} {fl : Fl} {Q : Cont R} (hh : Tape k h) (hk : k < 2 ^ 60) (h0 : 0 < ds.length) (h1 : ds.length < 1000) (H : ∀ x h', x ∈ ds → Tape (k + 1) h' → Q (.v .sh x) (ρ.set i (some (fl, h')))) :
    Kcall (TP.F__law_any [(.ow, h), (.sh, .tup ds)]) [⟨some (i, fl), .ow, h⟩, ⟨none, .sh, .tup ds⟩] ρ Q := by
  obtain ⟨x, h', e, hx, hd⟩ := tanyT_ok hh hk ds h0 h1
  rw [e]
  exact H x h' hx hd
/-- a thing nested in tuples and lists -/
def Deep (d : D) : Prop := d = .non ∨ d = .str "?" ∨ d = .dK [] ∨ (∃ x, d = .tup [x]) ∨ ∃ x, d = .lst [x]
theorem deep_ok {k : Nat} {h : D} (hh : Tape k h) (hk : k < 2 ^ 50) : Tr (TP.F__law_deep [(.ow, h)]) .sh (k + 40) Deep := by
  refine Tr_run rfl ?_
  unfold TP.D__law_deep
  simp [entry, mNewK, sizeLine_eq]
  refine W_tany hh (by omega) (by decide) (by decide) fun x ha hx Ha => ?_
  have hx : Deep x := by
    simp only [List.mem_cons, List.not_mem_nil, or_false] at hx
    rcases hx with rfl | rfl | rfl
    · exact .inl rfl
    · exact .inr (.inl rfl)
    · exact .inr (.inr (.inl rfl))
  simp [sizeLine_eq]
  refine W_tany Ha (by omega) (by decide) (by decide) fun m hb hm Hb => ?_
  obtain ⟨m, rfl, hm⟩ : ∃ n : Nat, m = .int n ∧ n ≤ 30 := by
    simp only [List.mem_cons, List.not_mem_nil, or_false] at hm
    rcases hm with rfl | rfl | rfl
    · exact ⟨6, rfl, by omega⟩
    · exact ⟨9, rfl, by omega⟩
    · exact ⟨30, rfl, by omega⟩
  simp [small62_eq, show (-4611686018427387904 : Int) ≤ m by omega, show (m : Int) < 4611686018427387904 by omega]
  refine W_range (fun j ρ => ∃ (x h' : D) (s : Slot), Deep x ∧ Tape (k + 2 + j) h' ∧ ρ = [some (.pa, h'), some (.sh, x), s]) ⟨x, hb, none, hx, Hb, rfl⟩ (fun I hI j ρ hj ⟨x, h', s, hx, ht, e⟩ => ?_) (fun ρ ⟨x, h', s, hx, ht, e⟩ => ?_)
  · subst e
    simp [sizeLine_eq]
    refine W_tany ht (by omega) (by simp) (by simp) fun y hc hy Hc => ?_
    simp
    refine hI ⟨y, hc, some (.sh, .int j), ?_, Hc.mono (by omega), rfl⟩
    simp only [List.mem_cons, List.not_mem_nil, or_false] at hy
    rcases hy with rfl | rfl
    · exact .inr (.inr (.inr (.inl ⟨_, rfl⟩)))
    · exact .inr (.inr (.inr (.inr ⟨_, rfl⟩)))
  · subst e
    simp
    exact ⟨x, _, rfl, rfl, ht.mono (by omega), hx⟩
end PP

set_option Elab.async false
set_option linter.all false
set_option maxRecDepth 100000
/-! What is none, nested. -/
namespace PP
open PySem L2
inductive Dp : D → Prop where
  | non : Dp .non
  | str : Dp (.str "?")
  | dct : Dp (.dK [])
  | tup {x : D} : Dp x → Dp (.tup [x])
  | lst {x : D} : Dp x → Dp (.lst [x])
theorem deepP_ok {k : Nat} {h : D} (hh : Tape k h) (hk : k < 2 ^ 50) : Tr (TP.F__law_deep [(.ow, h)]) .sh (k + 40) Dp := by
  refine Tr_run rfl ?_
  unfold TP.D__law_deep
  simp [entry, mNewK, sizeLine_eq]
  refine W_tany hh (by omega) (by decide) (by decide) fun x ha hx Ha => ?_
  have hx : Dp x := by
    simp only [List.mem_cons, List.not_mem_nil, or_false] at hx
    rcases hx with rfl | rfl | rfl
    · exact .non
    · exact .str
    · exact .dct
  simp [sizeLine_eq]
  refine W_tany Ha (by omega) (by decide) (by decide) fun m hb hm Hb => ?_
  obtain ⟨m, rfl, hm⟩ : ∃ n : Nat, m = .int n ∧ n ≤ 30 := by
    simp only [List.mem_cons, List.not_mem_nil, or_false] at hm
    rcases hm with rfl | rfl | rfl
    · exact ⟨6, rfl, by omega⟩
    · exact ⟨9, rfl, by omega⟩
    · exact ⟨30, rfl, by omega⟩
  simp [small62_eq, show (-4611686018427387904 : Int) ≤ m by omega, show (m : Int) < 4611686018427387904 by omega]
  refine W_range (fun j ρ => ∃ (x h' : D) (s : Slot), Dp x ∧ Tape (k + 2 + j) h' ∧ ρ = [some (.pa, h'), some (.sh, x), s]) ⟨x, hb, none, hx, Hb, rfl⟩ (fun I hI j ρ hj ⟨x, h', s, hx, ht, e⟩ => ?_) (fun ρ ⟨x, h', s, hx, ht, e⟩ => ?_)
  · subst e
    simp [sizeLine_eq]
    refine W_tany ht (by omega) (by simp) (by simp) fun y hc hy Hc => ?_
    simp
    refine hI ⟨y, hc, some (.sh, .int j), ?_, Hc.mono (by omega), rfl⟩
    simp only [List.mem_cons, List.not_mem_nil, or_false] at hy
    rcases hy with rfl | rfl
    · exact .tup hx
    · exact .lst hx
  · subst e
    simp
    exact ⟨x, _, rfl, rfl, ht.mono (by omega), hx⟩
end PP

set_option Elab.async false
set_option linter.all false
set_option maxRecDepth 100000
/-! sorted of a list of naturals. -/
namespace PP
open PySem L2
theorem sortedAD_nats (l : List Nat) : ∃ m : List Nat, sortedAD (.lst (l.map nD)) = some (.ow, .lst (m.map nD)) ∧ m.Perm l ∧ m.Pairwise (· ≤ ·) := by
  have p := sortI_perm (l.map fun x : Nat => (x : Int))
  have s := sortI_sorted (l.map fun x : Nat => (x : Int))
  obtain ⟨m, e⟩ := natsOf (sortI (l.map fun x : Nat => (x : Int))) fun x hx => by
    obtain ⟨y, _, rfl⟩ := List.mem_map.1 (p.mem_iff.1 hx)
    omega
  rw [e] at s p
  refine ⟨m, ?_, ?_, ?_⟩
  · unfold sortedAD seqOf
    dsimp only
    rw [show l.map nD = (l.map fun x : Nat => (x : Int)).map D.int by rw [List.map_map]; rfl, intsOf_map]
    simp only [Option.map_some, e, List.map_map]
    rfl
  · have := p.map Int.toNat
    rw [List.map_map, List.map_map] at this
    have z : (Int.toNat ∘ fun x : Nat => (x : Int)) = id := by funext x; simp
    rw [z, List.map_id, List.map_id] at this
    exact this
  · refine List.Pairwise.of_map (fun x : Nat => (x : Int)) (fun a b h => ?_) s
    have h : (a : Int) ≤ b := h
    omega
end PP

set_option Elab.async false
set_option linter.all false
set_option maxRecDepth 100000
/-! The law K62: parts that are drawn. -/
namespace K62
open PySem L2 PP PF
open TP hiding F__law_any F__law_pick F__law_deep F__law_tape D__law_any D__law_pick D__law_deep D__law_tape
theorem pk : F__law_pick = TP.F__law_pick := rfl
theorem ay : F__law_any = TP.F__law_any := rfl
theorem min_cast2 (a b : Nat) : min (a : Int) (b : Int) = (min a b : Nat) := by omega
@[irreducible] def dr : M PP.Flow := (sIf (mTst (mOp2 gtI (mB 2) (mC (.int 0)))) (sSeq (sSet 6 (mOp2 addD (mC (.int 1)) (mCall F__law_pick (aLend 0 (aVal (mOp2 min2I (mB 2) (mB 4)) aNil)))))
    (sSeq (sExp (mMut 3 isLst (mCons (mV 6) mNil) appendD))
    (sSet 2 (mOp2 subI (mB 2) (mB 6))))) sNil)
theorem dr_step {k : Nat} {h : D} (hh : Tape k h) (hk : k < 2 ^ 49) {left w : Nat} (hw : 1 ≤ w) (hl : left ≤ 60) {found : List Nat} (hf : found.length ≤ 100) {s1 s5 s6 : Slot} {Q : Cont PP.Flow}
    (H0 : left = 0 → Q .nx [some (.pa, h), s1, some (.sh, .int (left : Nat)), some (.ow, .lst (found.map nD)), some (.sh, .int w), s5, s6])
    (H1 : ∀ p h', 1 ≤ p → p ≤ left → Tape (k + 1) h' → Q .nx [some (.pa, h'), s1, some (.sh, .int (left - p : Nat)), some (.ow, .lst ((found ++ [p]).map nD)), some (.sh, .int w), s5, some (.sh, .int p)]) :
    Wr (dr [some (.pa, h), s1, some (.sh, .int (left : Nat)), some (.ow, .lst (found.map nD)), some (.sh, .int w), s5, s6]) Q := by
  unfold dr
  by_cases z : left = 0
  · subst z
    simp
    exact H0 rfl
  · simp [show 0 < left by omega, min_cast2, pk]
    refine W_pick hh (by omega) (by omega) (by omega) fun r ha hr Ha => ?_
    obtain ⟨p, hp⟩ : ∃ p, p = r + 1 := ⟨_, rfl⟩
    have e : (1 : Int) + r = (p : Nat) := by omega
    have e2 : (left : Int) - (p : Nat) = (left - p : Nat) := by omega
    have H := H1 p ha (by omega) (by omega) Ha
    simp [e]
    simp [isLst, appendD, sizeLine_eq, show found.length < 16777216 by omega, e2]
    simpa [nD] using H
theorem parts_draw {k : Nat} {h : D} (hh : Tape k h) (hk : k < 2 ^ 48) : Tr (F__law_parts [(.ow, h), (.sh, .int 30)]) .sh (k + 40) fun d => ∃ ps, d = tN ps ∧ PO ps ∧ ps ≠ [] := by
  refine Tr_run rfl ?_
  have eD : D__law_parts = (sSeq (sPar [2, 3] [(mOp2 addD (mC (.int 1)) (mCall F__law_pick (aLend 0 (aVal (mV 1) aNil)))), (mLst mNil)])
    (sSeq (sSet 4 (mCall F__law_any (aLend 0 (aVal (mLst (mCons (mC (.int 2)) (mCons (mC (.int 4)) (mCons (mC (.int 9)) (mCons (mC (.int 60)) mNil))))) aNil))))
    (sSeq (sFor (iRg1 (mB 1)) (gV 5) dr)
    (sRet (mOp1 tupleD (mOp1 revD (mOp1 sortedAD (mB 3)))))))) := by unfold D__law_parts dr; rfl
  rw [eD]
  simp [entry, pk, ay]
  refine W_pick hh (by omega) (by omega) (by omega) fun r ha hr Ha => ?_
  obtain ⟨S, hS⟩ : ∃ S, S = r + 1 := ⟨_, rfl⟩
  have e : (1 : Int) + r = (S : Nat) := by omega
  simp [e, sizeLine_eq]
  refine W_tany Ha (by omega) (by simp) (by simp) fun x hb hx Hb => ?_
  obtain ⟨w, rfl, w0⟩ : ∃ b : Nat, x = .int b ∧ 1 ≤ b := by
    simp only [List.mem_cons, List.not_mem_nil, or_false] at hx
    rcases hx with rfl | rfl | rfl | rfl
    · exact ⟨2, rfl, by omega⟩
    · exact ⟨4, rfl, by omega⟩
    · exact ⟨9, rfl, by omega⟩
    · exact ⟨60, rfl, by omega⟩
  simp [small62_eq]
  refine W_range (n := 30) (fun j ρ => ∃ h' left found s5 s6, Tape (k + 2 + j) h' ∧ found.length ≤ j ∧ found.sum + left = S ∧ (∀ x ∈ found, 1 ≤ x) ∧ (0 < j → found ≠ []) ∧ ρ = [some (.pa, h'), some (.sh, .int 30), some (.sh, .int (left : Nat)), some (.ow, .lst (found.map nD)), some (.sh, .int w), s5, s6]) ⟨hb, S, [], none, none, Hb.mono (by omega), by simp, by simp, by simp, by simp, rfl⟩ (fun I hI j ρ hj ⟨h', left, found, s5, s6, H', hl, hs, hx, h0, e⟩ => ?_) (fun ρ ⟨h', left, found, s5, s6, H', hl, hs, hx, h0, e⟩ => ?_)
  · subst e
    simp
    refine dr_step H' (by omega) w0 (by omega) (by omega) (fun z => ?_) (fun p h2 p1 p2 H2 => ?_)
    · refine hI ⟨h', left, found, some (.sh, .int j), s6, H'.mono (by omega), by omega, hs, hx, fun _ => ?_, rfl⟩
      intro z2
      subst z2
      simp at hs
      omega
    · refine hI ⟨h2, left - p, found ++ [p], some (.sh, .int j), some (.sh, .int p), H2.mono (by omega), by simp; omega, ?_, ?_, by simp, rfl⟩
      · simp; omega
      · intro x hm
        rcases List.mem_append.1 hm with q | q
        · exact hx x q
        · have q : x = p := by simpa using q
          omega
  · subst e
    obtain ⟨m, m1, m2, m3⟩ := sortedAD_nats found
    have hm := m2.length_eq
    have rv : m.reverse.map nD = (m.map nD).reverse := List.map_reverse
    simp [m1]
    refine ⟨_, _, rfl, rfl, H'.mono (by omega), m.reverse, ?_, ⟨?_, ?_, ?_⟩, ?_⟩
    · unfold tN; rw [rv]
    · rw [List.pairwise_reverse]; exact m3
    · intro x hm; exact hx x (m2.mem_iff.1 (by simpa using hm))
    · have := m2.sum_nat
      rw [List.sum_reverse]
      omega
    · intro z
      have z : m = [] := by simpa using z
      subst z
      exact h0 (by omega) (by simpa using hm.symm)
end K62

set_option Elab.async false
set_option linter.all false
set_option maxRecDepth 100000
/-! The law K62: what is right, block by block. -/
namespace K62
open PySem L2 PP PF
open TP hiding F__law_any F__law_pick F__law_deep F__law_tape D__law_any D__law_pick D__law_deep D__law_tape
theorem pm_le : ∀ s n k, n + k ≤ s → pm n k ≤ 2 ^ s
  | s, n, 0, _ => by rw [pm_0]; have := Nat.one_le_two_pow (n := s); split <;> omega
  | 0, n, k + 1, h => by omega
  | s + 1, n, k + 1, h => by
    rw [pm_s]
    have i1 := pm_le s n k (by omega)
    rw [Nat.pow_succ]
    split
    · have i2 := pm_le s (n - (k + 1)) (k + 1) (by omega)
      omega
    · omega
theorem pm_rep {n : Nat} (h : n ≤ 60) : ∃ s, reprD (.int (pm n n)) = some (.sh, .str s) ∧ SO s := by
  have := pm_le 120 n n (by omega)
  exact (Rk3.nat (n := pm n n) (Nat.le_trans this (by decide +kernel))).repr (by omega) (by omega)
theorem pl_rep {ps : List Nat} (h : PO ps) : ∃ s, reprD (.int (pl ps.sum ps.sum ps)) = some (.sh, .str s) ∧ SO s := by
  have := pm_le 120 ps.sum ps.sum (by have := h.2.2; omega)
  have h2 := pl_lt h.pt
  exact (Rk3.nat (n := pl ps.sum ps.sum ps) (Nat.le_trans (by omega : _ ≤ 2 ^ 120) (by decide +kernel))).repr (by omega) (by omega)
theorem po_rk {ps : List Nat} (h : PO ps) : Rk3 (tN ps) 60 1 := (Rk3.tN fun x hx => Nat.le_trans (h.le x hx) (by decide +kernel)).mono h.len (Nat.le_refl _)
theorem po_rep {ps : List Nat} (h : PO ps) : ∃ s, reprD (tN ps) = some (.sh, .str s) ∧ SO s := (po_rk h).repr (by omega) (by omega)
theorem po_cj {ps : List Nat} (h : PO ps) : PO (cj ps) := ⟨cj_desc ps, cj_pos h.1, by rw [cj_sum h.1]; exact h.2.2⟩
theorem cj_ne {ps : List Nat} (h : PO ps) (h0 : ps ≠ []) : cj ps ≠ [] := by
  intro z
  have := cj_len ps
  rw [z] at this
  cases ps with
  | nil => exact h0 rfl
  | cons p l =>
    have := h.2.1 p List.mem_cons_self
    simp at *
    omega
/-- the next, if there is one -/
inductive Nx (ps : List Nat) : D → Prop
  | no : Nx ps .non
  | so {nx : List Nat} : PO nx → nx ≠ [] → nx.sum = ps.sum → pl nx.sum nx.sum nx = pl ps.sum ps.sum ps + 1 → Nx ps (tN nx)
theorem next_both {ps : List Nat} (h : PO ps) : ∃ d, F__law_next [(.sh, tN ps)] = .ok .sh d [] ∧ F_next_parts [(.sh, tN ps)] = .ok .sh d [] ∧ Nx ps d := by
  have hl := h.len
  rcases split_ones h.1 h.2.1 with ⟨m, rfl⟩ | ⟨pre, a, m, rfl, ha, hx⟩
  · rw [List.length_replicate] at hl
    exact ⟨_, law_next_ones (by omega), next_parts_ok (fl := .sh) h (raw_next_ones (by omega)), .no⟩
  · have h60 := h.2.2
    rw [List.sum_append, List.sum_cons, List.sum_replicate_nat, Nat.mul_one] at h60
    rw [List.length_append, List.length_cons, List.length_replicate] at hl
    obtain ⟨l, hf⟩ := Fill.ex (k := a - 1) (by omega) (m + 1)
    obtain ⟨n1, n2⟩ := next_pl ha hf h.pt
    have s := n1.sum
    refine ⟨_, law_next_some ha hx (by omega) (by omega) hf, next_parts_ok (fl := .sh) h (raw_next_some ha (by omega) (by omega) hf), .so ⟨n1.desc, fun x hx => (n1.le x hx).1, by rw [s]; exact h.2.2⟩ (by simp) s ?_⟩
    rw [s, n2]
@[irreducible] def e3 : M PP.Flow := (sIf (mTst (mOp2 neD (mOp1 reprD (mCall F_parts_many (aVal (mV 2) aNil))) (mOp1 reprD (mOp2 ixD (mOp2 ixD (mB 1) (mB 2)) (mB 2))))) (sRet (mC (.bl false))) sNil)
@[irreducible] def e4 : M PP.Flow := (sIf (mTst (mOp2 neD (mOp1 reprD (mComp [4] (iSeq (mCall F_all_parts (aVal (mV 3) aNil))) (gV 4) cYes (mOp1 tupleD (mB 4)))) (mOp1 reprD (mCall F__law_all (aVal (mV 3) (aVal (mV 3) aNil)))))) (sRet (mC (.bl false))) sNil)
@[irreducible] def e6 : M PP.Flow := (sPar [6, 7] [(mOp1 sumGD (mB 5)), (mCall F__law_place (aVal (mV 5) (aVal (mV 1) aNil)))])
@[irreducible] def e7 : M PP.Flow := (sIf (mOr (mTst (mOp2 neD (mOp1 reprD (mCall F_parts_place (aVal (mV 5) aNil))) (mOp1 reprD (mB 7)))) (mTst (mOp2 neD (mOp1 reprD (mCall F_parts_at (aVal (mV 6) (aVal (mV 7) aNil)))) (mOp1 reprD (mB 5))))) (sRet (mC (.bl false))) sNil)
@[irreducible] def e8 : M PP.Flow := (sSet 8 (mCall F__law_next (aVal (mV 5) aNil)))
@[irreducible] def e9 : M PP.Flow := (sIf (mTst (mOp2 neD (mOp1 reprD (mCall F_next_parts (aVal (mV 5) aNil))) (mOp1 reprD (mB 8)))) (sRet (mC (.bl false))) sNil)
@[irreducible] def e10 : M PP.Flow := (sIf (mAnd (mTst (mOp2 notD (mB 8) (mC .non))) (mTst (mOp2 neD (mOp1 reprD (mCall F_parts_at (aVal (mV 6) (aVal (mOp2 addD (mB 7) (mC (.int 1))) aNil)))) (mOp1 reprD (mB 8))))) (sRet (mC (.bl false))) sNil)
@[irreducible] def e11 : M PP.Flow := (sSet 9 (mCall F__law_turned (aVal (mV 5) aNil)))
@[irreducible] def e12 : M PP.Flow := (sIf (mTst (mOp2 neD (mOp1 reprD (mLst (mCons (mCall F_turned_parts (aVal (mV 5) aNil)) (mCons (mCall F_turned_parts (aVal (mV 9) aNil)) mNil)))) (mOp1 reprD (mLst (mCons (mV 9) (mCons (mV 5) mNil)))))) (sRet (mC (.bl false))) sNil)
@[irreducible] def e13 : M PP.Flow := (sIf (mTst (mOp2 neD (mOp1 reprD (mCall F_own_turned (aVal (mV 5) aNil))) (mOp1 reprD (mOp2 eqD (mB 5) (mB 9))))) (sRet (mC (.bl false))) sNil)
@[irreducible] def e14 : M PP.Flow := (sSet 10 (mOp1 maxD (mComp [11] (iRg1 (mOp2 addD (mOp1 lenD (mB 5)) (mC (.int 1)))) (gV 11) (mTst (mOp2 geI (mOp1 lenD (mComp [12] (iSeq (mV 5)) (gV 12) (mTst (mOp2 geI (mB 12) (mB 11))) (mC (.int 1)))) (mB 11))) (mV 11))))
@[irreducible] def e15 : M PP.Flow := (sIf (mTst (mOp2 neD (mOp1 reprD (mLst (mCons (mCall F_square_in (aVal (mV 5) aNil)) (mCons (mCall F_square_in (aVal (mV 9) aNil)) mNil)))) (mOp1 reprD (mLst (mCons (mV 10) (mCons (mV 10) mNil)))))) (sRet (mC (.bl false))) sNil)
@[irreducible] def e16 : M PP.Flow := (sRet (mOp2 eqD (mOp1 reprD (mOp1 tupleD (mComp [4] (iSeq (mCall F_hooks (aVal (mV 5) aNil))) (gV 4) cYes (mOp1 tupleD (mB 4))))) (mOp1 reprD (mCall F__law_hooks (aVal (mV 5) aNil)))))
theorem right_eq : D__law_is_right = (sSeq (sSet 1 (mCall F__law_table (aVal (mC (.int 60)) aNil)))
    (sSeq (sPar [2, 3] [(mCall F__law_pick (aLend 0 (aVal (mC (.int 61)) aNil))), (mCall F__law_pick (aLend 0 (aVal (mC (.int 13)) aNil)))])
    (sSeq e3 (sSeq e4
    (sSeq (sSet 5 (mCall F__law_parts (aLend 0 (aVal (mC (.int 30)) aNil))))
    (sSeq e6 (sSeq e7 (sSeq e8 (sSeq e9 (sSeq e10 (sSeq e11 (sSeq e12 (sSeq e13 (sSeq e14 (sSeq e15 e16))))))))))))))) := by
  unfold D__law_is_right e3 e4 e6 e7 e8 e9 e10 e11 e12 e13 e14 e15 e16; rfl
section
variable {s0 s1 s2 s3 s4 s5 s6 s7 s8 s9 s10 s11 s12 : Slot} {Q : Cont PP.Flow}
theorem e3_step {n : Nat} (h : n ≤ 60) (H : Q .nx [s0, some (.ow, tabD 61), some (.sh, .int n), s3, none, none, none, none, none, none, none, none, none]) :
    Wr (e3 [s0, some (.ow, tabD 61), some (.sh, .int n), s3, none, none, none, none, none, none, none, none, none]) Q := by
  unfold e3
  obtain ⟨s, h1, h2⟩ := pm_rep h
  have t := tab_at (m := 61) (n := n) (by omega)
  have r := rowD_at (pm n) (show n < 61 by omega)
  simp only [tabD_eq] at H ⊢
  simp [parts_many_ok h, h1, t, r, nD, h2]
  exact H
theorem e4_step {n : Nat} (h : n < 13) (h4 : s4 = none) (H : Q .nx [s0, s1, s2, some (.sh, .int n), none, s5, s6, s7, s8, s9, s10, s11, s12]) :
    Wr (e4 [s0, s1, s2, some (.sh, .int n), s4, s5, s6, s7, s8, s9, s10, s11, s12]) Q := by
  subst h4
  unfold e4
  obtain ⟨s, h1, h2⟩ := ap_repr h
  obtain ⟨a, b⟩ := ap_small n h
  have e1 := all_parts_ok h
  have e2 := law_all_ok h
  simp [e1]
  unfold apT at h1 e2 ⊢
  refine W_map (fun l : List Nat => D.tup (l.map nD)) (fun l : List Nat => D.tup (l.map nD)) rfl (by rw [sizeLine_eq]; omega) (fun l hl => ⟨.sh, wr_eq ?_⟩) ?_
  · have := (b l hl).1
    simp [seqOf]
  · simp [h1, e2, h2]
    exact H
theorem e6_step {ps : List Nat} (h : PO ps) (H : Q .nx [s0, some (.sh, tabD 61), s2, s3, s4, some (.sh, tN ps), some (.sh, .int (ps.sum : Nat)), some (.sh, .int (pl ps.sum ps.sum ps : Nat)), s8, s9, s10, s11, s12]) :
    Wr (e6 [s0, some (.ow, tabD 61), s2, s3, s4, some (.sh, tN ps), s6, s7, s8, s9, s10, s11, s12]) Q := by
  unfold e6
  have e1 := sumGD_tN ps
  have e2 := law_place_ok h
  generalize tN ps = T at *
  simp [e1, e2]
  exact H
theorem e7_step {ps : List Nat} (h : PO ps) (h0 : ps ≠ []) (H : Q .nx [s0, s1, s2, s3, s4, some (.sh, tN ps), some (.sh, .int (ps.sum : Nat)), some (.sh, .int (pl ps.sum ps.sum ps : Nat)), s8, s9, s10, s11, s12]) :
    Wr (e7 [s0, s1, s2, s3, s4, some (.sh, tN ps), some (.sh, .int (ps.sum : Nat)), some (.sh, .int (pl ps.sum ps.sum ps : Nat)), s8, s9, s10, s11, s12]) Q := by
  unfold e7
  have e1 := place_ok h
  have e2 := parts_at_ok h h0
  obtain ⟨s, h1, h2⟩ := po_rep h
  obtain ⟨t, h3, h4⟩ := pl_rep h
  generalize tN ps = T at *
  simp [e1, e2, h1, h2, h3, h4]
  exact H
theorem e8_step {T d : D} (e : F__law_next [(.sh, T)] = .ok .sh d []) (H : Q .nx [s0, s1, s2, s3, s4, some (.sh, T), s6, s7, some (.sh, d), s9, s10, s11, s12]) :
    Wr (e8 [s0, s1, s2, s3, s4, some (.sh, T), s6, s7, s8, s9, s10, s11, s12]) Q := by
  unfold e8
  simp [e]
  exact H
theorem nx_rep {ps : List Nat} {d : D} (h : Nx ps d) : ∃ s, reprD d = some (.sh, .str s) ∧ SO s := by
  cases h with
  | no => exact Rk3.non.repr (by omega) (by omega)
  | so a _ _ _ => exact po_rep a
theorem e9_step {T d : D} (e : F_next_parts [(.sh, T)] = .ok .sh d []) {ps : List Nat} (hd : Nx ps d) (H : Q .nx [s0, s1, s2, s3, s4, some (.sh, T), s6, s7, some (.sh, d), s9, s10, s11, s12]) :
    Wr (e9 [s0, s1, s2, s3, s4, some (.sh, T), s6, s7, some (.sh, d), s9, s10, s11, s12]) Q := by
  unfold e9
  obtain ⟨s, h1, h2⟩ := nx_rep hd
  simp [e, h1, h2]
  exact H
theorem e10_step {ps : List Nat} {d : D} (hd : Nx ps d) (H : Q .nx [s0, s1, s2, s3, s4, s5, some (.sh, .int (ps.sum : Nat)), some (.sh, .int (pl ps.sum ps.sum ps : Nat)), some (.sh, d), s9, s10, s11, s12]) :
    Wr (e10 [s0, s1, s2, s3, s4, s5, some (.sh, .int (ps.sum : Nat)), some (.sh, .int (pl ps.sum ps.sum ps : Nat)), some (.sh, d), s9, s10, s11, s12]) Q := by
  unfold e10
  cases hd with
  | no =>
    simp [notD]
    exact H
  | @so nx a b c e =>
    have e2 := parts_at_ok a b
    obtain ⟨s, h1, h2⟩ := po_rep a
    rw [e, c] at e2
    have n : notD (tN nx) .non = some (.sh, .bl true) := rfl
    obtain ⟨M, hM⟩ : ∃ M, M = pl ps.sum ps.sum ps + 1 := ⟨_, rfl⟩
    have hM2 : ((pl ps.sum ps.sum ps : Nat) : Int) + 1 = (M : Nat) := by omega
    rw [← hM] at e2
    generalize tN nx = T at *
    simp [n, hM2, e2, h1, h2]
    exact H
theorem e11_step {ps : List Nat} (h : PO ps) (h0 : ps ≠ []) (H : Q .nx [s0, s1, s2, s3, s4, some (.sh, tN ps), s6, s7, s8, some (.sh, tN (cj ps)), s10, s11, s12]) :
    Wr (e11 [s0, s1, s2, s3, s4, some (.sh, tN ps), s6, s7, s8, s9, s10, s11, s12]) Q := by
  unfold e11
  have e := law_turned_ok h h0
  generalize tN ps = T at *
  simp [lt, e]
  exact H
theorem e12_step {ps : List Nat} (h : PO ps) (H : Q .nx [s0, s1, s2, s3, s4, some (.sh, tN ps), s6, s7, s8, some (.sh, tN (cj ps)), s10, s11, s12]) :
    Wr (e12 [s0, s1, s2, s3, s4, some (.sh, tN ps), s6, s7, s8, some (.sh, tN (cj ps)), s10, s11, s12]) Q := by
  unfold e12
  have e1 := turned_parts_ok h
  have e2 := turned_parts_ok (po_cj h)
  rw [cj_cj h.1 h.2.1] at e2
  obtain ⟨s, h1, h2⟩ : ∃ s, reprD (.lst [tN (cj ps), tN ps]) = some (.sh, .str s) ∧ SO s := (Rks.cons (po_rk (po_cj h)) (Rks.cons (po_rk h) Rks.nil)).lst.repr (by omega) (by omega)
  generalize tN ps = T at *
  generalize tN (cj ps) = U at *
  simp [e1, e2, sizeLine_eq, h1, h2]
  exact H
theorem e13_step {ps : List Nat} (h : PO ps) (H : Q .nx [s0, s1, s2, s3, s4, some (.sh, tN ps), s6, s7, s8, some (.sh, tN (cj ps)), s10, s11, s12]) :
    Wr (e13 [s0, s1, s2, s3, s4, some (.sh, tN ps), s6, s7, s8, some (.sh, tN (cj ps)), s10, s11, s12]) Q := by
  unfold e13
  have e1 := own_ok h
  have e2 := eqD_tN ps (cj ps)
  have e3 : decide (ps = cj ps) = decide (cj ps = ps) := decide_eq_decide.2 ⟨Eq.symm, Eq.symm⟩
  rw [e3] at e2
  obtain ⟨s, h1, h2⟩ := (Rk3.bl (decide (cj ps = ps))).repr (by omega) (by omega)
  generalize decide (cj ps = ps) = B at *
  generalize tN ps = T at *
  generalize tN (cj ps) = U at *
  simp [e1, e2, h1, h2]
  exact H
theorem e14_step {ps : List Nat} (h : PO ps) (h11 : s11 = none) (h12 : s12 = none) (H : Q .nx [s0, s1, s2, s3, s4, some (.sh, tN ps), s6, s7, s8, s9, some (.sh, .int (sq ps)), none, none]) :
    Wr (e14 [s0, s1, s2, s3, s4, some (.sh, tN ps), s6, s7, s8, s9, s10, s11, s12]) Q := by
  subst h11 h12
  unfold e14
  have hl := h.len
  have it : iterD (tN ps) = some (ps.map nD) := rfl
  have ln : lenD (tN ps) = some (.sh, .int (ps.length : Nat)) := by unfold tN; simp [lenD]
  generalize hT : tN ps = T at *
  obtain ⟨L, hL⟩ : ∃ L, L = ps.length + 1 := ⟨_, rfl⟩
  have e : ((ps.length : Nat) : Int) + 1 = (L : Nat) := by omega
  simp [ln, e, small62_eq]
  refine ⟨by omega, ?_⟩
  rw [rngN]
  refine W_filt nD (sc ps) nD rfl (by rw [sizeLine_eq]; simp; omega) (fun x hx => wr_eq ?_) (fun x hx _ => ⟨.sh, by simp⟩) ?_
  · simp [it]
    refine W_filt nD (fun y => decide (x ≤ y)) (fun _ => .int 1) rfl (by rw [sizeLine_eq]; omega) (fun y hy => wr_eq ?_) (fun y hy _ => ⟨.sh, by simp⟩) ?_
    · simp [nD]
    · simp [lenD, nD, sc]
  · rw [hL, sc_range h]
    simp [max_range]
    exact H
theorem e15_step {ps : List Nat} (h : PO ps) (H : Q .nx [s0, s1, s2, s3, s4, some (.sh, tN ps), s6, s7, s8, some (.sh, tN (cj ps)), some (.sh, .int (sq ps)), s11, s12]) :
    Wr (e15 [s0, s1, s2, s3, s4, some (.sh, tN ps), s6, s7, s8, some (.sh, tN (cj ps)), some (.sh, .int (sq ps)), s11, s12]) Q := by
  unfold e15
  have e1 := square_ok h
  have e2 := square_ok (po_cj h)
  rw [sq_cj h] at e2
  have sl : sq ps ≤ 10 ^ 500 := by
    have : sq ps ≤ ps.length := by unfold sq; have := List.length_filter_le (dg ps) (List.range ps.length); rwa [List.length_range] at this
    have := h.len
    exact Nat.le_trans (show sq ps ≤ 60 by omega) (by decide +kernel)
  obtain ⟨s, h1, h2⟩ : ∃ s, reprD (.lst [.int (sq ps), .int (sq ps)]) = some (.sh, .str s) ∧ SO s := (Rks.cons (Rk3.nat sl) (Rks.cons (Rk3.nat sl) Rks.nil)).lst.repr (by omega) (by omega)
  generalize tN ps = T at *
  generalize tN (cj ps) = U at *
  simp [e1, e2, sizeLine_eq, h1, h2]
  exact H
theorem hks_rep {ps : List Nat} (h : PO ps) : ∃ s, reprD (hks ps) = some (.sh, .str s) ∧ SO s := by
  have hl := h.len
  have r := Rks.map (f := hk ps) (b := 60) (k := 1) (l := ps.zipIdx) fun q hq => by
    have hq2 : q.1 ∈ ps := by
      obtain ⟨_, _, h3⟩ := List.mem_zipIdx hq
      rw [h3]; exact List.getElem_mem _
    have hq3 : q.2 < ps.length := by
      obtain ⟨_, h3, _⟩ := List.mem_zipIdx hq
      omega
    have q60 := h.le q.1 hq2
    have := (Rks.map (f := fun c : Nat => D.int ((q.1 : Int) - c + (cnt ps c : Nat) - q.2 - 1)) (b := 0) (k := 0) (l := List.range q.1) fun c hc => Rk3.int (by
      have hc := List.mem_range.1 hc
      have : cnt ps c ≤ ps.length := List.length_filter_le _ _
      exact Nat.le_trans (show _ ≤ 1000 by omega) (by decide +kernel))).tup
    rw [List.length_range] at this
    exact this.mono (by omega) (by omega)
  rw [List.length_zipIdx] at r
  exact r.tup.repr (by omega) (by omega)
theorem e16_step {ps : List Nat} (h : PO ps) (h0 : ps ≠ []) (h4 : s4 = none) (H : Q (.rt .sh (.bl true)) [s0, s1, s2, s3, none, some (.sh, tN ps), s6, s7, s8, s9, s10, s11, s12]) :
    Wr (e16 [s0, s1, s2, s3, s4, some (.sh, tN ps), s6, s7, s8, s9, s10, s11, s12]) Q := by
  subst h4
  unfold e16
  have e1 := hooks_ok h
  have e2 := law_hooks_ok h h0
  have hl := h.len
  obtain ⟨s, h1, h2⟩ := hks_rep h
  generalize tN ps = T at *
  simp [e1]
  unfold hks at h1 e2 ⊢
  simp
  refine W_map (hk ps) (hk ps) rfl (by rw [sizeLine_eq]; simp; omega) (fun q hq => ⟨.sh, wr_eq ?_⟩) ?_
  · have hq2 : q.1 ∈ ps := by
      obtain ⟨_, _, h3⟩ := List.mem_zipIdx hq
      rw [h3]; exact List.getElem_mem _
    have q60 := h.le q.1 hq2
    simp [hk, sizeLine_eq]
  · simp [sizeLine_eq, h1, e2, h2, show ps.length ≤ 16777216 by omega]
    exact H
end
end K62

set_option Elab.async false
set_option linter.all false
set_option maxRecDepth 100000
/-! The law K62: what is right. -/
namespace K62
open PySem L2 PP PF
open TP hiding F__law_any F__law_pick F__law_deep F__law_tape D__law_any D__law_pick D__law_deep D__law_tape
theorem right_ok {k : Nat} {h : D} (hk : Tape k h) (kk : k < 2 ^ 47) : Tr (F__law_is_right [(.ow, h)]) .sh (k + 100) fun d => d = .bl true := by
  refine Tr_run rfl ?_
  rw [right_eq]
  simp [entry, table_ok, pk]
  refine W_pick hk (by omega) (by omega) (by omega) fun n ha hn Ha => ?_
  simp
  refine W_pick Ha (by omega) (by omega) (by omega) fun f hb hf Hb => ?_
  simp
  refine e3_step (by omega) ?_
  simp only [Kseq_nx, Wr_seq]
  refine e4_step (by omega) rfl ?_
  simp
  refine Kcall_tr (parts_draw Hb (by omega)) (fun _ => rfl) fun d hc Hc ⟨ps, e, hp, h0⟩ => ?_
  subst e
  simp
  refine e6_step hp ?_
  simp only [Kseq_nx, Wr_seq]
  refine e7_step hp h0 ?_
  simp only [Kseq_nx, Wr_seq]
  obtain ⟨d, n1, n2, n3⟩ := next_both hp
  refine e8_step n1 ?_
  simp only [Kseq_nx, Wr_seq]
  refine e9_step n2 n3 ?_
  simp only [Kseq_nx, Wr_seq]
  refine e10_step n3 ?_
  simp only [Kseq_nx, Wr_seq]
  refine e11_step hp h0 ?_
  simp only [Kseq_nx, Wr_seq]
  refine e12_step hp ?_
  simp only [Kseq_nx, Wr_seq]
  refine e13_step hp ?_
  simp only [Kseq_nx, Wr_seq]
  refine e14_step hp rfl rfl ?_
  simp only [Kseq_nx, Wr_seq]
  refine e15_step hp ?_
  simp only [Kseq_nx, Wr_seq]
  refine e16_step hp h0 rfl ?_
  exact ⟨_, _, rfl, rfl, Hc.mono (by omega), rfl⟩
end K62

set_option Elab.async false
set_option linter.all false
set_option maxRecDepth 100000
/-! The law K62: what is refused. -/
namespace K62
open PySem L2 PP PF
open TP hiding F__law_any F__law_pick F__law_deep F__law_tape D__law_any D__law_pick D__law_deep D__law_tape
theorem dp : F__law_deep = TP.F__law_deep := rfl
def i1 : D := .int 1
def ones61 : D := .tup (List.replicate 61 i1)
def Lnp : List D := [.non, .lst [.int 1], .tup [.int 0], .tup [.int 1, .int 2], .tup [.int (-1)], .tup [.bl true], .tup [.str "1"], .tup [.int 61], ones61, .tup [.int 2, .int 0], .int 0, .dK [], .tup [.non], .str "parts", .tup [.tup [.int 1]]]
def Lnn : List D := [.int (-1), .int 61, .non, .bl true, .str "1", .tup [.int 1], .lst [], .dK []]
def Lfew : List D := [.int 13, .int (-1), .non, .bl true, .str "1"]
def Lodd : List D := [.int 5, .int (-1), .non, .bl true, .str "1", .tup [.int 1], .lst []]
theorem np_out : ∀ x, x ∈ Lnp ∨ Dp x → F_check_parts [(.sh, x)] = .exc 6 none := by
  intro x hx
  rcases hx with hx | hx
  · simp only [Lnp, List.mem_cons, List.not_mem_nil, or_false] at hx
    rcases hx with rfl | rfl | rfl | rfl | rfl | rfl | rfl | rfl | rfl | rfl | rfl | rfl | rfl | rfl | rfl <;> kernel_rfl
  · cases hx with
    | tup h => cases h <;> kernel_rfl
    | _ => kernel_rfl
theorem nn_out : ∀ x, x ∈ Lnn ∨ Dp x → F_check_number [(.sh, x)] = .exc 5 none := by
  intro x hx
  rcases hx with hx | hx
  · simp only [Lnn, List.mem_cons, List.not_mem_nil, or_false] at hx
    rcases hx with rfl | rfl | rfl | rfl | rfl | rfl | rfl | rfl <;> kernel_rfl
  · cases hx <;> kernel_rfl
theorem few_out : ∀ x ∈ Lfew, F_all_parts [(.sh, x)] = .exc 5 none := by
  intro x hx
  simp only [Lfew, List.mem_cons, List.not_mem_nil, or_false] at hx
  rcases hx with rfl | rfl | rfl | rfl | rfl <;> kernel_rfl
theorem odd_out : ∀ x, x ∈ Lodd ∨ Dp x → F_parts_at [(.sh, .int 4), (.sh, x)] = .exc 7 none := by
  intro x hx
  rcases hx with hx | hx
  · simp only [Lodd, List.mem_cons, List.not_mem_nil, or_false] at hx
    rcases hx with rfl | rfl | rfl | rfl | rfl | rfl | rfl <;> kernel_rfl
  · cases hx <;> kernel_rfl
theorem said {c : Nat} {w : Str} (h : say__law_word (.exc c none) = some (.sh, .str w)) {f : Nat} {F : FM} (hl : List.lookup f [(20, F_parts_place), (22, F_turned_parts), (23, F_square_in), (24, F_own_turned), (25, F_next_parts), (26, F_hooks), (18, F_all_parts), (16, F_parts_many)] = some F) {a : D} (e : F [(.sh, a)] = .exc c none) :
    F__law_word_of [(.sh, .fn f), (.sh, a)] = .ok .sh (.str w) [] := by
  refine run_w rfl ?_
  unfold D__law_word_of
  simp [entry, mCallV, hl, e, h]
theorem said5 : say__law_word (.exc 5 none) = some (.sh, .str "number") := by kernel_rfl
theorem said6 : say__law_word (.exc 6 none) = some (.sh, .str "parts") := by kernel_rfl
theorem said7 : say__law_word (.exc 7 none) = some (.sh, .str "place") := by kernel_rfl
def Due : List D := [.str "parts", .str "parts", .str "parts", .str "parts", .str "parts", .str "parts", .str "number", .str "number", .str "number", .str "place"]
theorem due_eq : eqD (.lst Due) (.lst Due) = some (.sh, .bl true) := by kernel_rfl
theorem rt61 : repTA (.tup [.int 1]) (.int 61) = some (.sh, ones61) := by kernel_rfl
theorem no_parts_ok {k : Nat} {h : D} (hk : Tape k h) (kk : k < 2 ^ 48) : Tr (F__law_no_parts [(.ow, h)]) .sh (k + 60) fun d => d ∈ Lnp ∨ Dp d := by
  refine Tr_run rfl ?_
  unfold D__law_no_parts
  simp [entry, ay, dp, sizeLine_eq, newK, rt61, isLst, appendD]
  refine Kcall_tr (deepP_ok hk (by omega)) (fun _ => rfl) fun d1 hc Hc hd1 => ?_
  simp [sizeLine_eq]
  refine W_tany Hc (by omega) (by simp) (by simp) fun x hd hx Hd => ?_
  simp
  refine ⟨_, _, rfl, rfl, Hd.mono (by omega), ?_⟩
  have z : x ∈ Lnp ++ [d1] := hx
  rcases List.mem_append.1 z with z | z
  · exact .inl z
  · exact .inr (by rw [List.mem_singleton.1 z]; exact hd1)
theorem no_number_ok {k : Nat} {h : D} (hk : Tape k h) (kk : k < 2 ^ 48) : Tr (F__law_no_number [(.ow, h)]) .sh (k + 60) fun d => d ∈ Lnn ∨ Dp d := by
  refine Tr_run rfl ?_
  unfold D__law_no_number
  simp [entry, ay, dp, sizeLine_eq, newK]
  refine Kcall_tr (deepP_ok hk (by omega)) (fun _ => rfl) fun d1 hc Hc hd1 => ?_
  simp [sizeLine_eq]
  refine W_tany Hc (by omega) (by simp) (by simp) fun x hd hx Hd => ?_
  simp
  refine ⟨_, _, rfl, rfl, Hd.mono (by omega), ?_⟩
  have z : x ∈ Lnn ++ [d1] := hx
  rcases List.mem_append.1 z with z | z
  · exact .inl z
  · exact .inr (by rw [List.mem_singleton.1 z]; exact hd1)
theorem outs {x : D} (h : F_check_parts [(.sh, x)] = .exc 6 none) : F_parts_place [(.sh, x)] = .exc 6 none ∧ F_turned_parts [(.sh, x)] = .exc 6 none ∧ F_square_in [(.sh, x)] = .exc 6 none ∧ F_own_turned [(.sh, x)] = .exc 6 none ∧ F_next_parts [(.sh, x)] = .exc 6 none ∧ F_hooks [(.sh, x)] = .exc 6 none := by
  refine ⟨?_, ?_, ?_, ?_, ?_, ?_⟩
  · simp [F_parts_place, runF_def, D_parts_place, entry, h]
  · simp [F_turned_parts, runF_def, D_turned_parts, entry, h]
  · simp [F_square_in, runF_def, D_square_in, entry, h]
  · simp [F_own_turned, runF_def, D_own_turned, entry, h]
  · simp [F_next_parts, runF_def, D_next_parts, entry, h]
  · simp [F_hooks, runF_def, D_hooks, entry, h]
theorem refused_ok {k : Nat} {h : D} (hk : Tape k h) (kk : k < 2 ^ 47) : Tr (F__law_is_refused [(.ow, h)]) .sh (k + 300) fun d => d = .bl true := by
  refine Tr_run rfl ?_
  unfold D__law_is_refused
  simp [entry, ay, dp, sizeLine_eq]
  refine Kcall_tr (no_parts_ok hk (by omega)) (fun _ => rfl) fun none_ ha Ha hnone => ?_
  simp
  refine Kcall_tr (no_number_ok Ha (by omega)) (fun _ => rfl) fun bad hb Hb hbad => ?_
  obtain ⟨o1, o2, o3, o4, o5, o6⟩ := outs (np_out none_ hnone)
  have w1 := said said6 (f := 20) rfl o1
  have w2 := said said6 (f := 22) rfl o2
  have w3 := said said6 (f := 23) rfl o3
  have w4 := said said6 (f := 24) rfl o4
  have w5 := said said6 (f := 25) rfl o5
  have w6 := said said6 (f := 26) rfl o6
  have nb := nn_out bad hbad
  have w7 : F__law_word_of [(.sh, .fn 16), (.sh, bad)] = .ok .sh (.str "number") [] := said said5 (f := 16) rfl (by simp [F_parts_many, runF_def, D_parts_many, entry, nb])
  have wo : ∀ f ∈ [20, 22, 23, 24, 25, 26], F__law_word_of [(.sh, .fn f), (.sh, none_)] = .ok .sh (.str "parts") [] := by
    intro f hf
    simp only [List.mem_cons, List.not_mem_nil, or_false] at hf
    rcases hf with rfl | rfl | rfl | rfl | rfl | rfl <;> assumption
  simp [sizeLine_eq]
  refine W_forL (l := [20, 22, 23, 24, 25, 26]) D.fn (fun j ρ => ∃ s4, ρ = [some (.pa, hb), some (.sh, none_), some (.sh, bad), some (.ow, .lst (List.replicate j (D.str "parts"))), s4, none]) ⟨none, rfl⟩ (fun I hI j f ρ hj ⟨s4, e⟩ => ?_) (fun ρ ⟨s4, e⟩ => ?_)
  · subst e
    have hf := List.mem_of_getElem? hj
    have hj2 : j < 6 := by have := lt_of_get hj; simpa using this
    have e := wo f hf
    simp [e, isLst, appendD, sizeLine_eq, show j < 16777216 by omega]
    exact hI ⟨some (.sh, .fn f), by rw [List.replicate_succ']⟩
  subst e
  simp [List.replicate, w7, sizeLine_eq]
  refine W_tany Hb (by omega) (by simp) (by simp) fun few hc hfew Hc => ?_
  have w8 := said said5 (f := 18) rfl (few_out few hfew)
  simp [sizeLine_eq, w8, isLst, appendD]
  refine Kcall_tr (deepP_ok Hc (by omega)) (fun _ => rfl) fun d1 hd Hd hd1 => ?_
  simp [sizeLine_eq]
  refine W_tany Hd (by omega) (by simp) (by simp) fun odd he hodd He => ?_
  have hodd : odd ∈ Lodd ∨ Dp odd := by
    have z : odd ∈ Lodd ++ [d1] := hodd
    rcases List.mem_append.1 z with z | z
    · exact .inl z
    · exact .inr (by rw [List.mem_singleton.1 z]; exact hd1)
  have p1 : F_parts_at [(.sh, bad), (.sh, odd)] = .exc 5 none := by simp [F_parts_at, runF_def, D_parts_at, entry, nb]
  have p2 := odd_out odd hodd
  have dq := due_eq
  unfold Due at dq
  have r6 : repL (.lst [.str "parts"]) (.int 6) = some (.ow, .lst [.str "parts", .str "parts", .str "parts", .str "parts", .str "parts", .str "parts"]) := by kernel_rfl
  have r3 : repL (.lst [.str "number"]) (.int 3) = some (.ow, .lst [.str "number", .str "number", .str "number"]) := by kernel_rfl
  simp [sizeLine_eq, p1, p2, said5, said7, isLst, appendD, r6, r3, dq]
  exact ⟨_, _, rfl, rfl, He.mono (by omega), rfl⟩
end K62

set_option Elab.async false
set_option linter.all false
set_option maxRecDepth 100000
/-! The law K62: what it says of some. -/
namespace K62
open PySem L2 PP PF
@[irreducible] def lw1 : M PP.Flow := (sSeq (sSet 2 (mLst (mCons (mCall F_parts_many (aVal (mC (.int 0)) aNil)) (mCons (mCall F_parts_many (aVal (mC (.int 10)) aNil)) (mCons (mCall F_parts_many (aVal (mC (.int 60)) aNil)) (mCons (mCall F_parts_at (aVal (mC (.int 4)) (aVal (mC (.int 2)) aNil))) (mCons (mCall F_parts_place (aVal (mTup (mCons (mC (.int 2)) (mCons (mC (.int 1)) (mCons (mC (.int 1)) mNil)))) aNil)) mNil)))))))
    (sSeq (sSet 2 (mOp2 addD (mB 2) (mLst (mCons (mCall F_turned_parts (aVal (mTup (mCons (mC (.int 4)) (mCons (mC (.int 1)) mNil))) aNil)) (mCons (mCall F_square_in (aVal (mTup (mCons (mC (.int 3)) (mCons (mC (.int 2)) (mCons (mC (.int 2)) mNil)))) aNil)) mNil)))))
    (sSeq (sIf (mOr (mTst (mOp2 neD (mB 2) (mLst (mCons (mC (.int 1)) (mCons (mC (.int 42)) (mCons (mC (.int 966467)) (mCons (mTup (mCons (mC (.int 2)) (mCons (mC (.int 2)) mNil))) (mCons (mC (.int 3)) (mCons (mTup (mCons (mC (.int 2)) (mCons (mC (.int 1)) (mCons (mC (.int 1)) (mCons (mC (.int 1)) mNil))))) (mCons (mC (.int 2)) mNil)))))))))) (mTst (mOp2 neD (mCall F_next_parts (aVal (mTup (mCons (mC (.int 3)) (mCons (mC (.int 1)) (mCons (mC (.int 1)) mNil)))) aNil)) (mTup (mCons (mC (.int 2)) (mCons (mC (.int 2)) (mCons (mC (.int 1)) mNil))))))) (sRet (mC (.bl false))) sNil)
    (sSeq (sIf (mTst (mOp2 notD (mCall F_next_parts (aVal (mTup (mCons (mC (.int 1)) (mCons (mC (.int 1)) mNil))) aNil)) (mC .non))) (sRet (mC (.bl false))) sNil)
    (sSeq (sIf (mTst (mOp2 neD (mOp1 tupleD (mComp [3] (iSeq (mCall F_hooks (aVal (mTup (mCons (mC (.int 3)) (mCons (mC (.int 1)) mNil))) aNil))) (gV 3) cYes (mOp1 tupleD (mB 3)))) (mTup (mCons (mTup (mCons (mC (.int 4)) (mCons (mC (.int 2)) (mCons (mC (.int 1)) mNil)))) (mCons (mTup (mCons (mC (.int 1)) mNil)) mNil))))) (sRet (mC (.bl false))) sNil)
    (sIf (mTst (mOp2 notD (mCall F_own_turned (aVal (mTup (mCons (mC (.int 2)) (mCons (mC (.int 1)) mNil))) aNil)) (mC (.bl true)))) (sRet (mC (.bl false))) sNil))))))
def Said : D := .lst [.int 1, .int 42, .int 966467, .tup [.int 2, .int 2], .int 3, .tup [.int 2, .int 1, .int 1, .int 1], .int 2]
theorem lw1_ok (ns : List Int) (h : D) : lw1 [some (.sh, .scr ns), some (.ow, h), none, none, none] = .ok .nx [some (.sh, .scr ns), some (.ow, h), some (.ow, Said), none, none] := by kernel_rfl
end K62

set_option Elab.async false
set_option linter.all false
set_option maxRecDepth 100000
/-! The law K62, whole. -/
namespace K62
open PySem L2 PP PF
open TP hiding F__law_any F__law_pick F__law_deep F__law_tape D__law_any D__law_pick D__law_deep D__law_tape
@[irreducible] def lw2 : M PP.Flow := (sIf (mOr (mNot (mTru (mCall F__law_is_right (aLend 1 aNil)))) (mNot (mTru (mCall F__law_is_refused (aLend 1 aNil))))) (sRet (mC (.bl false))) sNil)
theorem law_eq : D_law = (sSeq (sSet 1 (mCall F__law_tape (aVal (mV 0) aNil)))
    (sSeq lw1 (sSeq (sFor (iRg1 (mC (.int 5))) (gV 4) lw2) (sRet (mC (.bl true)))))) := by
  unfold D_law lw1 lw2
  simp only [PP.seq_assoc]
def Says (R : FM) : Prop := ∀ k h, Tape k h → k < 2 ^ 47 → Tr (R [(.ow, h)]) .sh (k + 300) fun d => d = .bl true
theorem right_all : Says F__law_is_right := by
  intro k h a b
  obtain ⟨d, h', e1, e2, e3⟩ := right_ok a b
  exact ⟨d, h', e1, e2.mono (by omega), e3⟩
theorem refused_all : Says F__law_is_refused := by
  intro k h a b
  exact refused_ok a b
theorem two_step {R S : FM} (hR : Says R) (hS : Says S)
    {k : Nat} {h : D} (Hh : Tape k h) (hk : k < 2 ^ 40) {s0 s2 s3 s4 : Slot} {Q : Cont PP.Flow}
    (H : ∀ h', Tape (k + 1000) h' → Q .nx [s0, some (.ow, h'), s2, s3, s4]) :
    Wr ((sIf (mOr (mNot (mTru (mCall R (aLend 1 aNil)))) (mNot (mTru (mCall S (aLend 1 aNil))))) (sRet (mC (.bl false))) sNil) [s0, some (.ow, h), s2, s3, s4]) Q := by
  simp
  refine Kcall_tr (hR _ _ Hh (by omega)) (fun _ => rfl) fun d h1 H1 e => ?_
  subst e
  simp
  refine Kcall_tr (hS _ _ H1 (by omega)) (fun _ => rfl) fun d h3 H3 e => ?_
  subst e
  simp
  exact H h3 (H3.mono (by omega))
theorem lw2_step {k : Nat} {h : D} (Hh : Tape k h) (hk : k < 2 ^ 40) {s0 s2 s3 s4 : Slot} {Q : Cont PP.Flow}
    (H : ∀ h', Tape (k + 1000) h' → Q .nx [s0, some (.ow, h'), s2, s3, s4]) :
    Wr (lw2 [s0, some (.ow, h), s2, s3, s4]) Q := by
  unfold lw2
  have r1 := right_all
  have r2 := refused_all
  generalize F__law_is_right = R1 at *
  generalize F__law_is_refused = R2 at *
  exact two_step r1 r2 Hh hk H
theorem law_right (ns : List Int) (hl : ns.length ≤ 63) (hb : ∀ z ∈ ns, Builtin.Int.intBits z ≤ 1048576) : ∃ fl, F_law [(.sh, .scr ns)] = .ok fl (.bl true) [] := by
  obtain ⟨h0, eh, hh⟩ := tape_ok ns hl
  have hn : F__law_tape [(.sh, .scr ns)] = .ok .ow h0 [] := eh
  refine ⟨.sh, run_w rfl ?_⟩
  rw [law_eq]
  simp [entry, hn, lw1_ok, small62_eq]
  refine W_range (n := 5) (fun j ρ => ∃ h s2 s3 s4, Tape (1000 * j) h ∧ ρ = [some (.sh, .scr ns), some (.ow, h), s2, s3, s4]) ⟨h0, _, _, _, hh, rfl⟩ (fun I hI j ρ hj ⟨h, s2, s3, s4, Hh, e⟩ => ?_) (fun ρ ⟨h, s2, s3, s4, Hh, e⟩ => ?_)
  · subst e
    simp
    refine lw2_step Hh (by omega) fun h3 H3 => ?_
    simp
    exact hI ⟨h3, s2, s3, some (.sh, .int j), H3.mono (by omega), rfl⟩
  · subst e
    simp
end K62

set_option Elab.async false
set_option linter.all false
set_option maxRecDepth 100000
set_option maxHeartbeats 4000000
/-! The law K62: the end. -/
namespace K62
open PySem PySem.Spec PyProof.Rows L2 PP
open PySem.W (ReadsLit)
theorem all_mk {l : PySem.W.OpenLaw} {w : World} {K : PySem.W.Frag} {h : Heap} {mg : Str → Option Value} {fa : Addr} {f1 : Addr} {od1 an1 : Option Addr} {sl1 : Array (Option Value)} {oc1 kV1 dc1 pm1 cd1 ct1 : Value}
    {f2 : Addr} {od2 an2 : Option Addr} {sl2 : Array (Option Value)} {oc2 kV2 dc2 pm2 cd2 ct2 : Value}
    {f12 : Addr} {od12 an12 : Option Addr} {sl12 : Array (Option Value)} {oc12 kV12 dc12 pm12 cd12 ct12 : Value}
    {f13 : Addr} {od13 an13 : Option Addr} {sl13 : Array (Option Value)} {oc13 kV13 dc13 pm13 cd13 ct13 : Value}
    {f14 : Addr} {od14 an14 : Option Addr} {sl14 : Array (Option Value)} {oc14 kV14 dc14 pm14 cd14 ct14 : Value}
    {f15 : Addr} {od15 an15 : Option Addr} {sl15 : Array (Option Value)} {oc15 kV15 dc15 pm15 cd15 ct15 : Value}
    {f16 : Addr} {od16 an16 : Option Addr} {sl16 : Array (Option Value)} {oc16 kV16 dc16 pm16 cd16 ct16 : Value}
    {f17 : Addr} {od17 an17 : Option Addr} {sl17 : Array (Option Value)} {oc17 kV17 dc17 pm17 cd17 ct17 : Value}
    {f18 : Addr} {od18 an18 : Option Addr} {sl18 : Array (Option Value)} {oc18 kV18 dc18 pm18 cd18 ct18 : Value}
    {f19 : Addr} {od19 an19 : Option Addr} {sl19 : Array (Option Value)} {oc19 kV19 dc19 pm19 cd19 ct19 : Value}
    {f20 : Addr} {od20 an20 : Option Addr} {sl20 : Array (Option Value)} {oc20 kV20 dc20 pm20 cd20 ct20 : Value}
    {f21 : Addr} {od21 an21 : Option Addr} {sl21 : Array (Option Value)} {oc21 kV21 dc21 pm21 cd21 ct21 : Value}
    {f22 : Addr} {od22 an22 : Option Addr} {sl22 : Array (Option Value)} {oc22 kV22 dc22 pm22 cd22 ct22 : Value}
    {f23 : Addr} {od23 an23 : Option Addr} {sl23 : Array (Option Value)} {oc23 kV23 dc23 pm23 cd23 ct23 : Value}
    {f24 : Addr} {od24 an24 : Option Addr} {sl24 : Array (Option Value)} {oc24 kV24 dc24 pm24 cd24 ct24 : Value}
    {f25 : Addr} {od25 an25 : Option Addr} {sl25 : Array (Option Value)} {oc25 kV25 dc25 pm25 cd25 ct25 : Value}
    {f26 : Addr} {od26 an26 : Option Addr} {sl26 : Array (Option Value)} {oc26 kV26 dc26 pm26 cd26 ct26 : Value}
    {f28 : Addr} {od28 an28 : Option Addr} {sl28 : Array (Option Value)} {oc28 kV28 dc28 pm28 cd28 ct28 : Value}
    {f29 : Addr} {od29 an29 : Option Addr} {sl29 : Array (Option Value)} {oc29 kV29 dc29 pm29 cd29 ct29 : Value}
    {f30 : Addr} {od30 an30 : Option Addr} {sl30 : Array (Option Value)} {oc30 kV30 dc30 pm30 cd30 ct30 : Value}
    {f31 : Addr} {od31 an31 : Option Addr} {sl31 : Array (Option Value)} {oc31 kV31 dc31 pm31 cd31 ct31 : Value}
    {f32 : Addr} {od32 an32 : Option Addr} {sl32 : Array (Option Value)} {oc32 kV32 dc32 pm32 cd32 ct32 : Value}
    {f33 : Addr} {od33 an33 : Option Addr} {sl33 : Array (Option Value)} {oc33 kV33 dc33 pm33 cd33 ct33 : Value}
    {f34 : Addr} {od34 an34 : Option Addr} {sl34 : Array (Option Value)} {oc34 kV34 dc34 pm34 cd34 ct34 : Value}
    {f35 : Addr} {od35 an35 : Option Addr} {sl35 : Array (Option Value)} {oc35 kV35 dc35 pm35 cd35 ct35 : Value}
    {f36 : Addr} {od36 an36 : Option Addr} {sl36 : Array (Option Value)} {oc36 kV36 dc36 pm36 cd36 ct36 : Value}
    {f37 : Addr} {od37 an37 : Option Addr} {sl37 : Array (Option Value)} {oc37 kV37 dc37 pm37 cd37 ct37 : Value}
    {f38 : Addr} {od38 an38 : Option Addr} {sl38 : Array (Option Value)} {oc38 kV38 dc38 pm38 cd38 ct38 : Value}
    {f39 : Addr} {od39 an39 : Option Addr} {sl39 : Array (Option Value)} {oc39 kV39 dc39 pm39 cd39 ct39 : Value}
    {f40 : Addr} {od40 an40 : Option Addr} {sl40 : Array (Option Value)} {oc40 kV40 dc40 pm40 cd40 ct40 : Value}
    {f41 : Addr} {od41 an41 : Option Addr} {sl41 : Array (Option Value)} {oc41 kV41 dc41 pm41 cd41 ct41 : Value}
    {f42 : Addr} {od42 an42 : Option Addr} {sl42 : Array (Option Value)} {oc42 kV42 dc42 pm42 cd42 ct42 : Value}
    {f44 cc44 P44 : Addr} {od44 an44 : Option Addr} {sl44 : Array (Option Value)} {oc44 kV44 dc44 pm44 ct44 : Value}
    {occ44 : Value} {ocd44 : Option Addr} {cvs44 : Array Value} {ocs44 : Array (Option Value)}
    {f43 cc43 P43 : Addr} {od43 an43 : Option Addr} {sl43 : Array (Option Value)} {oc43 kV43 dc43 pm43 ct43 : Value}
    {occ43 : Value} {ocd43 : Option Addr} {cvs43 : Array Value} {ocs43 : Array (Option Value)}
    {f45 : Addr} {od45 an45 : Option Addr} {sl45 : Array (Option Value)} {oc45 kV45 dc45 pm45 cd45 ct45 : Value}
    {t_MOST_LISTED : Tok}
    {t_MOST_NUMBER : Tok}
    {t_MOST_PARTS : Tok}
    {C5 : Addr}
    {C6 : Addr}
    {C7 : Addr}
    {C4 : Addr}
    (X : K.In h) (G : h.Ns mainGlobals mg) (hfa : mg "law" = some (.ref fa))
    (a1 : PySem.W.nsIn K mainGlobals "is_integer" = some (some (.ref f1)))
    (l1 : K.lookup f1 = some ⟨oc1, od1, .func (PySem.W.fnOf "is_integer" "is_integer" (defArgs s1) (defBody s1) (defScope s1) .none kV1 dc1 pm1 an1 cd1 ct1), sl1⟩)
    (c1 : PySem.W.codeIn K cd1 "is_integer" = true)
    (k1 : PySem.W.keepIn K (.ref f1) = true)
    (a2 : PySem.W.nsIn K mainGlobals "is_within" = some (some (.ref f2)))
    (l2 : K.lookup f2 = some ⟨oc2, od2, .func (PySem.W.fnOf "is_within" "is_within" (defArgs s2) (defBody s2) (defScope s2) .none kV2 dc2 pm2 an2 cd2 ct2), sl2⟩)
    (c2 : PySem.W.codeIn K cd2 "is_within" = true)
    (k2 : PySem.W.keepIn K (.ref f2) = true)
    (a12 : PySem.W.nsIn K mainGlobals "is_parts" = some (some (.ref f12)))
    (l12 : K.lookup f12 = some ⟨oc12, od12, .func (PySem.W.fnOf "is_parts" "is_parts" (defArgs s12) (defBody s12) (defScope s12) .none kV12 dc12 pm12 an12 cd12 ct12), sl12⟩)
    (c12 : PySem.W.codeIn K cd12 "is_parts" = true)
    (k12 : PySem.W.keepIn K (.ref f12) = true)
    (a13 : PySem.W.nsIn K mainGlobals "check_parts" = some (some (.ref f13)))
    (l13 : K.lookup f13 = some ⟨oc13, od13, .func (PySem.W.fnOf "check_parts" "check_parts" (defArgs s13) (defBody s13) (defScope s13) .none kV13 dc13 pm13 an13 cd13 ct13), sl13⟩)
    (c13 : PySem.W.codeIn K cd13 "check_parts" = true)
    (k13 : PySem.W.keepIn K (.ref f13) = true)
    (a14 : PySem.W.nsIn K mainGlobals "check_number" = some (some (.ref f14)))
    (l14 : K.lookup f14 = some ⟨oc14, od14, .func (PySem.W.fnOf "check_number" "check_number" (defArgs s14) (defBody s14) (defScope s14) .none kV14 dc14 pm14 an14 cd14 ct14), sl14⟩)
    (c14 : PySem.W.codeIn K cd14 "check_number" = true)
    (k14 : PySem.W.keepIn K (.ref f14) = true)
    (a15 : PySem.W.nsIn K mainGlobals "raw_with_most" = some (some (.ref f15)))
    (l15 : K.lookup f15 = some ⟨oc15, od15, .func (PySem.W.fnOf "raw_with_most" "raw_with_most" (defArgs s15) (defBody s15) (defScope s15) .none kV15 dc15 pm15 an15 cd15 ct15), sl15⟩)
    (c15 : PySem.W.codeIn K cd15 "raw_with_most" = true)
    (k15 : PySem.W.keepIn K (.ref f15) = true)
    (a16 : PySem.W.nsIn K mainGlobals "parts_many" = some (some (.ref f16)))
    (l16 : K.lookup f16 = some ⟨oc16, od16, .func (PySem.W.fnOf "parts_many" "parts_many" (defArgs s16) (defBody s16) (defScope s16) .none kV16 dc16 pm16 an16 cd16 ct16), sl16⟩)
    (c16 : PySem.W.codeIn K cd16 "parts_many" = true)
    (k16 : PySem.W.keepIn K (.ref f16) = true)
    (a17 : PySem.W.nsIn K mainGlobals "raw_next" = some (some (.ref f17)))
    (l17 : K.lookup f17 = some ⟨oc17, od17, .func (PySem.W.fnOf "raw_next" "raw_next" (defArgs s17) (defBody s17) (defScope s17) .none kV17 dc17 pm17 an17 cd17 ct17), sl17⟩)
    (c17 : PySem.W.codeIn K cd17 "raw_next" = true)
    (k17 : PySem.W.keepIn K (.ref f17) = true)
    (a18 : PySem.W.nsIn K mainGlobals "all_parts" = some (some (.ref f18)))
    (l18 : K.lookup f18 = some ⟨oc18, od18, .func (PySem.W.fnOf "all_parts" "all_parts" (defArgs s18) (defBody s18) (defScope s18) .none kV18 dc18 pm18 an18 cd18 ct18), sl18⟩)
    (c18 : PySem.W.codeIn K cd18 "all_parts" = true)
    (k18 : PySem.W.keepIn K (.ref f18) = true)
    (a19 : PySem.W.nsIn K mainGlobals "parts_at" = some (some (.ref f19)))
    (l19 : K.lookup f19 = some ⟨oc19, od19, .func (PySem.W.fnOf "parts_at" "parts_at" (defArgs s19) (defBody s19) (defScope s19) .none kV19 dc19 pm19 an19 cd19 ct19), sl19⟩)
    (c19 : PySem.W.codeIn K cd19 "parts_at" = true)
    (k19 : PySem.W.keepIn K (.ref f19) = true)
    (a20 : PySem.W.nsIn K mainGlobals "parts_place" = some (some (.ref f20)))
    (l20 : K.lookup f20 = some ⟨oc20, od20, .func (PySem.W.fnOf "parts_place" "parts_place" (defArgs s20) (defBody s20) (defScope s20) .none kV20 dc20 pm20 an20 cd20 ct20), sl20⟩)
    (c20 : PySem.W.codeIn K cd20 "parts_place" = true)
    (k20 : PySem.W.keepIn K (.ref f20) = true)
    (a21 : PySem.W.nsIn K mainGlobals "raw_turned" = some (some (.ref f21)))
    (l21 : K.lookup f21 = some ⟨oc21, od21, .func (PySem.W.fnOf "raw_turned" "raw_turned" (defArgs s21) (defBody s21) (defScope s21) .none kV21 dc21 pm21 an21 cd21 ct21), sl21⟩)
    (c21 : PySem.W.codeIn K cd21 "raw_turned" = true)
    (k21 : PySem.W.keepIn K (.ref f21) = true)
    (a22 : PySem.W.nsIn K mainGlobals "turned_parts" = some (some (.ref f22)))
    (l22 : K.lookup f22 = some ⟨oc22, od22, .func (PySem.W.fnOf "turned_parts" "turned_parts" (defArgs s22) (defBody s22) (defScope s22) .none kV22 dc22 pm22 an22 cd22 ct22), sl22⟩)
    (c22 : PySem.W.codeIn K cd22 "turned_parts" = true)
    (k22 : PySem.W.keepIn K (.ref f22) = true)
    (a23 : PySem.W.nsIn K mainGlobals "square_in" = some (some (.ref f23)))
    (l23 : K.lookup f23 = some ⟨oc23, od23, .func (PySem.W.fnOf "square_in" "square_in" (defArgs s23) (defBody s23) (defScope s23) .none kV23 dc23 pm23 an23 cd23 ct23), sl23⟩)
    (c23 : PySem.W.codeIn K cd23 "square_in" = true)
    (k23 : PySem.W.keepIn K (.ref f23) = true)
    (a24 : PySem.W.nsIn K mainGlobals "own_turned" = some (some (.ref f24)))
    (l24 : K.lookup f24 = some ⟨oc24, od24, .func (PySem.W.fnOf "own_turned" "own_turned" (defArgs s24) (defBody s24) (defScope s24) .none kV24 dc24 pm24 an24 cd24 ct24), sl24⟩)
    (c24 : PySem.W.codeIn K cd24 "own_turned" = true)
    (k24 : PySem.W.keepIn K (.ref f24) = true)
    (a25 : PySem.W.nsIn K mainGlobals "next_parts" = some (some (.ref f25)))
    (l25 : K.lookup f25 = some ⟨oc25, od25, .func (PySem.W.fnOf "next_parts" "next_parts" (defArgs s25) (defBody s25) (defScope s25) .none kV25 dc25 pm25 an25 cd25 ct25), sl25⟩)
    (c25 : PySem.W.codeIn K cd25 "next_parts" = true)
    (k25 : PySem.W.keepIn K (.ref f25) = true)
    (a26 : PySem.W.nsIn K mainGlobals "hooks" = some (some (.ref f26)))
    (l26 : K.lookup f26 = some ⟨oc26, od26, .func (PySem.W.fnOf "hooks" "hooks" (defArgs s26) (defBody s26) (defScope s26) .none kV26 dc26 pm26 an26 cd26 ct26), sl26⟩)
    (c26 : PySem.W.codeIn K cd26 "hooks" = true)
    (k26 : PySem.W.keepIn K (.ref f26) = true)
    (a28 : PySem.W.nsIn K mainGlobals "_law_tape" = some (some (.ref f28)))
    (l28 : K.lookup f28 = some ⟨oc28, od28, .func (PySem.W.fnOf "_law_tape" "_law_tape" (defArgs s28) (defBody s28) (defScope s28) .none kV28 dc28 pm28 an28 cd28 ct28), sl28⟩)
    (c28 : PySem.W.codeIn K cd28 "_law_tape" = true)
    (k28 : PySem.W.keepIn K (.ref f28) = true)
    (a29 : PySem.W.nsIn K mainGlobals "_law_pick" = some (some (.ref f29)))
    (l29 : K.lookup f29 = some ⟨oc29, od29, .func (PySem.W.fnOf "_law_pick" "_law_pick" (defArgs s29) (defBody s29) (defScope s29) .none kV29 dc29 pm29 an29 cd29 ct29), sl29⟩)
    (c29 : PySem.W.codeIn K cd29 "_law_pick" = true)
    (k29 : PySem.W.keepIn K (.ref f29) = true)
    (a30 : PySem.W.nsIn K mainGlobals "_law_any" = some (some (.ref f30)))
    (l30 : K.lookup f30 = some ⟨oc30, od30, .func (PySem.W.fnOf "_law_any" "_law_any" (defArgs s30) (defBody s30) (defScope s30) .none kV30 dc30 pm30 an30 cd30 ct30), sl30⟩)
    (c30 : PySem.W.codeIn K cd30 "_law_any" = true)
    (k30 : PySem.W.keepIn K (.ref f30) = true)
    (a31 : PySem.W.nsIn K mainGlobals "_law_deep" = some (some (.ref f31)))
    (l31 : K.lookup f31 = some ⟨oc31, od31, .func (PySem.W.fnOf "_law_deep" "_law_deep" (defArgs s31) (defBody s31) (defScope s31) .none kV31 dc31 pm31 an31 cd31 ct31), sl31⟩)
    (c31 : PySem.W.codeIn K cd31 "_law_deep" = true)
    (k31 : PySem.W.keepIn K (.ref f31) = true)
    (a32 : PySem.W.nsIn K mainGlobals "_law_all" = some (some (.ref f32)))
    (l32 : K.lookup f32 = some ⟨oc32, od32, .func (PySem.W.fnOf "_law_all" "_law_all" (defArgs s32) (defBody s32) (defScope s32) .none kV32 dc32 pm32 an32 cd32 ct32), sl32⟩)
    (c32 : PySem.W.codeIn K cd32 "_law_all" = true)
    (k32 : PySem.W.keepIn K (.ref f32) = true)
    (a33 : PySem.W.nsIn K mainGlobals "_law_table" = some (some (.ref f33)))
    (l33 : K.lookup f33 = some ⟨oc33, od33, .func (PySem.W.fnOf "_law_table" "_law_table" (defArgs s33) (defBody s33) (defScope s33) .none kV33 dc33 pm33 an33 cd33 ct33), sl33⟩)
    (c33 : PySem.W.codeIn K cd33 "_law_table" = true)
    (k33 : PySem.W.keepIn K (.ref f33) = true)
    (a34 : PySem.W.nsIn K mainGlobals "_law_parts" = some (some (.ref f34)))
    (l34 : K.lookup f34 = some ⟨oc34, od34, .func (PySem.W.fnOf "_law_parts" "_law_parts" (defArgs s34) (defBody s34) (defScope s34) .none kV34 dc34 pm34 an34 cd34 ct34), sl34⟩)
    (c34 : PySem.W.codeIn K cd34 "_law_parts" = true)
    (k34 : PySem.W.keepIn K (.ref f34) = true)
    (a35 : PySem.W.nsIn K mainGlobals "_law_turned" = some (some (.ref f35)))
    (l35 : K.lookup f35 = some ⟨oc35, od35, .func (PySem.W.fnOf "_law_turned" "_law_turned" (defArgs s35) (defBody s35) (defScope s35) .none kV35 dc35 pm35 an35 cd35 ct35), sl35⟩)
    (c35 : PySem.W.codeIn K cd35 "_law_turned" = true)
    (k35 : PySem.W.keepIn K (.ref f35) = true)
    (a36 : PySem.W.nsIn K mainGlobals "_law_no_parts" = some (some (.ref f36)))
    (l36 : K.lookup f36 = some ⟨oc36, od36, .func (PySem.W.fnOf "_law_no_parts" "_law_no_parts" (defArgs s36) (defBody s36) (defScope s36) .none kV36 dc36 pm36 an36 cd36 ct36), sl36⟩)
    (c36 : PySem.W.codeIn K cd36 "_law_no_parts" = true)
    (k36 : PySem.W.keepIn K (.ref f36) = true)
    (a37 : PySem.W.nsIn K mainGlobals "_law_no_number" = some (some (.ref f37)))
    (l37 : K.lookup f37 = some ⟨oc37, od37, .func (PySem.W.fnOf "_law_no_number" "_law_no_number" (defArgs s37) (defBody s37) (defScope s37) .none kV37 dc37 pm37 an37 cd37 ct37), sl37⟩)
    (c37 : PySem.W.codeIn K cd37 "_law_no_number" = true)
    (k37 : PySem.W.keepIn K (.ref f37) = true)
    (a38 : PySem.W.nsIn K mainGlobals "_law_word" = some (some (.ref f38)))
    (l38 : K.lookup f38 = some ⟨oc38, od38, .func (PySem.W.fnOf "_law_word" "_law_word" (defArgs s38) (defBody s38) (defScope s38) .none kV38 dc38 pm38 an38 cd38 ct38), sl38⟩)
    (c38 : PySem.W.codeIn K cd38 "_law_word" = true)
    (k38 : PySem.W.keepIn K (.ref f38) = true)
    (a39 : PySem.W.nsIn K mainGlobals "_law_next" = some (some (.ref f39)))
    (l39 : K.lookup f39 = some ⟨oc39, od39, .func (PySem.W.fnOf "_law_next" "_law_next" (defArgs s39) (defBody s39) (defScope s39) .none kV39 dc39 pm39 an39 cd39 ct39), sl39⟩)
    (c39 : PySem.W.codeIn K cd39 "_law_next" = true)
    (k39 : PySem.W.keepIn K (.ref f39) = true)
    (a40 : PySem.W.nsIn K mainGlobals "_law_place" = some (some (.ref f40)))
    (l40 : K.lookup f40 = some ⟨oc40, od40, .func (PySem.W.fnOf "_law_place" "_law_place" (defArgs s40) (defBody s40) (defScope s40) .none kV40 dc40 pm40 an40 cd40 ct40), sl40⟩)
    (c40 : PySem.W.codeIn K cd40 "_law_place" = true)
    (k40 : PySem.W.keepIn K (.ref f40) = true)
    (a41 : PySem.W.nsIn K mainGlobals "_law_hooks" = some (some (.ref f41)))
    (l41 : K.lookup f41 = some ⟨oc41, od41, .func (PySem.W.fnOf "_law_hooks" "_law_hooks" (defArgs s41) (defBody s41) (defScope s41) .none kV41 dc41 pm41 an41 cd41 ct41), sl41⟩)
    (c41 : PySem.W.codeIn K cd41 "_law_hooks" = true)
    (k41 : PySem.W.keepIn K (.ref f41) = true)
    (a42 : PySem.W.nsIn K mainGlobals "_law_is_right" = some (some (.ref f42)))
    (l42 : K.lookup f42 = some ⟨oc42, od42, .func (PySem.W.fnOf "_law_is_right" "_law_is_right" (defArgs s42) (defBody s42) (defScope s42) .none kV42 dc42 pm42 an42 cd42 ct42), sl42⟩)
    (c42 : PySem.W.codeIn K cd42 "_law_is_right" = true)
    (k42 : PySem.W.keepIn K (.ref f42) = true)
    (a44 : PySem.W.nsIn K mainGlobals "_law_word_of" = some (some (.ref f44)))
    (l44 : K.lookup f44 = some ⟨oc44, od44, .func (PySem.W.fnOf "_law_word_of" "_law_word_of" (defArgs s44) (defBody s44) (defScope s44) .none kV44 dc44 pm44 an44 (.ref cc44) ct44), sl44⟩)
    (c44 : PySem.W.codeIn K (.ref cc44) "_law_word_of" = true)
    (k44 : PySem.W.keepIn K (.ref f44) = true)
    (o44 : K.lookup cc44 = some ⟨occ44, ocd44, .fields cvs44, ocs44⟩)
    (p44 : cvs44[11]? = some (.ref P44))
    (u44 : PySem.W.codeHdIn K cc44 P44 = true)
    (n44 : K.lookup P44 = none)
    (T44 : h.get? P44 = some (PySem.W.tabObj #[]))
    (a43 : PySem.W.nsIn K mainGlobals "_law_is_refused" = some (some (.ref f43)))
    (l43 : K.lookup f43 = some ⟨oc43, od43, .func (PySem.W.fnOf "_law_is_refused" "_law_is_refused" (defArgs s43) (defBody s43) (defScope s43) .none kV43 dc43 pm43 an43 (.ref cc43) ct43), sl43⟩)
    (c43 : PySem.W.codeIn K (.ref cc43) "_law_is_refused" = true)
    (k43 : PySem.W.keepIn K (.ref f43) = true)
    (o43 : K.lookup cc43 = some ⟨occ43, ocd43, .fields cvs43, ocs43⟩)
    (p43 : cvs43[11]? = some (.ref P43))
    (u43 : PySem.W.codeHdIn K cc43 P43 = true)
    (n43 : K.lookup P43 = none)
    (T43 : h.get? P43 = some (PySem.W.tabObj #[]))
    (a45 : PySem.W.nsIn K mainGlobals "law" = some (some (.ref f45)))
    (l45 : K.lookup f45 = some ⟨oc45, od45, .func (PySem.W.fnOf "law" "law" (defArgs s45) (defBody s45) (defScope s45) .none kV45 dc45 pm45 an45 cd45 ct45), sl45⟩)
    (c45 : PySem.W.codeIn K cd45 "law" = true)
    (k45 : PySem.W.keepIn K (.ref f45) = true)
    (nP43_44 : P43 ≠ P44)
    (z_ValueError : PySem.W.nsIn K mainGlobals "ValueError" = some none)
    (z_abs : PySem.W.nsIn K mainGlobals "abs" = some none)
    (z_all : PySem.W.nsIn K mainGlobals "all" = some none)
    (z_bool : PySem.W.nsIn K mainGlobals "bool" = some none)
    (z_enumerate : PySem.W.nsIn K mainGlobals "enumerate" = some none)
    (z_int : PySem.W.nsIn K mainGlobals "int" = some none)
    (z_isinstance : PySem.W.nsIn K mainGlobals "isinstance" = some none)
    (z_len : PySem.W.nsIn K mainGlobals "len" = some none)
    (z_list : PySem.W.nsIn K mainGlobals "list" = some none)
    (z_max : PySem.W.nsIn K mainGlobals "max" = some none)
    (z_min : PySem.W.nsIn K mainGlobals "min" = some none)
    (z_range : PySem.W.nsIn K mainGlobals "range" = some none)
    (z_repr : PySem.W.nsIn K mainGlobals "repr" = some none)
    (z_sorted : PySem.W.nsIn K mainGlobals "sorted" = some none)
    (z_sum : PySem.W.nsIn K mainGlobals "sum" = some none)
    (z_tuple : PySem.W.nsIn K mainGlobals "tuple" = some none)
    (z_zip : PySem.W.nsIn K mainGlobals "zip" = some none)
    (c_MOST_LISTED : PySem.W.nsIn K mainGlobals "MOST_LISTED" = some (some (.int 12 t_MOST_LISTED)))
    (c_MOST_NUMBER : PySem.W.nsIn K mainGlobals "MOST_NUMBER" = some (some (.int 60 t_MOST_NUMBER)))
    (c_MOST_PARTS : PySem.W.nsIn K mainGlobals "MOST_PARTS" = some (some (.int 60 t_MOST_PARTS)))
    (gC5 : PySem.W.nsIn K mainGlobals "NoNumber" = some (some (.ref C5)))
    (q5 : PySem.W.excIn K C5 [.type "ValueError", .type "Exception", .type "BaseException", .type "object"] "ValueError.__new__" = true)
    (kC5 : PySem.W.keepIn K (.ref C5) = true)
    (bC5 : PySem.W.subIn K (.ref C5) (.type "BaseException") = some true)
    (tC5 : PySem.W.typeIn K (.ref C5) = some (.type "type"))
    (gC6 : PySem.W.nsIn K mainGlobals "NoParts" = some (some (.ref C6)))
    (q6 : PySem.W.excIn K C6 [.type "ValueError", .type "Exception", .type "BaseException", .type "object"] "ValueError.__new__" = true)
    (kC6 : PySem.W.keepIn K (.ref C6) = true)
    (bC6 : PySem.W.subIn K (.ref C6) (.type "BaseException") = some true)
    (tC6 : PySem.W.typeIn K (.ref C6) = some (.type "type"))
    (gC7 : PySem.W.nsIn K mainGlobals "NoPlace" = some (some (.ref C7)))
    (q7 : PySem.W.excIn K C7 [.type "ValueError", .type "Exception", .type "BaseException", .type "object"] "ValueError.__new__" = true)
    (kC7 : PySem.W.keepIn K (.ref C7) = true)
    (bC7 : PySem.W.subIn K (.ref C7) (.type "BaseException") = some true)
    (tC7 : PySem.W.typeIn K (.ref C7) = some (.type "type"))
    (gC4 : PySem.W.nsIn K mainGlobals "RowError" = some (some (.ref C4)))
    (x5hg : PySem.W.findIn K (.ref C5) "__getattribute__" = some (some (.builtin "BaseException.__getattribute__")))
    (x5hk : PySem.W.findIn K (.ref C5) "__getattr__" = some none)
    (x5hd : PySem.W.hasDictIn K C5 = true)
    (x5ha : PySem.W.findIn K (.ref C5) "__class__" = some (some (.builtin "object.__class__")))
    (x5hm : PySem.W.mroIn K C5 (.type "object") = some true)
    (v5 : PySem.W.kitOne K (.ref C5) (.type "ValueError") = some true)
    (m5 : PySem.W.exmOne K (.ref C5) (.ref C4) = some true)
    (x6hg : PySem.W.findIn K (.ref C6) "__getattribute__" = some (some (.builtin "BaseException.__getattribute__")))
    (x6hk : PySem.W.findIn K (.ref C6) "__getattr__" = some none)
    (x6hd : PySem.W.hasDictIn K C6 = true)
    (x6ha : PySem.W.findIn K (.ref C6) "__class__" = some (some (.builtin "object.__class__")))
    (x6hm : PySem.W.mroIn K C6 (.type "object") = some true)
    (v6 : PySem.W.kitOne K (.ref C6) (.type "ValueError") = some true)
    (m6 : PySem.W.exmOne K (.ref C6) (.ref C4) = some true)
    (x7hg : PySem.W.findIn K (.ref C7) "__getattribute__" = some (some (.builtin "BaseException.__getattribute__")))
    (x7hk : PySem.W.findIn K (.ref C7) "__getattr__" = some none)
    (x7hd : PySem.W.hasDictIn K C7 = true)
    (x7ha : PySem.W.findIn K (.ref C7) "__class__" = some (some (.builtin "object.__class__")))
    (x7hm : PySem.W.mroIn K C7 (.type "object") = some true)
    (v7 : PySem.W.kitOne K (.ref C7) (.type "ValueError") = some true)
    (m7 : PySem.W.exmOne K (.ref C7) (.ref C4) = some true)
    (xhn : PySem.W.specialIn K (.builtin "object.__class__") "__get__" = some (some (.builtin "getset_descriptor.__get__")))
    (xht : PySem.W.takesIn K (.builtin "object.__class__") = some true)
    (k5_5 : PySem.W.kitOne K (.ref C5) (.ref C5) = some true)
    (k5_6 : PySem.W.kitOne K (.ref C5) (.ref C6) = some false)
    (k5_7 : PySem.W.kitOne K (.ref C5) (.ref C7) = some false)
    (k6_5 : PySem.W.kitOne K (.ref C6) (.ref C5) = some false)
    (k6_6 : PySem.W.kitOne K (.ref C6) (.ref C6) = some true)
    (k6_7 : PySem.W.kitOne K (.ref C6) (.ref C7) = some false)
    (k7_5 : PySem.W.kitOne K (.ref C7) (.ref C5) = some false)
    (k7_6 : PySem.W.kitOne K (.ref C7) (.ref C6) = some false)
    (k7_7 : PySem.W.kitOne K (.ref C7) (.ref C7) = some true) :
    LawAtG l w K (L2.CX l.prog w) 12 63 "script" mg fa h := by
  obtain rfl : f45 = fa := Value.ref.inj (Option.some.inj ((PySem.W.mg_of X G a45).symm.trans hfa))
  let c : Fc K mg := { f1 := f1, d1 := _, cd1 := cd1, F1 := funC_mk (st := s1) l1 c1 k1, b1 := (funC_mk (st := s1) l1 c1 k1).toFun.binds (ps := ["thing"]) fun _ _ _ _ _ _ us hl => match us, hl with | [_], _ => rfl, g1 := PySem.W.mg_of X G a1, f2 := f2, d2 := _, cd2 := cd2, F2 := funC_mk (st := s2) l2 c2 k2, b2 := (funC_mk (st := s2) l2 c2 k2).toFun.binds (ps := ["thing", "least", "most"]) fun _ _ _ _ _ _ us hl => match us, hl with | [_, _, _], _ => rfl, g2 := PySem.W.mg_of X G a2, f12 := f12, d12 := _, cd12 := cd12, F12 := funC_mk (st := s12) l12 c12 k12, b12 := (funC_mk (st := s12) l12 c12 k12).toFun.binds (ps := ["thing"]) fun _ _ _ _ _ _ us hl => match us, hl with | [_], _ => rfl, g12 := PySem.W.mg_of X G a12, f13 := f13, d13 := _, cd13 := cd13, F13 := funC_mk (st := s13) l13 c13 k13, b13 := (funC_mk (st := s13) l13 c13 k13).toFun.binds (ps := ["parts"]) fun _ _ _ _ _ _ us hl => match us, hl with | [_], _ => rfl, g13 := PySem.W.mg_of X G a13, f14 := f14, d14 := _, cd14 := cd14, F14 := funC_mk (st := s14) l14 c14 k14, b14 := (funC_mk (st := s14) l14 c14 k14).toFun.binds (ps := ["number"]) fun _ _ _ _ _ _ us hl => match us, hl with | [_], _ => rfl, g14 := PySem.W.mg_of X G a14, f15 := f15, d15 := _, cd15 := cd15, F15 := funC_mk (st := s15) l15 c15 k15, b15 := (funC_mk (st := s15) l15 c15 k15).toFun.binds (ps := ["number", "most"]) fun _ _ _ _ _ _ us hl => match us, hl with | [_, _], _ => rfl, g15 := PySem.W.mg_of X G a15, f16 := f16, d16 := _, cd16 := cd16, F16 := funC_mk (st := s16) l16 c16 k16, b16 := (funC_mk (st := s16) l16 c16 k16).toFun.binds (ps := ["number"]) fun _ _ _ _ _ _ us hl => match us, hl with | [_], _ => rfl, g16 := PySem.W.mg_of X G a16, f17 := f17, d17 := _, cd17 := cd17, F17 := funC_mk (st := s17) l17 c17 k17, b17 := (funC_mk (st := s17) l17 c17 k17).toFun.binds (ps := ["parts"]) fun _ _ _ _ _ _ us hl => match us, hl with | [_], _ => rfl, g17 := PySem.W.mg_of X G a17, f18 := f18, d18 := _, cd18 := cd18, F18 := funC_mk (st := s18) l18 c18 k18, b18 := (funC_mk (st := s18) l18 c18 k18).toFun.binds (ps := ["number"]) fun _ _ _ _ _ _ us hl => match us, hl with | [_], _ => rfl, g18 := PySem.W.mg_of X G a18, f19 := f19, d19 := _, cd19 := cd19, F19 := funC_mk (st := s19) l19 c19 k19, b19 := (funC_mk (st := s19) l19 c19 k19).toFun.binds (ps := ["number", "place"]) fun _ _ _ _ _ _ us hl => match us, hl with | [_, _], _ => rfl, g19 := PySem.W.mg_of X G a19, f20 := f20, d20 := _, cd20 := cd20, F20 := funC_mk (st := s20) l20 c20 k20, b20 := (funC_mk (st := s20) l20 c20 k20).toFun.binds (ps := ["parts"]) fun _ _ _ _ _ _ us hl => match us, hl with | [_], _ => rfl, g20 := PySem.W.mg_of X G a20, f21 := f21, d21 := _, cd21 := cd21, F21 := funC_mk (st := s21) l21 c21 k21, b21 := (funC_mk (st := s21) l21 c21 k21).toFun.binds (ps := ["parts"]) fun _ _ _ _ _ _ us hl => match us, hl with | [_], _ => rfl, g21 := PySem.W.mg_of X G a21, f22 := f22, d22 := _, cd22 := cd22, F22 := funC_mk (st := s22) l22 c22 k22, b22 := (funC_mk (st := s22) l22 c22 k22).toFun.binds (ps := ["parts"]) fun _ _ _ _ _ _ us hl => match us, hl with | [_], _ => rfl, g22 := PySem.W.mg_of X G a22, f23 := f23, d23 := _, cd23 := cd23, F23 := funC_mk (st := s23) l23 c23 k23, b23 := (funC_mk (st := s23) l23 c23 k23).toFun.binds (ps := ["parts"]) fun _ _ _ _ _ _ us hl => match us, hl with | [_], _ => rfl, g23 := PySem.W.mg_of X G a23, f24 := f24, d24 := _, cd24 := cd24, F24 := funC_mk (st := s24) l24 c24 k24, b24 := (funC_mk (st := s24) l24 c24 k24).toFun.binds (ps := ["parts"]) fun _ _ _ _ _ _ us hl => match us, hl with | [_], _ => rfl, g24 := PySem.W.mg_of X G a24, f25 := f25, d25 := _, cd25 := cd25, F25 := funC_mk (st := s25) l25 c25 k25, b25 := (funC_mk (st := s25) l25 c25 k25).toFun.binds (ps := ["parts"]) fun _ _ _ _ _ _ us hl => match us, hl with | [_], _ => rfl, g25 := PySem.W.mg_of X G a25, f26 := f26, d26 := _, cd26 := cd26, F26 := funC_mk (st := s26) l26 c26 k26, b26 := (funC_mk (st := s26) l26 c26 k26).toFun.binds (ps := ["parts"]) fun _ _ _ _ _ _ us hl => match us, hl with | [_], _ => rfl, g26 := PySem.W.mg_of X G a26, f28 := f28, d28 := _, cd28 := cd28, F28 := funC_mk (st := s28) l28 c28 k28, b28 := (funC_mk (st := s28) l28 c28 k28).toFun.binds (ps := ["script"]) fun _ _ _ _ _ _ us hl => match us, hl with | [_], _ => rfl, g28 := PySem.W.mg_of X G a28, f29 := f29, d29 := _, cd29 := cd29, F29 := funC_mk (st := s29) l29 c29 k29, b29 := (funC_mk (st := s29) l29 c29 k29).toFun.binds (ps := ["tape", "many"]) fun _ _ _ _ _ _ us hl => match us, hl with | [_, _], _ => rfl, g29 := PySem.W.mg_of X G a29, f30 := f30, d30 := _, cd30 := cd30, F30 := funC_mk (st := s30) l30 c30 k30, b30 := (funC_mk (st := s30) l30 c30 k30).toFun.binds (ps := ["tape", "things"]) fun _ _ _ _ _ _ us hl => match us, hl with | [_, _], _ => rfl, g30 := PySem.W.mg_of X G a30, f31 := f31, d31 := _, cd31 := cd31, F31 := funC_mk (st := s31) l31 c31 k31, b31 := (funC_mk (st := s31) l31 c31 k31).toFun.binds (ps := ["tape"]) fun _ _ _ _ _ _ us hl => match us, hl with | [_], _ => rfl, g31 := PySem.W.mg_of X G a31, f32 := f32, d32 := _, cd32 := cd32, F32 := funC_mk (st := s32) l32 c32 k32, b32 := (funC_mk (st := s32) l32 c32 k32).toFun.binds (ps := ["number", "most"]) fun _ _ _ _ _ _ us hl => match us, hl with | [_, _], _ => rfl, g32 := PySem.W.mg_of X G a32, f33 := f33, d33 := _, cd33 := cd33, F33 := funC_mk (st := s33) l33 c33 k33, b33 := (funC_mk (st := s33) l33 c33 k33).toFun.binds (ps := ["most"]) fun _ _ _ _ _ _ us hl => match us, hl with | [_], _ => rfl, g33 := PySem.W.mg_of X G a33, f34 := f34, d34 := _, cd34 := cd34, F34 := funC_mk (st := s34) l34 c34 k34, b34 := (funC_mk (st := s34) l34 c34 k34).toFun.binds (ps := ["tape", "most"]) fun _ _ _ _ _ _ us hl => match us, hl with | [_, _], _ => rfl, g34 := PySem.W.mg_of X G a34, f35 := f35, d35 := _, cd35 := cd35, F35 := funC_mk (st := s35) l35 c35 k35, b35 := (funC_mk (st := s35) l35 c35 k35).toFun.binds (ps := ["parts"]) fun _ _ _ _ _ _ us hl => match us, hl with | [_], _ => rfl, g35 := PySem.W.mg_of X G a35, f36 := f36, d36 := _, cd36 := cd36, F36 := funC_mk (st := s36) l36 c36 k36, b36 := (funC_mk (st := s36) l36 c36 k36).toFun.binds (ps := ["tape"]) fun _ _ _ _ _ _ us hl => match us, hl with | [_], _ => rfl, g36 := PySem.W.mg_of X G a36, f37 := f37, d37 := _, cd37 := cd37, F37 := funC_mk (st := s37) l37 c37 k37, b37 := (funC_mk (st := s37) l37 c37 k37).toFun.binds (ps := ["tape"]) fun _ _ _ _ _ _ us hl => match us, hl with | [_], _ => rfl, g37 := PySem.W.mg_of X G a37, f38 := f38, d38 := _, cd38 := cd38, F38 := funC_mk (st := s38) l38 c38 k38, b38 := (funC_mk (st := s38) l38 c38 k38).toFun.binds (ps := ["asked_one"]) fun _ _ _ _ _ _ us hl => match us, hl with | [_], _ => rfl, g38 := PySem.W.mg_of X G a38, f39 := f39, d39 := _, cd39 := cd39, F39 := funC_mk (st := s39) l39 c39 k39, b39 := (funC_mk (st := s39) l39 c39 k39).toFun.binds (ps := ["parts"]) fun _ _ _ _ _ _ us hl => match us, hl with | [_], _ => rfl, g39 := PySem.W.mg_of X G a39, f40 := f40, d40 := _, cd40 := cd40, F40 := funC_mk (st := s40) l40 c40 k40, b40 := (funC_mk (st := s40) l40 c40 k40).toFun.binds (ps := ["parts", "table"]) fun _ _ _ _ _ _ us hl => match us, hl with | [_, _], _ => rfl, g40 := PySem.W.mg_of X G a40, f41 := f41, d41 := _, cd41 := cd41, F41 := funC_mk (st := s41) l41 c41 k41, b41 := (funC_mk (st := s41) l41 c41 k41).toFun.binds (ps := ["parts"]) fun _ _ _ _ _ _ us hl => match us, hl with | [_], _ => rfl, g41 := PySem.W.mg_of X G a41, f42 := f42, d42 := _, cd42 := cd42, F42 := funC_mk (st := s42) l42 c42 k42, b42 := (funC_mk (st := s42) l42 c42 k42).toFun.binds (ps := ["tape"]) fun _ _ _ _ _ _ us hl => match us, hl with | [_], _ => rfl, g42 := PySem.W.mg_of X G a42, f44 := f44, d44 := _, cc44 := cc44, P44 := P44, F44 := funC_mk (st := s44) l44 c44 k44, b44 := (funC_mk (st := s44) l44 c44 k44).toFun.binds (ps := ["asked_one", "thing"]) fun _ _ _ _ _ _ us hl => match us, hl with | [_, _], _ => rfl, g44 := PySem.W.mg_of X G a44, f43 := f43, d43 := _, cc43 := cc43, P43 := P43, F43 := funC_mk (st := s43) l43 c43 k43, b43 := (funC_mk (st := s43) l43 c43 k43).toFun.binds (ps := ["tape"]) fun _ _ _ _ _ _ us hl => match us, hl with | [_], _ => rfl, g43 := PySem.W.mg_of X G a43, f45 := f45, d45 := _, cd45 := cd45, F45 := funC_mk (st := s45) l45 c45 k45, b45 := (funC_mk (st := s45) l45 c45 k45).toFun.binds (ps := ["script"]) fun _ _ _ _ _ _ us hl => match us, hl with | [_], _ => rfl, g45 := PySem.W.mg_of X G a45, nP43_44 := nP43_44, z_ValueError := PySem.W.mg_none_of X G z_ValueError, z_abs := PySem.W.mg_none_of X G z_abs, z_all := PySem.W.mg_none_of X G z_all, z_bool := PySem.W.mg_none_of X G z_bool, z_enumerate := PySem.W.mg_none_of X G z_enumerate, z_int := PySem.W.mg_none_of X G z_int, z_isinstance := PySem.W.mg_none_of X G z_isinstance, z_len := PySem.W.mg_none_of X G z_len, z_list := PySem.W.mg_none_of X G z_list, z_max := PySem.W.mg_none_of X G z_max, z_min := PySem.W.mg_none_of X G z_min, z_range := PySem.W.mg_none_of X G z_range, z_repr := PySem.W.mg_none_of X G z_repr, z_sorted := PySem.W.mg_none_of X G z_sorted, z_sum := PySem.W.mg_none_of X G z_sum, z_tuple := PySem.W.mg_none_of X G z_tuple, z_zip := PySem.W.mg_none_of X G z_zip, c_MOST_LISTED := ⟨_, PySem.W.mg_of X G c_MOST_LISTED⟩, c_MOST_NUMBER := ⟨_, PySem.W.mg_of X G c_MOST_NUMBER⟩, c_MOST_PARTS := ⟨_, PySem.W.mg_of X G c_MOST_PARTS⟩, C5 := C5, gC5 := PySem.W.mg_of X G gC5, q5 := q5, kC5 := kC5, bC5 := bC5, tC5 := tC5, C6 := C6, gC6 := PySem.W.mg_of X G gC6, q6 := q6, kC6 := kC6, bC6 := bC6, tC6 := tC6, C7 := C7, gC7 := PySem.W.mg_of X G gC7, q7 := q7, kC7 := kC7, bC7 := bC7, tC7 := tC7, C4 := C4, gC4 := PySem.W.mg_of X G gC4, x5 := ⟨x5hg, x5hk, bC5, x5hd, x5ha, xhn, xht, x5hm⟩, v5 := v5, m5 := m5, x6 := ⟨x6hg, x6hk, bC6, x6hd, x6ha, xhn, xht, x6hm⟩, v6 := v6, m6 := m6, x7 := ⟨x7hg, x7hk, bC7, x7hd, x7ha, xhn, xht, x7hm⟩, v7 := v7, m7 := m7, k5_5 := k5_5, k5_6 := k5_6, k5_7 := k5_7, k6_5 := k6_5, k6_6 := k6_6, k6_7 := k6_7, k7_5 := k7_5, k7_6 := k7_6, k7_7 := k7_7 }
  refine ⟨c.d45, [(cc43, P43), (cc44, P44)], spD (Gof c) 1 F_law, (fun p hp => by
      simp only [List.mem_cons, List.not_mem_nil, or_false] at hp
      rcases hp with rfl | rfl
      · exact T43
      · exact T44), (fun p hp => by
      simp only [List.mem_cons, List.not_mem_nil, or_false] at hp
      rcases hp with rfl | rfl
      · exact n43
      · exact n44), (fun p hp => by
      simp only [List.mem_cons, List.not_mem_nil, or_false] at hp
      rcases hp with rfl | rfl
      · exact PySem.W.codeHd_of_K X u43
      · exact PySem.W.codeHd_of_K X u44), fun s v => .of_eq rfl, fun H a ns hl hb hT hS => ?_, fun base hB hG TB => ?_⟩
  · refine sp_start hS (fun p hp => ?_) (law_right ns hl hb)
    simp only [List.mem_cons, List.not_mem_nil, or_false] at hp
    rcases hp with rfl | rfl
    · exact LamX.TabS.nil (hT (cc43, P43) (by simp))
    · exact LamX.TabS.nil (hT (cc44, P44) (by simp))
  · have H1 : FnOk l.prog w K mg base (L2.CX l.prog w) 1 c.f1 c.d1 ["thing"] (spD (Gof c) 1 F_is_integer) := w1 c (k := 0) 
    have H2 : FnOk l.prog w K mg base (L2.CX l.prog w) 2 c.f2 c.d2 ["thing", "least", "most"] (spD (Gof c) 3 F_is_within) := w2 c (k := 1) (H1.mono (by decide))
    have H12 : FnOk l.prog w K mg base (L2.CX l.prog w) 3 c.f12 c.d12 ["thing"] (spD (Gof c) 1 F_is_parts) := w12 c (k := 2) (H2.mono (by decide))
    have H13 : FnOk l.prog w K mg base (L2.CX l.prog w) 4 c.f13 c.d13 ["parts"] (spD (Gof c) 1 F_check_parts) := w13 c (k := 3) (H12.mono (by decide))
    have H14 : FnOk l.prog w K mg base (L2.CX l.prog w) 3 c.f14 c.d14 ["number"] (spD (Gof c) 1 F_check_number) := w14 c (k := 2) (H2.mono (by decide))
    have H15 : FnOk l.prog w K mg base (L2.CX l.prog w) 1 c.f15 c.d15 ["number", "most"] (spD (Gof c) 2 F_raw_with_most) := w15 c (k := 0) 
    have H16 : FnOk l.prog w K mg base (L2.CX l.prog w) 4 c.f16 c.d16 ["number"] (spD (Gof c) 1 F_parts_many) := w16 c (k := 3) (H14.mono (by decide)) (H15.mono (by decide))
    have H17 : FnOk l.prog w K mg base (L2.CX l.prog w) 1 c.f17 c.d17 ["parts"] (spD (Gof c) 1 F_raw_next) := w17 c (k := 0) 
    have H18 : FnOk l.prog w K mg base (L2.CX l.prog w) 3 c.f18 c.d18 ["number"] (spD (Gof c) 1 F_all_parts) := w18 c (k := 2) (H2.mono (by decide)) (H17.mono (by decide))
    have H19 : FnOk l.prog w K mg base (L2.CX l.prog w) 4 c.f19 c.d19 ["number", "place"] (spD (Gof c) 2 F_parts_at) := w19 c (k := 3) (H2.mono (by decide)) (H14.mono (by decide)) (H15.mono (by decide))
    have H20 : FnOk l.prog w K mg base (L2.CX l.prog w) 5 c.f20 c.d20 ["parts"] (spD (Gof c) 1 F_parts_place) := w20 c (k := 4) (H13.mono (by decide)) (H15.mono (by decide))
    have H21 : FnOk l.prog w K mg base (L2.CX l.prog w) 1 c.f21 c.d21 ["parts"] (spD (Gof c) 1 F_raw_turned) := w21 c (k := 0) 
    have H22 : FnOk l.prog w K mg base (L2.CX l.prog w) 5 c.f22 c.d22 ["parts"] (spD (Gof c) 1 F_turned_parts) := w22 c (k := 4) (H13.mono (by decide)) (H21.mono (by decide))
    have H23 : FnOk l.prog w K mg base (L2.CX l.prog w) 5 c.f23 c.d23 ["parts"] (spD (Gof c) 1 F_square_in) := w23 c (k := 4) (H13.mono (by decide))
    have H24 : FnOk l.prog w K mg base (L2.CX l.prog w) 5 c.f24 c.d24 ["parts"] (spD (Gof c) 1 F_own_turned) := w24 c (k := 4) (H13.mono (by decide)) (H21.mono (by decide))
    have H25 : FnOk l.prog w K mg base (L2.CX l.prog w) 5 c.f25 c.d25 ["parts"] (spD (Gof c) 1 F_next_parts) := w25 c (k := 4) (H13.mono (by decide)) (H17.mono (by decide))
    have H26 : FnOk l.prog w K mg base (L2.CX l.prog w) 5 c.f26 c.d26 ["parts"] (spD (Gof c) 1 F_hooks) := w26 c (k := 4) (H13.mono (by decide)) (H21.mono (by decide))
    have H28 : FnOk l.prog w K mg base (L2.CX l.prog w) 1 c.f28 c.d28 ["script"] (spD (Gof c) 1 F__law_tape) := w28 c (k := 0) 
    have H29 : FnOk l.prog w K mg base (L2.CX l.prog w) 1 c.f29 c.d29 ["tape", "many"] (spD (Gof c) 2 F__law_pick) := w29 c (k := 0) 
    have H30 : FnOk l.prog w K mg base (L2.CX l.prog w) 2 c.f30 c.d30 ["tape", "things"] (spD (Gof c) 2 F__law_any) := w30 c (k := 1) (H29.mono (by decide))
    have H31 : FnOk l.prog w K mg base (L2.CX l.prog w) 3 c.f31 c.d31 ["tape"] (spD (Gof c) 1 F__law_deep) := w31 c (k := 2) (H30.mono (by decide))
    have H32 : FnOk l.prog w K mg base (L2.CX l.prog w) 1 c.f32 c.d32 ["number", "most"] (spD (Gof c) 2 F__law_all) := w32 c (k := 0) 
    have H33 : FnOk l.prog w K mg base (L2.CX l.prog w) 1 c.f33 c.d33 ["most"] (spD (Gof c) 1 F__law_table) := w33 c (k := 0) 
    have H34 : FnOk l.prog w K mg base (L2.CX l.prog w) 3 c.f34 c.d34 ["tape", "most"] (spD (Gof c) 2 F__law_parts) := w34 c (k := 2) (H29.mono (by decide)) (H30.mono (by decide))
    have H35 : FnOk l.prog w K mg base (L2.CX l.prog w) 1 c.f35 c.d35 ["parts"] (spD (Gof c) 1 F__law_turned) := w35 c (k := 0) 
    have H36 : FnOk l.prog w K mg base (L2.CX l.prog w) 4 c.f36 c.d36 ["tape"] (spD (Gof c) 1 F__law_no_parts) := w36 c (k := 3) (H30.mono (by decide)) (H31.mono (by decide))
    have H37 : FnOk l.prog w K mg base (L2.CX l.prog w) 4 c.f37 c.d37 ["tape"] (spD (Gof c) 1 F__law_no_number) := w37 c (k := 3) (H30.mono (by decide)) (H31.mono (by decide))
    have H39 : FnOk l.prog w K mg base (L2.CX l.prog w) 1 c.f39 c.d39 ["parts"] (spD (Gof c) 1 F__law_next) := w39 c (k := 0) 
    have H40 : FnOk l.prog w K mg base (L2.CX l.prog w) 1 c.f40 c.d40 ["parts", "table"] (spD (Gof c) 2 F__law_place) := w40 c (k := 0) 
    have H41 : FnOk l.prog w K mg base (L2.CX l.prog w) 2 c.f41 c.d41 ["parts"] (spD (Gof c) 1 F__law_hooks) := w41 c (k := 1) (H35.mono (by decide))
    have H42 : FnG l.prog w K mg base (L2.CX l.prog w) 6 c.f42 c.d42 ["tape"] (spD (Gof c) 1 F__law_is_right) := w42 c (k := 5) (H16.mono (by decide)) (H18.mono (by decide)) (H19.mono (by decide)) (H20.mono (by decide)) (H22.mono (by decide)) (H23.mono (by decide)) (H24.mono (by decide)) (H25.mono (by decide)) (H26.mono (by decide)) (H29.mono (by decide)) (H32.mono (by decide)) (H33.mono (by decide)) (H34.mono (by decide)) (H35.mono (by decide)) (H39.mono (by decide)) (H40.mono (by decide)) (H41.mono (by decide))
    have H44 : FnOk l.prog w K mg base (L2.CX l.prog w) 8 c.f44 c.d44 ["asked_one", "thing"] (spD (Gof c) 2 F__law_word_of) := w44 c (k := 5) (H16.mono (by decide)) (H18.mono (by decide)) (H20.mono (by decide)) (H22.mono (by decide)) (H23.mono (by decide)) (H24.mono (by decide)) (H25.mono (by decide)) (H26.mono (by decide)) (TB (cc44, P44) (by simp))
    have H43 : FnOk l.prog w K mg base (L2.CX l.prog w) 11 c.f43 c.d43 ["tape"] (spD (Gof c) 1 F__law_is_refused) := w43 c (k := 8) (H19.mono (by decide)) (H30.mono (by decide)) (H31.mono (by decide)) (H36.mono (by decide)) (H37.mono (by decide)) (H44.mono (by decide)) (TB (cc43, P43) (by simp))
    exact w45 (P := l.prog) (w := w) (base := base) c (k := 11) (H16.mono (by decide)) (H19.mono (by decide)) (H20.mono (by decide)) (H22.mono (by decide)) (H23.mono (by decide)) (H24.mono (by decide)) (H25.mono (by decide)) (H26.mono (by decide)) (H28.mono (by decide)) (H42.up (by decide)) (H43.mono (by decide))
end K62
open PySem PySem.W PyProof.Rows in
set_option maxRecDepth 100000 in
set_option maxHeartbeats 0 in
theorem PySem.Challenge.cw_coverallrows_k62_whole_parts_in_their_ro_holds : PySem.Challenge.rw_coverallrows_k62_whole_parts_in_their_ro.Holds := by
  w_on; o_law; k_head; (case hw => w_witness2)
  k_fill
  refine PP.walk_ofG (l := PySem.Challenge.rw_coverallrows_k62_whole_parts_in_their_ro) (n := 63) (k := 12) (x := "script") (CX := fun w => L2.CX PySem.Challenge.rw_coverallrows_k62_whole_parts_in_their_ro.prog w) rfl (by decide) rfl ⟨rfl, by decide, by decide⟩ (fun w h Y => PySem.W.km_in_of Y) ?F (fun _ _ _ _ _ z => PP.cx_none z)
  case F =>
    intro w mg fa h Y XP KX G hmg
    refine' K62.all_mk KX G hmg ?a1 ?l1 ?c1 ?k1 ?a2 ?l2 ?c2 ?k2 ?a12 ?l12 ?c12 ?k12 ?a13 ?l13 ?c13 ?k13 ?a14 ?l14 ?c14 ?k14 ?a15 ?l15 ?c15 ?k15 ?a16 ?l16 ?c16 ?k16 ?a17 ?l17 ?c17 ?k17 ?a18 ?l18 ?c18 ?k18 ?a19 ?l19 ?c19 ?k19 ?a20 ?l20 ?c20 ?k20 ?a21 ?l21 ?c21 ?k21 ?a22 ?l22 ?c22 ?k22 ?a23 ?l23 ?c23 ?k23 ?a24 ?l24 ?c24 ?k24 ?a25 ?l25 ?c25 ?k25 ?a26 ?l26 ?c26 ?k26 ?a28 ?l28 ?c28 ?k28 ?a29 ?l29 ?c29 ?k29 ?a30 ?l30 ?c30 ?k30 ?a31 ?l31 ?c31 ?k31 ?a32 ?l32 ?c32 ?k32 ?a33 ?l33 ?c33 ?k33 ?a34 ?l34 ?c34 ?k34 ?a35 ?l35 ?c35 ?k35 ?a36 ?l36 ?c36 ?k36 ?a37 ?l37 ?c37 ?k37 ?a38 ?l38 ?c38 ?k38 ?a39 ?l39 ?c39 ?k39 ?a40 ?l40 ?c40 ?k40 ?a41 ?l41 ?c41 ?k41 ?a42 ?l42 ?c42 ?k42 ?a44 ?l44 ?c44 ?k44 ?o44 ?p44 ?u44 ?n44 ?T44 ?a43 ?l43 ?c43 ?k43 ?o43 ?p43 ?u43 ?n43 ?T43 ?a45 ?l45 ?c45 ?k45 ?nP43_44 ?z_ValueError ?z_abs ?z_all ?z_bool ?z_enumerate ?z_int ?z_isinstance ?z_len ?z_list ?z_max ?z_min ?z_range ?z_repr ?z_sorted ?z_sum ?z_tuple ?z_zip ?c_MOST_LISTED ?c_MOST_NUMBER ?c_MOST_PARTS ?gC5 ?q5 ?kC5 ?bC5 ?tC5 ?gC6 ?q6 ?kC6 ?bC6 ?tC6 ?gC7 ?q7 ?kC7 ?bC7 ?tC7 ?gC4 ?x5hg ?x5hk ?x5hd ?x5ha ?x5hm ?v5 ?m5 ?x6hg ?x6hk ?x6hd ?x6ha ?x6hm ?v6 ?m6 ?x7hg ?x7hk ?x7hd ?x7ha ?x7hm ?v7 ?m7 ?xhn ?xht ?k5_5 ?k5_6 ?k5_7 ?k6_5 ?k6_6 ?k6_7 ?k7_5 ?k7_6 ?k7_7
    (case a1 => k_is)
    (case l1 => k_is)
    (case c1 => k_is)
    (case k1 => k_is)
    (case a2 => k_is)
    (case l2 => k_is)
    (case c2 => k_is)
    (case k2 => k_is)
    (case a12 => k_is)
    (case l12 => k_is)
    (case c12 => k_is)
    (case k12 => k_is)
    (case a13 => k_is)
    (case l13 => k_is)
    (case c13 => k_is)
    (case k13 => k_is)
    (case a14 => k_is)
    (case l14 => k_is)
    (case c14 => k_is)
    (case k14 => k_is)
    (case a15 => k_is)
    (case l15 => k_is)
    (case c15 => k_is)
    (case k15 => k_is)
    (case a16 => k_is)
    (case l16 => k_is)
    (case c16 => k_is)
    (case k16 => k_is)
    (case a17 => k_is)
    (case l17 => k_is)
    (case c17 => k_is)
    (case k17 => k_is)
    (case a18 => k_is)
    (case l18 => k_is)
    (case c18 => k_is)
    (case k18 => k_is)
    (case a19 => k_is)
    (case l19 => k_is)
    (case c19 => k_is)
    (case k19 => k_is)
    (case a20 => k_is)
    (case l20 => k_is)
    (case c20 => k_is)
    (case k20 => k_is)
    (case a21 => k_is)
    (case l21 => k_is)
    (case c21 => k_is)
    (case k21 => k_is)
    (case a22 => k_is)
    (case l22 => k_is)
    (case c22 => k_is)
    (case k22 => k_is)
    (case a23 => k_is)
    (case l23 => k_is)
    (case c23 => k_is)
    (case k23 => k_is)
    (case a24 => k_is)
    (case l24 => k_is)
    (case c24 => k_is)
    (case k24 => k_is)
    (case a25 => k_is)
    (case l25 => k_is)
    (case c25 => k_is)
    (case k25 => k_is)
    (case a26 => k_is)
    (case l26 => k_is)
    (case c26 => k_is)
    (case k26 => k_is)
    (case a28 => k_is)
    (case l28 => k_is)
    (case c28 => k_is)
    (case k28 => k_is)
    (case a29 => k_is)
    (case l29 => k_is)
    (case c29 => k_is)
    (case k29 => k_is)
    (case a30 => k_is)
    (case l30 => k_is)
    (case c30 => k_is)
    (case k30 => k_is)
    (case a31 => k_is)
    (case l31 => k_is)
    (case c31 => k_is)
    (case k31 => k_is)
    (case a32 => k_is)
    (case l32 => k_is)
    (case c32 => k_is)
    (case k32 => k_is)
    (case a33 => k_is)
    (case l33 => k_is)
    (case c33 => k_is)
    (case k33 => k_is)
    (case a34 => k_is)
    (case l34 => k_is)
    (case c34 => k_is)
    (case k34 => k_is)
    (case a35 => k_is)
    (case l35 => k_is)
    (case c35 => k_is)
    (case k35 => k_is)
    (case a36 => k_is)
    (case l36 => k_is)
    (case c36 => k_is)
    (case k36 => k_is)
    (case a37 => k_is)
    (case l37 => k_is)
    (case c37 => k_is)
    (case k37 => k_is)
    (case a38 => k_is)
    (case l38 => k_is)
    (case c38 => k_is)
    (case k38 => k_is)
    (case a39 => k_is)
    (case l39 => k_is)
    (case c39 => k_is)
    (case k39 => k_is)
    (case a40 => k_is)
    (case l40 => k_is)
    (case c40 => k_is)
    (case k40 => k_is)
    (case a41 => k_is)
    (case l41 => k_is)
    (case c41 => k_is)
    (case k41 => k_is)
    (case a42 => k_is)
    (case l42 => k_is)
    (case c42 => k_is)
    (case k42 => k_is)
    (case a44 => k_is)
    (case l44 => k_is)
    (case c44 => k_is)
    (case k44 => k_is)
    (case o44 => k_is)
    (case p44 => rfl)
    (case u44 => first | rfl | kernel_rfl)
    (case n44 => first | rfl | k_is)
    (case T44 => exact PySem.W.km_tabs_of Y _ (by decide))
    (case a43 => k_is)
    (case l43 => k_is)
    (case c43 => k_is)
    (case k43 => k_is)
    (case o43 => k_is)
    (case p43 => rfl)
    (case u43 => first | rfl | kernel_rfl)
    (case n43 => first | rfl | k_is)
    (case T43 => exact PySem.W.km_tabs_of Y _ (by decide))
    (case a45 => k_is)
    (case l45 => k_is)
    (case c45 => k_is)
    (case k45 => k_is)
    (case nP43_44 => decide)
    (case z_ValueError => k_is)
    (case z_abs => k_is)
    (case z_all => k_is)
    (case z_bool => k_is)
    (case z_enumerate => k_is)
    (case z_int => k_is)
    (case z_isinstance => k_is)
    (case z_len => k_is)
    (case z_list => k_is)
    (case z_max => k_is)
    (case z_min => k_is)
    (case z_range => k_is)
    (case z_repr => k_is)
    (case z_sorted => k_is)
    (case z_sum => k_is)
    (case z_tuple => k_is)
    (case z_zip => k_is)
    (case c_MOST_LISTED => k_is)
    (case c_MOST_NUMBER => k_is)
    (case c_MOST_PARTS => k_is)
    (case gC5 => k_is)
    (case q5 => first | k_exc | k_is)
    (case kC5 => k_is)
    (case bC5 => k_is)
    (case tC5 => k_is)
    (case gC6 => k_is)
    (case q6 => first | k_exc | k_is)
    (case kC6 => k_is)
    (case bC6 => k_is)
    (case tC6 => k_is)
    (case gC7 => k_is)
    (case q7 => first | k_exc | k_is)
    (case kC7 => k_is)
    (case bC7 => k_is)
    (case tC7 => k_is)
    (case gC4 => k_is)
    (case x5hg => k_is)
    (case x5hk => k_is)
    (case x5hd => k_is)
    (case x5ha => k_is)
    (case x5hm => k_is)
    (case v5 => first | rfl | kernel_rfl | k_is)
    (case m5 => first | rfl | kernel_rfl | k_is)
    (case x6hg => k_is)
    (case x6hk => k_is)
    (case x6hd => k_is)
    (case x6ha => k_is)
    (case x6hm => k_is)
    (case v6 => first | rfl | kernel_rfl | k_is)
    (case m6 => first | rfl | kernel_rfl | k_is)
    (case x7hg => k_is)
    (case x7hk => k_is)
    (case x7hd => k_is)
    (case x7ha => k_is)
    (case x7hm => k_is)
    (case v7 => first | rfl | kernel_rfl | k_is)
    (case m7 => first | rfl | kernel_rfl | k_is)
    (case xhn => k_is)
    (case xht => k_is)
    (case k5_5 => first | rfl | kernel_rfl | k_is)
    (case k5_6 => first | rfl | kernel_rfl | k_is)
    (case k5_7 => first | rfl | kernel_rfl | k_is)
    (case k6_5 => first | rfl | kernel_rfl | k_is)
    (case k6_6 => first | rfl | kernel_rfl | k_is)
    (case k6_7 => first | rfl | kernel_rfl | k_is)
    (case k7_5 => first | rfl | kernel_rfl | k_is)
    (case k7_6 => first | rfl | kernel_rfl | k_is)
    (case k7_7 => first | rfl | kernel_rfl | k_is)
